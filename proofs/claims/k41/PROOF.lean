import PyProof.Rows.All
import Wide.All
import OpenK.AllK
import Wide.FinOn
import PyProof.EqAt
import PyProof.EqKinds
import PyProof.TupleCall
import HandS.Base
import HandS.Call
import HandS.List
import HandS.Comp
import HandS.Iter
import HandS.Exc
import HandS.Words
import HandS.WordsExc
import HandS.Lambda
import HandS.TupAny
import HandS.Style
import HandS.Deep
import HandS.Conv
import HandS.IsInst
import HandS.Zip
import HandS.WideBits
import HandS.SortInts
import HandS.Defaults
import HandS.Head0
import HandS.Head1
import HandS.Head2
import HandS.HeadEnd
import HandS.HeadHook1
import HandS.HeadHook2
import PyProof.ReprRoads
import PyProof.ReprLen
import PyProof.Rows.ReprOcc
import HandS.More
import HandS.Dict
import KE.GoesNew
import HandS.SortRule
import KE.KDictZip
import HandS.TryOnly
import KE.KRevSl
import KE.GoesEnum
import KE.DatumOrd
import KE.DataAny
import HandS.TupMul
import KE.KStateDown
import Lean
import HandS.Ends
import PySem.Challenge.RW_wholegrids_k41_whole_ends_rims_and_round
set_option Elab.async false
set_option linter.all false
set_option maxRecDepth 100000
set_option maxHeartbeats 0
/-! PF: pure data, a frozen part of the heap, expressions as functions over data. -/
namespace PF
open PySem PySem.Spec PyProof.Rows L2

inductive D where
  | non | bl (b : Bool) | int (i : Int) | str (x : Str) | lst (xs : List D) | tup (xs : List D)
  | scr (ns : List Int) | pot (g : Nat) | emp

structure Pst where
  g : Nat
  a : Int
  b : Int

structure Ex where
  cls : Str
  args : List D

inductive Res (α : Type) where
  | ok (a : α) (p : Pst) | exc (x : Ex) (p : Pst) | stuck

inductive W where
  | val (d : D) | own (xs : List D)

abbrev Sl := List (Option W)
abbrev M (α : Type) := Sl → Pst → Res α

/-! ### values stand for data: F the frozen part of the heap -/
inductive Rep (K : PySem.W.Frag) (F : Hp) (g : Nat) (pa : Option Addr) : V → D → Prop
  | non : Rep K F g pa .non .non
  | bl (b : Bool) : Rep K F g pa (.bl b) (.bl b)
  | int (i : Int) : Rep K F g pa (.int i) (.int i)
  | str (x : Str) : Rep K F g pa (.str x) (.str x)
  | lst {a : Addr} {vs : List V} {ds : List D} : F a = some (.lst vs) → ds.length ≤ sizeLine → vs.length = ds.length → (∀ (i : Nat) v d, vs[i]? = some v → ds[i]? = some d → Rep K F g pa v d) → Rep K F g pa (.ref a) (.lst ds)
  | tup {a : Addr} {vs : List V} {ds : List D} : F a = some (.tup vs) → ds.length ≤ sizeLine → vs.length = ds.length → (∀ (i : Nat) v d, vs[i]? = some v → ds[i]? = some d → Rep K F g pa v d) → Rep K F g pa (.ref a) (.tup ds)
  | scr {a : Addr} {ns : List Int} : SqL K F a (ns.map V.int) → Rep K F g pa (.ref a) (.scr ns)
  | pot {v : V} {k : Nat} : k ≤ g → (k = g → ∃ a, pa = some a ∧ v = .ref a) → Rep K F g pa v (.pot k)
  | emp {a : Addr} : F a = some (.dK []) → Rep K F g pa (.ref a) .emp

def AllR {α β : Type} (R : α → β → Prop) (xs : List α) (ys : List β) : Prop := xs.length = ys.length ∧ ∀ (i : Nat) x y, xs[i]? = some x → ys[i]? = some y → R x y

theorem AllR.nil {α β : Type} {R : α → β → Prop} : AllR R ([] : List α) ([] : List β) := ⟨rfl, fun i x y h => by simp at h⟩
theorem AllR.cons {α β : Type} {R : α → β → Prop} {x : α} {y : β} {xs : List α} {ys : List β} (h : R x y) (t : AllR R xs ys) : AllR R (x :: xs) (y :: ys) :=
  ⟨by simp [t.1], fun i a b ha hb => by
    cases i with
    | zero => simp at ha hb; subst ha hb; exact h
    | succ j => exact t.2 j a b (by simpa using ha) (by simpa using hb)⟩
theorem AllR.head {α β : Type} {R : α → β → Prop} {x : α} {y : β} {xs : List α} {ys : List β} (t : AllR R (x :: xs) (y :: ys)) : R x y := t.2 0 x y rfl rfl
theorem AllR.tail {α β : Type} {R : α → β → Prop} {x : α} {y : β} {xs : List α} {ys : List β} (t : AllR R (x :: xs) (y :: ys)) : AllR R xs ys :=
  ⟨by have := t.1; simpa using this, fun i a b ha hb => t.2 (i + 1) a b (by simpa using ha) (by simpa using hb)⟩
theorem AllR.cases {α β : Type} {R : α → β → Prop} : ∀ {xs : List α} {ys : List β}, AllR R xs ys → (xs = [] ∧ ys = []) ∨ ∃ x y xs' ys', xs = x :: xs' ∧ ys = y :: ys' ∧ R x y ∧ AllR R xs' ys'
  | [], [], _ => .inl ⟨rfl, rfl⟩
  | [], _ :: _, h => by have := h.1; simp at this
  | _ :: _, [], h => by have := h.1; simp at this
  | x :: xs, y :: ys, h => .inr ⟨x, y, xs, ys, rfl, rfl, h.head, h.tail⟩
theorem AllR.append {α β : Type} {R : α → β → Prop} {xs xs' : List α} {ys ys' : List β} (h : AllR R xs ys) (h' : AllR R xs' ys') : AllR R (xs ++ xs') (ys ++ ys') :=
  ⟨by simp [h.1, h'.1], fun i a b ha hb => by
    by_cases hi : i < xs.length
    · rw [List.getElem?_append_left hi] at ha
      rw [List.getElem?_append_left (by rw [← h.1]; exact hi)] at hb
      exact h.2 i a b ha hb
    · rw [List.getElem?_append_right (by omega)] at ha
      rw [List.getElem?_append_right (by rw [← h.1]; omega), ← h.1] at hb
      exact h'.2 _ a b ha hb⟩
theorem AllR.mono {α β : Type} {R R' : α → β → Prop} {xs : List α} {ys : List β} (h : AllR R xs ys) (f : ∀ x y, R x y → R' x y) : AllR R' xs ys := ⟨h.1, fun i a b ha hb => f _ _ (h.2 i a b ha hb)⟩
theorem AllR.get {α β : Type} {R : α → β → Prop} {xs : List α} {ys : List β} (h : AllR R xs ys) {i : Nat} {y : β} (e : ys[i]? = some y) : ∃ x, xs[i]? = some x ∧ R x y := by
  have hi : i < ys.length := (List.getElem?_eq_some_iff.mp e).1
  have hi' : i < xs.length := by rw [h.1]; exact hi
  exact ⟨xs[i], by simp [hi'], h.2 i _ _ (by simp [hi']) e⟩
theorem AllR.get' {α β : Type} {R : α → β → Prop} {xs : List α} {ys : List β} (h : AllR R xs ys) {i : Nat} {x : α} (e : xs[i]? = some x) : ∃ y, ys[i]? = some y ∧ R x y := by
  have hi : i < xs.length := (List.getElem?_eq_some_iff.mp e).1
  have hi' : i < ys.length := by rw [← h.1]; exact hi
  exact ⟨ys[i], by simp [hi'], h.2 i _ _ e (by simp [hi'])⟩
theorem AllR.set {α β : Type} {R : α → β → Prop} {xs : List α} {ys : List β} {x : α} {y : β} (h : AllR R xs ys) (r : R x y) (j : Nat) : AllR R (xs.set j x) (ys.set j y) :=
  ⟨by simp [h.1], fun i a b ha hb => by
    rw [List.getElem?_set] at ha hb
    by_cases e : j = i
    · subst e
      simp only [if_true] at ha hb
      split at ha
      · split at hb
        · cases ha; cases hb; exact r
        · cases hb
      · cases ha
    · rw [if_neg e] at ha hb
      exact h.2 i a b ha hb⟩
theorem AllR.take {α β : Type} {R : α → β → Prop} {xs : List α} {ys : List β} (h : AllR R xs ys) (n : Nat) : AllR R (xs.take n) (ys.take n) :=
  ⟨by simp [h.1], fun i a b ha hb => by
    rw [List.getElem?_take] at ha hb
    split at ha
    · rename_i hi; rw [if_pos hi] at hb; exact h.2 i a b ha hb
    · cases ha⟩
theorem AllR.drop {α β : Type} {R : α → β → Prop} {xs : List α} {ys : List β} (h : AllR R xs ys) (n : Nat) : AllR R (xs.drop n) (ys.drop n) :=
  ⟨by simp [h.1], fun i a b ha hb => by
    rw [List.getElem?_drop] at ha hb
    exact h.2 _ a b ha hb⟩
theorem AllR.reverse {α β : Type} {R : α → β → Prop} {xs : List α} {ys : List β} (h : AllR R xs ys) : AllR R xs.reverse ys.reverse :=
  ⟨by simp [h.1], fun i a b ha hb => by
    have hi : i < xs.reverse.length := (List.getElem?_eq_some_iff.mp ha).1
    have hi2 : i < xs.length := by simpa using hi
    rw [List.getElem?_reverse hi2] at ha
    rw [List.getElem?_reverse (by rw [← h.1]; exact hi2), ← h.1] at hb
    exact h.2 _ a b ha hb⟩

abbrev Reps (K : PySem.W.Frag) (F : Hp) (g : Nat) (pa : Option Addr) : List V → List D → Prop := AllR (Rep K F g pa)

/-- the frozen part and the pot's generation go on -/
structure Fz (F : Hp) (g : Nat) (pa : Option Addr) (F' : Hp) (g' : Nat) (pa' : Option Addr) : Prop where
  sub : ∀ a o, F a = some o → F' a = some o
  gle : g ≤ g'
  same : g = g' → pa' = pa
theorem Fz.refl {F : Hp} {g : Nat} {pa : Option Addr} : Fz F g pa F g pa := ⟨fun _ _ h => h, Nat.le_refl _, fun _ => rfl⟩
theorem Fz.trans {F F1 F2 : Hp} {g g1 g2 : Nat} {pa pa1 pa2 : Option Addr} (a : Fz F g pa F1 g1 pa1) (b : Fz F1 g1 pa1 F2 g2 pa2) : Fz F g pa F2 g2 pa2 :=
  ⟨fun c o h => b.sub c o (a.sub c o h), Nat.le_trans a.gle b.gle, fun e => by
    have h1 := a.gle
    have h2 := b.gle
    rw [b.same (by omega), a.same (by omega)]⟩
theorem sqL_mono {K : PySem.W.Frag} {F F' : Hp} {a : Addr} {xs : List V} (h : ∀ a o, F a = some o → F' a = some o) (s : SqL K F a xs) : SqL K F' a xs := by
  rcases s with (s | ⟨o, s⟩) | s
  · exact .inl (.inl (h _ _ s))
  · exact .inl (.inr ⟨o, h _ _ s⟩)
  · exact .inr s
theorem Rep.mono {K : PySem.W.Frag} {F F' : Hp} {g g' : Nat} {pa pa' : Option Addr} {v : V} {d : D} (r : Rep K F g pa v d) (z : Fz F g pa F' g' pa') : Rep K F' g' pa' v d := by
  induction r with
  | non => exact .non
  | bl b => exact .bl b
  | int i => exact .int i
  | str x => exact .str x
  | lst h hz hl _ ih => exact .lst (z.sub _ _ h) hz hl fun i v d h1 h2 => ih i v d h1 h2
  | tup h hz hl _ ih => exact .tup (z.sub _ _ h) hz hl fun i v d h1 h2 => ih i v d h1 h2
  | scr h => exact .scr (sqL_mono z.sub h)
  | pot h1 h2 =>
    refine .pot (Nat.le_trans h1 z.gle) fun e => ?_
    have h3 := z.gle
    obtain ⟨a, e1, e2⟩ := h2 (by omega)
    exact ⟨a, by rw [z.same (by omega)]; exact e1, e2⟩
  | emp h => exact .emp (z.sub _ _ h)
theorem Reps.mono {K : PySem.W.Frag} {F F' : Hp} {g g' : Nat} {pa pa' : Option Addr} {v : List V} {d : List D} (r : Reps K F g pa v d) (z : Fz F g pa F' g' pa') : Reps K F' g' pa' v d := AllR.mono r fun _ _ h => h.mono z
theorem Rep.lst' {K : PySem.W.Frag} {F : Hp} {g : Nat} {pa : Option Addr} {a : Addr} {vs : List V} {ds : List D} (h : F a = some (.lst vs)) (hz : ds.length ≤ sizeLine) (r : Reps K F g pa vs ds) : Rep K F g pa (.ref a) (.lst ds) := .lst h hz r.1 r.2
theorem Rep.tup' {K : PySem.W.Frag} {F : Hp} {g : Nat} {pa : Option Addr} {a : Addr} {vs : List V} {ds : List D} (h : F a = some (.tup vs)) (hz : ds.length ≤ sizeLine) (r : Reps K F g pa vs ds) : Rep K F g pa (.ref a) (.tup ds) := .tup h hz r.1 r.2
theorem Rep.lst_inv {K : PySem.W.Frag} {F : Hp} {g : Nat} {pa : Option Addr} {v : V} {ds : List D} (r : Rep K F g pa v (.lst ds)) : ∃ a vs, v = .ref a ∧ F a = some (.lst vs) ∧ ds.length ≤ sizeLine ∧ Reps K F g pa vs ds := by
  cases r with
  | lst h hz hl hr => exact ⟨_, _, rfl, h, hz, hl, hr⟩
theorem Rep.tup_inv {K : PySem.W.Frag} {F : Hp} {g : Nat} {pa : Option Addr} {v : V} {ds : List D} (r : Rep K F g pa v (.tup ds)) : ∃ a vs, v = .ref a ∧ F a = some (.tup vs) ∧ ds.length ≤ sizeLine ∧ Reps K F g pa vs ds := by
  cases r with
  | tup h hz hl hr => exact ⟨_, _, rfl, h, hz, hl, hr⟩

/-! ### the state: slots, frozen part, heap, pot -/
/-- what is true of the heap alone -/
structure GS (F H : Hp) (pa : Option Addr) (p : Pst) : Prop where
  sub : ∀ a o, F a = some o → H a = some o
  pot : ∀ a, pa = some a → H a = some (.lst [.int p.a, .int p.b]) ∧ F a = none
def WRep (K : PySem.W.Frag) (F H : Hp) (g : Nat) (pa : Option Addr) (v : V) : W → Prop
  | .val d => Rep K F g pa v d
  | .own xs => ∃ a vs, v = .ref a ∧ H a = some (.lst vs) ∧ F a = none ∧ pa ≠ some a ∧ xs.length ≤ sizeLine ∧ Reps K F g pa vs xs
structure SRel (K : PySem.W.Frag) (F H : Hp) (g : Nat) (pa : Option Addr) (σ : L2.St) (ρ : Sl) : Prop where
  len : ρ.length = σ.length
  rep : ∀ (i : Nat) w, ρ[i]? = some (some w) → ∃ v, σ[i]? = some (some v) ∧ WRep K F H g pa v w
  apart : ∀ (i j : Nat) xs ys v, ρ[i]? = some (some (.own xs)) → ρ[j]? = some (some (.own ys)) → σ[i]? = some (some v) → σ[j]? = some (some v) → i = j
/-- the heap goes on -/
structure Gr (F H : Hp) (g : Nat) (pa : Option Addr) (F' H' : Hp) (g' : Nat) (pa' : Option Addr) : Prop where
  fz : Fz F g pa F' g' pa'
  new : ∀ a o, F' a = some o → F a = some o ∨ H a = none
  keep : ∀ a o, H a = some o → pa ≠ some a → H' a = some o
  there : ∀ a o, H a = some o → ∃ o', H' a = some o'
  pot : pa' = pa ∨ ∃ a, pa' = some a ∧ H a = none
theorem Gr.refl {F H : Hp} {g : Nat} {pa : Option Addr} : Gr F H g pa F H g pa := ⟨.refl, fun _ _ h => .inl h, fun _ _ h _ => h, fun _ o h => ⟨o, h⟩, .inl rfl⟩
theorem Gr.trans {F H F1 H1 F2 H2 : Hp} {g g1 g2 : Nat} {pa pa1 pa2 : Option Addr} (x : Gr F H g pa F1 H1 g1 pa1) (y : Gr F1 H1 g1 pa1 F2 H2 g2 pa2) : Gr F H g pa F2 H2 g2 pa2 := by
  refine ⟨x.fz.trans y.fz, fun a o h => ?_, fun a o h n => ?_, fun a o h => ?_, ?_⟩
  · rcases y.new a o h with h | h
    · exact x.new a o h
    · right
      cases q : H a with
      | none => rfl
      | some u =>
        obtain ⟨o', e⟩ := x.there a u q
        rw [e] at h; cases h
  · refine y.keep a o (x.keep a o h n) fun e => ?_
    rcases x.pot with q | ⟨b, q, hb⟩
    · exact n (by rw [← q]; exact e)
    · rw [q] at e; cases e; rw [h] at hb; cases hb
  · obtain ⟨o1, h1⟩ := x.there a o h
    exact y.there a o1 h1
  · rcases y.pot with q | ⟨b, q, hb⟩
    · rcases x.pot with q' | ⟨c, q', hc⟩
      · exact .inl (q.trans q')
      · exact .inr ⟨c, q.trans q', hc⟩
    · refine .inr ⟨b, q, ?_⟩
      cases e : H b with
      | none => rfl
      | some u =>
        obtain ⟨o', e'⟩ := x.there b u e
        rw [e'] at hb; cases hb
/-- the slots' meaning goes along -/
theorem SRel.grow {K : PySem.W.Frag} {F H F' H' : Hp} {g g' : Nat} {pa pa' : Option Addr} {σ : L2.St} {ρ : Sl} (s : SRel K F H g pa σ ρ) (x : Gr F H g pa F' H' g' pa') : SRel K F' H' g' pa' σ ρ := by
  refine ⟨s.len, fun i w h => ?_, s.apart⟩
  obtain ⟨v, e, r⟩ := s.rep i w h
  refine ⟨v, e, ?_⟩
  cases w with
  | val d => exact Rep.mono r x.fz
  | own xs =>
    obtain ⟨a, vs, e1, e2, e3, e4, e6, e5⟩ := r
    refine ⟨a, vs, e1, x.keep a _ e2 e4, ?_, fun q => ?_, e6, e5.mono x.fz⟩
    · cases q : F' a with
      | none => rfl
      | some o =>
        rcases x.new a o q with z | z
        · rw [e3] at z; cases z
        · rw [e2] at z; cases z
    · rcases x.pot with z | ⟨b, z, hb⟩
      · exact e4 (by rw [← z]; exact q)
      · rw [z] at q; cases q; rw [e2] at hb; cases hb

/-! ### expressions -/
/-- an exception stands for x: its class by the module's name, its own dict -/
def fldNames : Str → List Str := fun c => if c = "TooMany" then ["what", "limit"] else if c = "BadText" then ["place"] else ["value"]
def ExRep (K : PySem.W.Frag) (mg : Str → Option Value) (F : Hp) (g : Nat) (pa : Option Addr) (cls : Value) (d : Option Addr) (x : Ex) : Prop :=
  mg x.cls = some cls ∧ (x.args = [] ∨ ∃ dd vs, d = some dd ∧ F dd = some (.xd ((fldNames x.cls).zip vs)) ∧ Reps K F g pa vs x.args)
/-- what a result leaves, from F, H, g, pa on: P of it, or the wish of an exception -/
def Out {α : Type} (K : PySem.W.Frag) (mg : Str → Option Value) (Wx : WX) (σ : L2.St) (F H : Hp) (g : Nat) (pa : Option Addr) (P : α → Pst → Hp → Hp → Option Addr → Prop) : Res α → Prop
  | .ok a p' => ∀ F' H' pa', Gr F H g pa F' H' p'.g pa' → GS F' H' pa' p' → P a p' F' H' pa'
  | .exc x p' => ∀ cls dd F' H' pa', Gr F H g pa F' H' p'.g pa' → GS F' H' pa' p' → ExRep K mg F' p'.g pa' cls dd x → Wx cls dd σ H'
  | .stuck => False
/-- at some state of the slots ρ, m leaves P -/
def At {α : Type} (K : PySem.W.Frag) (mg : Str → Option Value) (Wx : WX) (m : M α) (σ : L2.St) (H : Hp) (P : Hp → Option Addr → α → Pst → Hp → Hp → Option Addr → Prop) : Prop :=
  ∃ F pa p ρ, GS F H pa p ∧ SRel K F H p.g pa σ ρ ∧ Out K mg Wx σ F H p.g pa (P F pa) (m ρ p)
/-- the reading of an expression by m; Wx: what is wished of an exception -/
def TM (K : PySem.W.Frag) (mg : Str → Option Value) (Wx : WX) (m : M D) : TE := fun σ H Q => At K mg Wx m σ H fun _ _ d p' F' H' pa' => ∀ v, Rep K F' p'.g pa' v d → Q v H'
structure PM (X : Cx) (Wx : WX) (e : Expr) (m : M D) : Prop where
  pe : PE X e (TM X.K X.mg Wx m)
/-- a fresh list -/
def TMo (K : PySem.W.Frag) (mg : Str → Option Value) (Wx : WX) (m : M (List D)) : TE := fun σ H Q => At K mg Wx m σ H fun _ _ ds p' F' H' pa' => ∀ a vs, H a = none → H' a = some (.lst vs) → F' a = none → pa' ≠ some a → ds.length ≤ sizeLine → Reps K F' p'.g pa' vs ds → Q (.ref a) H'
structure PMo (X : Cx) (Wx : WX) (e : Expr) (m : M (List D)) : Prop where
  pe : PE X e (TMo X.K X.mg Wx m)
/-- a test -/
def TMt (K : PySem.W.Frag) (mg : Str → Option Value) (Wx : WX) (m : M Bool) : TT := fun σ H Q => At K mg Wx m σ H fun _ _ b p' F' H' pa' => Q b H'
structure PMt (X : Cx) (Wx : WX) (e : Expr) (m : M Bool) : Prop where
  pt : PT X e (TMt X.K X.mg Wx m)
/-- an argument list -/
def TMa (K : PySem.W.Frag) (mg : Str → Option Value) (Wx : WX) (m : M (List D)) : TA := fun σ H Q => At K mg Wx m σ H fun _ _ ds p' F' H' pa' => ∀ vs, Reps K F' p'.g pa' vs ds → Q vs H'
structure PMa (X : Cx) (Wx : WX) (es : List Expr) (m : M (List D)) : Prop where
  pa : PA X es (TMa X.K X.mg Wx m)

theorem _root_.L2.PE.imp {X : Cx} {e : Expr} {t t' : TE} (h : PE X e t) (f : ∀ σ H Q, t' σ H Q → t σ H Q) : PE X e t' := ⟨fun pins s σ H Q I q => h.run pins s σ H Q I (f σ H Q q)⟩
theorem _root_.L2.PT.imp {X : Cx} {e : Expr} {t t' : TT} (h : PT X e t) (f : ∀ σ H Q, t' σ H Q → t σ H Q) : PT X e t' := ⟨fun pins s σ H Q I q => h.run pins s σ H Q I (f σ H Q q)⟩
theorem _root_.L2.PW.imp {X : Cx} {e : Expr} {t t' : TT} (h : PW X e t) (f : ∀ σ H Q, t' σ H Q → t σ H Q) : PW X e t' := ⟨fun wh pins s σ H Q I q => h.run wh pins s σ H Q I (f σ H Q q)⟩
theorem _root_.L2.PA.imp {X : Cx} {e : List Expr} {t t' : TA} (h : PA X e t) (f : ∀ σ H Q, t' σ H Q → t σ H Q) : PA X e t' := ⟨fun pos pins s σ H Q I q => h.run pos pins s σ H Q I (f σ H Q q)⟩

/-! ### the monad -/
def mret {α : Type} (a : α) : M α := fun _ p => .ok a p
def mbind {α β : Type} (m : M α) (k : α → M β) : M β := fun ρ p => match m ρ p with
  | .ok a p' => k a ρ p'
  | .exc x p' => .exc x p'
  | .stuck => .stuck
def mstuck {α : Type} : M α := fun _ _ => .stuck
def mopt {α : Type} (o : Option α) : M α := fun _ p => match o with
  | some a => .ok a p
  | none => .stuck

section
variable {K : PySem.W.Frag} {mg : Str → Option Value} {Wx : WX} {σ : L2.St} {F H : Hp} {g : Nat} {pa : Option Addr}
theorem Out.bind {α β : Type} {P : β → Pst → Hp → Hp → Option Addr → Prop} {m : M α} {k : α → M β} {ρ : Sl} {p : Pst} (h : Out K mg Wx σ F H g pa P (mbind m k ρ p)) :
    Out K mg Wx σ F H g pa (fun a p' F' H' pa' => Out K mg Wx σ F' H' p'.g pa' P (k a ρ p')) (m ρ p) := by
  unfold mbind at h
  cases e : m ρ p with
  | stuck => rw [e] at h; exact h
  | exc x p' => rw [e] at h; exact h
  | ok a p' =>
    rw [e] at h
    intro F' H' pa' gr gs
    cases e2 : k a ρ p' with
    | stuck => simp only [e2] at h; exact h
    | exc x p2 => simp only [e2] at h; exact fun cls dd F2 H2 pa2 gr2 gs2 r => h cls dd F2 H2 pa2 (gr.trans gr2) gs2 r
    | ok b p2 => simp only [e2] at h; exact fun F2 H2 pa2 gr2 gs2 => h F2 H2 pa2 (gr.trans gr2) gs2
theorem Out.mono {α : Type} {P P' : α → Pst → Hp → Hp → Option Addr → Prop} {r : Res α} (h : Out K mg Wx σ F H g pa P r) (f : ∀ a p' F' H' pa', Gr F H g pa F' H' p'.g pa' → GS F' H' pa' p' → P a p' F' H' pa' → P' a p' F' H' pa') : Out K mg Wx σ F H g pa P' r := by
  cases r with
  | stuck => exact h
  | exc x p' => exact h
  | ok a p' => exact fun F' H' pa' gr gs => f _ _ _ _ _ gr gs (h F' H' pa' gr gs)
theorem Out.ret {α : Type} {P : α → Pst → Hp → Hp → Option Addr → Prop} {a : α} {p : Pst} (h : Out K mg Wx σ F H p.g pa P (.ok a p)) (gs : GS F H pa p) : P a p F H pa := h F H pa .refl gs
theorem Out.opt {α : Type} {P : α → Pst → Hp → Hp → Option Addr → Prop} {o : Option α} {ρ : Sl} {p : Pst} (h : Out K mg Wx σ F H g pa P (mopt o ρ p)) : ∃ a, o = some a ∧ Out K mg Wx σ F H g pa P (.ok a p) := by
  cases o with
  | none => exact h.elim
  | some a => exact ⟨a, rfl, h⟩
end
end PF

namespace PF
open PySem PySem.Spec PyProof.Rows L2

/-! ### new objects -/
section
variable {K : PySem.W.Frag} {F H : Hp} {p : Pst} {pa : Option Addr} {q : Addr} {o : HO}
theorem GS.pne (gs : GS F H pa p) (hq : H q = none) : pa ≠ some q := fun e => by
  obtain ⟨z, _⟩ := gs.pot q e
  rw [hq] at z; cases z
theorem GS.fnone (gs : GS F H pa p) (hq : H q = none) : F q = none := by
  cases e : F q with
  | none => rfl
  | some o => rw [gs.sub _ _ e] at hq; cases hq
/-- a new object that is frozen -/
theorem GS.alloc (gs : GS F H pa p) (hq : H q = none) : GS (upd F q o) (upd H q o) pa p := by
  refine ⟨fun a u h => ?_, fun a e => ?_⟩
  · by_cases ha : a = q
    · subst ha; rw [upd_same] at h ⊢; exact h
    · rw [upd_ne ha] at h ⊢; exact gs.sub a u h
  · have ha : a ≠ q := fun z => gs.pne hq (by rw [← z]; exact e)
    rw [upd_ne ha, upd_ne ha]; exact gs.pot a e
theorem Gr.alloc (gs : GS F H pa p) (hq : H q = none) {g : Nat} : Gr F H g pa (upd F q o) (upd H q o) g pa := by
  refine ⟨⟨fun a u h => ?_, Nat.le_refl _, fun _ => rfl⟩, fun a u h => ?_, fun a u h _ => ?_, fun a u h => ?_, .inl rfl⟩
  · rw [upd_ne fun z => ?_]; exact h
    subst z; rw [gs.fnone hq] at h; cases h
  · by_cases ha : a = q
    · subst ha; exact .inr hq
    · rw [upd_ne ha] at h; exact .inl h
  · rw [upd_ne (ne_of_none h hq)]; exact h
  · exact ⟨u, by rw [upd_ne (ne_of_none h hq)]; exact h⟩
/-- a new object that is not -/
theorem GS.allocO (gs : GS F H pa p) (hq : H q = none) : GS F (upd H q o) pa p := by
  refine ⟨fun a u h => ?_, fun a e => ?_⟩
  · rw [upd_ne fun z => ?_]; exact gs.sub a u h
    subst z; rw [gs.fnone hq] at h; cases h
  · have ha : a ≠ q := fun z => gs.pne hq (by rw [← z]; exact e)
    rw [upd_ne ha]; exact gs.pot a e
theorem Gr.allocO (hq : H q = none) {g : Nat} : Gr F H g pa F (upd H q o) g pa := by
  refine ⟨.refl, fun a u h => .inl h, fun a u h _ => ?_, fun a u h => ?_, .inl rfl⟩
  · rw [upd_ne (ne_of_none h hq)]; exact h
  · exact ⟨u, by rw [upd_ne (ne_of_none h hq)]; exact h⟩
/-- a fresh list is frozen -/
theorem GS.freeze (gs : GS F H pa p) (hH : H q = some o) (hp : pa ≠ some q) : GS (upd F q o) H pa p := by
  refine ⟨fun a u h => ?_, fun a e => ?_⟩
  · by_cases ha : a = q
    · subst ha; rw [upd_same] at h; rw [← h]; exact hH
    · rw [upd_ne ha] at h; exact gs.sub a u h
  · have ha : a ≠ q := fun z => hp (by rw [← z]; exact e)
    rw [upd_ne ha]; exact gs.pot a e
theorem Gr.freeze {F' H' : Hp} {g g' : Nat} {pa' : Option Addr} (x : Gr F H g pa F' H' g' pa') (hq : H q = none) (hF : F' q = none) : Gr F H g pa (upd F' q o) H' g' pa' := by
  refine ⟨⟨fun a u h => ?_, x.fz.gle, x.fz.same⟩, fun a u h => ?_, x.keep, x.there, x.pot⟩
  · have := x.fz.sub a u h
    rw [upd_ne fun z => ?_]; exact this
    subst z; rw [hF] at this; cases this
  · by_cases ha : a = q
    · subst ha; exact .inr hq
    · rw [upd_ne ha] at h; exact x.new a u h
theorem Fz.upd (hF : F q = none) {g : Nat} : Fz F g pa (L2.upd F q o) g pa := by
  refine ⟨fun a u h => ?_, Nat.le_refl _, fun _ => rfl⟩
  rw [upd_ne fun z => ?_]; exact h
  subst z; rw [hF] at h; cases h
end

section
variable {X : Cx} {Wx : WX} {a b c e : Expr} {es : List Expr} {ma mb mc m : M D} {pos : Pos}

/-! ### names, constants -/
def rd (i : Nat) : M D := fun ρ p => match ρ[i]? with
  | some (some (.val d)) => .ok d p
  | _ => .stuck
theorem pm_of {i : Nat} {x : Str} (h : PE X (.Name x pos) (tVar i)) : PM X Wx (.Name x pos) (rd i) := ⟨h.imp fun σ H Q ⟨F, pa, p, ρ, gs, s, o⟩ => by
  unfold rd at o
  cases e : ρ[i]? with
  | none => rw [e] at o; exact o.elim
  | some w =>
    rw [e] at o
    cases w with
    | none => exact o.elim
    | some w =>
      cases w with
      | own xs => exact o.elim
      | val d =>
        obtain ⟨v, h1, r⟩ := s.rep i _ e
        exact ⟨v, h1, o.ret gs v r⟩⟩
theorem pm_const {v : V} {d : D} {e : Expr} (h : PE X e (tC v)) (r : ∀ F g pa, Rep X.K F g pa v d) : PM X Wx e (mret d) := ⟨h.imp fun σ H Q ⟨F, pa, p, ρ, gs, s, o⟩ => Out.ret o gs v (r _ _ _)⟩
theorem pm_int {i j} : PM X Wx (.Constant (.int i) j pos) (mret (.int i)) := pm_const pe_int fun _ _ _ => .int i
theorem pm_bl {i j} : PM X Wx (.Constant (.bool i) j pos) (mret (.bl i)) := pm_const pe_bl fun _ _ _ => .bl i
theorem pm_str {i j} : PM X Wx (.Constant (.str i) j pos) (mret (.str i)) := pm_const pe_str fun _ _ _ => .str i
theorem pm_non {j} : PM X Wx (.Constant .none j pos) (mret .non) := pm_const pe_non fun _ _ _ => .non
theorem pm_gint {x : Str} {i : Int} (hg : Gl X x) (hm : ∃ t, X.mg x = some (.int i t)) (hd : (x == ("__debug__" : Str)) = false := by decide) : PM X Wx (.Name x pos) (mret (.int i)) := by
  obtain ⟨t, e⟩ := hm
  exact pm_const (pe_glob hg e (v := .int i) ⟨t, rfl⟩ hd) fun _ _ _ => .int i
theorem pm_gstr {x : Str} {i : Str} (hg : Gl X x) (hm : ∃ t, X.mg x = some (.str i t)) (hd : (x == ("__debug__" : Str)) = false := by decide) : PM X Wx (.Name x pos) (mret (.str i)) := by
  obtain ⟨t, e⟩ := hm
  exact pm_const (pe_glob hg e (v := .str i) ⟨t, rfl⟩ hd) fun _ _ _ => .str i

/-! ### two in a row -/
theorem TM.of {K : PySem.W.Frag} {mg : Str → Option Value} {σ : L2.St} {F H : Hp} {pa : Option Addr} {p : Pst} {ρ : Sl} {Q : VK} (gs : GS F H pa p) (s : SRel K F H p.g pa σ ρ)
    (h : Out K mg Wx σ F H p.g pa (fun d p' F' H' pa' => SRel K F' H' p'.g pa' σ ρ → ∀ v, Rep K F' p'.g pa' v d → Q v H') (m ρ p)) : TM K mg Wx m σ H Q :=
  ⟨F, pa, p, ρ, gs, s, h.mono fun _ _ _ _ _ gr _ k v r => k (s.grow gr) v r⟩
def OpS (X : Cx) (r : R2) (op : D → D → Option D) : Prop := ∀ (x y : V) (d e z : D) (F H : Hp) (p : Pst) (pa : Option Addr) (Q : VK), GS F H pa p → Rep X.K F p.g pa x d → Rep X.K F p.g pa y e → op d e = some z →
  (∀ v F' H', Gr F H p.g pa F' H' p.g pa → GS F' H' pa p → Rep X.K F' p.g pa v z → Q v H') → r x y H Q
def mOp (op : D → D → Option D) (ma mb : M D) : M D := mbind ma fun x => mbind mb fun y => mopt (op x y)
theorem tm_op {r : R2} {f : D → D → Option D} (hs : OpS X r f) : ∀ σ H Q, TM X.K X.mg Wx (mOp f ma mb) σ H Q → tOp r (TM X.K X.mg Wx ma) (TM X.K X.mg Wx mb) σ H Q := fun σ H Q ⟨F, pa, p, ρ, gs, s, o⟩ => by
  refine TM.of gs s (o.bind.mono fun d p1 F1 H1 pa1 gr1 gs1 o1 s1 v1 r1 => ?_)
  refine TM.of gs1 s1 (o1.bind.mono fun e p2 F2 H2 pa2 gr2 gs2 o2 s2 v2 r2 => ?_)
  obtain ⟨z, ez, o3⟩ := o2.opt
  exact hs v1 v2 d e z F2 H2 p2 pa2 Q gs2 (r1.mono gr2.fz) r2 ez fun v F3 H3 gr3 gs3 r3 => o3 F3 H3 pa2 gr3 gs3 v r3
theorem pm_op {op : Operator} {r : R2} {f : D → D → Option D} (ho : OpR X (binaryOp op) r) (hs : OpS X r f) (ha : PM X Wx a ma) (hb : PM X Wx b mb) : PM X Wx (.BinOp a op b pos) (mOp f ma mb) :=
  ⟨(pe_op ho ha.pe hb.pe).imp (tm_op hs)⟩
theorem OpS.or {r r' : R2} {f f' : D → D → Option D} (h : OpS X r f) (h' : OpS X r' f') : OpS X (fun x y H Q => r x y H Q ∨ r' x y H Q) (fun d e => (f d e).or (f' d e)) := by
  intro x y d e z F H p pa Q gs rx ry ez k
  have ez : (f d e).or (f' d e) = some z := ez
  cases q : f d e with
  | some z' =>
    rw [q] at ez
    have : z' = z := by simpa using ez
    subst this
    exact .inl (h x y d e z' F H p pa Q gs rx ry q k)
  | none =>
    rw [q] at ez
    exact .inr (h' x y d e z F H p pa Q gs rx ry (by simpa using ez) k)
theorem OpS.imp {r : R2} {f f' : D → D → Option D} (h : OpS X r f) (hf : ∀ d e z, f' d e = some z → f d e = some z) : OpS X r f' := fun x y d e z F H p pa Q gs rx ry ez k => h x y d e z F H p pa Q gs rx ry (hf d e z ez) k

/-! ### ints -/
def dI2 (f : Int → Int → Int) : D → D → Option D
  | .int i, .int j => some (.int (f i j))
  | _, _ => none
def dI2c (C : Int → Int → Bool) (f : Int → Int → Int) : D → D → Option D
  | .int i, .int j => if C i j = true then some (.int (f i j)) else none
  | _, _ => none
theorem ops_I0 {g : Int → Int → Int} : OpS X (rI0 fun i j => .int (g i j)) (dI2 g) := by
  intro x y d e z F H p pa Q gs rx ry ez k
  cases d <;> cases e <;> first | (simp [dI2] at ez; done) | skip
  cases rx; cases ry
  simp only [dI2, Option.some.injEq] at ez
  subst ez
  exact ⟨_, _, rfl, rfl, k _ F H .refl gs (.int _)⟩
theorem ops_I {C : Int → Int → Prop} {Cb : Int → Int → Bool} {g : Int → Int → Int} (hC : ∀ i j, Cb i j = true → C i j) : OpS X (rI C fun i j => .int (g i j)) (dI2c Cb g) := by
  intro x y d e z F H p pa Q gs rx ry ez k
  cases d <;> cases e <;> first | (simp [dI2c] at ez; done) | skip
  cases rx; cases ry
  simp only [dI2c] at ez
  split at ez
  · rename_i hc
    simp only [Option.some.injEq] at ez
    subst ez
    exact ⟨_, _, rfl, rfl, hC _ _ hc, k _ F H .refl gs (.int _)⟩
  · cases ez
def dSub : D → D → Option D := dI2 fun i j => i - j
theorem ops_sub : OpS X (rI0 fun i j => .int (i - j)) dSub := ops_I0
def okMul (i j : Int) : Bool := decide (i.natAbs < 2 ^ 64) || decide (j.natAbs < 2 ^ 64)
def dMulI : D → D → Option D := dI2c okMul fun i j => i * j
theorem ops_mulI : OpS X (rI CMul fun i j => .int (i * j)) dMulI := ops_I fun i j h => by
  unfold okMul at h
  simp only [Bool.or_eq_true, decide_eq_true_eq] at h
  rcases h with h | h
  · left; constructor <;> omega
  · right; constructor <;> omega
def okDiv (_ j : Int) : Bool := decide (j ≠ 0) && decide (j.natAbs < 1073741824)
def dDiv : D → D → Option D := dI2c okDiv fun i j => i.fdiv j
theorem ops_div : OpS X (rI CDivN fun i j => .int (i.fdiv j)) dDiv := ops_I fun i j h => by
  unfold okDiv at h
  simp only [Bool.and_eq_true, decide_eq_true_eq] at h
  exact h
def dMod : D → D → Option D := dI2c (fun _ j => decide (j ≠ 0)) fun i j => i.fmod j
theorem ops_mod : OpS X (rI (fun _ j => j ≠ 0) fun i j => .int (i.fmod j)) dMod := ops_I fun i j h => by simpa using h
def okPow (i j : Int) : Bool := decide (0 ≤ j) && decide (j ≤ 1000000) && decide (i.natAbs < 2 ^ 64)
def dPow : D → D → Option D := dI2c okPow fun i j => i ^ j.toNat
theorem ops_pow : OpS X (rI CPow fun i j => .int (i ^ j.toNat)) dPow := ops_I fun i j h => by
  unfold okPow at h
  simp only [Bool.and_eq_true, decide_eq_true_eq] at h
  exact ⟨h.1.1, h.1.2, h.2⟩
theorem pm_sub (ha : PM X Wx a ma) (hb : PM X Wx b mb) : PM X Wx (.BinOp a .Sub b pos) (mOp dSub ma mb) := pm_op op_sub ops_sub ha hb
theorem pm_div (ha : PM X Wx a ma) (hb : PM X Wx b mb) : PM X Wx (.BinOp a .FloorDiv b pos) (mOp dDiv ma mb) := pm_op op_fdivN ops_div ha hb
theorem pm_mod (ha : PM X Wx a ma) (hb : PM X Wx b mb) : PM X Wx (.BinOp a .Mod b pos) (mOp dMod ma mb) := pm_op op_modN ops_mod ha hb
theorem pm_pow (ha : PM X Wx a ma) (hb : PM X Wx b mb) : PM X Wx (.BinOp a .Pow b pos) (mOp dPow ma mb) := pm_op op_pow ops_pow ha hb

/-! ### sequences put together -/
theorem Rep.lstH {K : PySem.W.Frag} {F H : Hp} {p : Pst} {pa : Option Addr} {v : V} {ds : List D} (gs : GS F H pa p) (r : Rep K F p.g pa v (.lst ds)) : ∃ a vs, v = .ref a ∧ H a = some (.lst vs) ∧ ds.length ≤ sizeLine ∧ Reps K F p.g pa vs ds := by
  obtain ⟨a, vs, e, h, hz, rs⟩ := r.lst_inv
  exact ⟨a, vs, e, gs.sub _ _ h, hz, rs⟩
theorem Rep.tupH {K : PySem.W.Frag} {F H : Hp} {p : Pst} {pa : Option Addr} {v : V} {ds : List D} (gs : GS F H pa p) (r : Rep K F p.g pa v (.tup ds)) : ∃ a vs, v = .ref a ∧ H a = some (.tup vs) ∧ ds.length ≤ sizeLine ∧ Reps K F p.g pa vs ds := by
  obtain ⟨a, vs, e, h, hz, rs⟩ := r.tup_inv
  exact ⟨a, vs, e, gs.sub _ _ h, hz, rs⟩
def dCatL : D → D → Option D
  | .lst xs, .lst ys => if xs.length + ys.length ≤ sizeLine then some (.lst (xs ++ ys)) else none
  | _, _ => none
theorem ops_catL : OpS X rCat dCatL := by
  intro x y d e z F H p pa Q gs rx ry ez k
  cases d <;> cases e <;> first | (simp [dCatL] at ez; done) | skip
  simp only [dCatL] at ez
  split at ez
  · rename_i hc
    simp only [Option.some.injEq] at ez
    subst ez
    obtain ⟨l, xs, rfl, hl, hz1, r1⟩ := rx.lstH gs
    obtain ⟨m, ys, rfl, hm, hz2, r2⟩ := ry.lstH gs
    refine ⟨l, m, xs, ys, rfl, rfl, hl, hm, by rw [r1.1, r2.1]; exact hc, fun q hq => ?_⟩
    exact k _ _ _ (Gr.alloc gs hq) (gs.alloc hq) (Rep.lst' upd_same (by rw [List.length_append]; exact hc) ((AllR.append r1 r2).mono fun _ _ h => h.mono (Fz.upd (gs.fnone hq))))
  · cases ez
def dCatT : D → D → Option D
  | .tup xs, .tup ys => if xs.length + ys.length ≤ sizeLine then some (.tup (xs ++ ys)) else none
  | _, _ => none
theorem ops_catT : OpS X (rCatA X.K) dCatT := by
  intro x y d e z F H p pa Q gs rx ry ez k
  cases d <;> cases e <;> first | (simp [dCatT] at ez; done) | skip
  simp only [dCatT] at ez
  split at ez
  · rename_i hc
    simp only [Option.some.injEq] at ez
    subst ez
    have rx' := rx
    have ry' := ry
    obtain ⟨l, xs, rfl, hl, hz1, r1⟩ := rx.tupH gs
    obtain ⟨m, ys, rfl, hm, hz2, r2⟩ := ry.tupH gs
    refine ⟨l, m, xs, ys, rfl, rfl, SqT.of hl, SqT.of hm, by rw [r1.1, r2.1]; exact hc, fun e => ?_, fun e1 e2 => ?_, fun e1 e2 q hq => ?_⟩
    · subst e
      have e3 := List.eq_nil_of_length_eq_zero (r1.1.symm)
      subst e3
      exact k _ _ _ .refl gs ry'
    · subst e2
      have e3 := List.eq_nil_of_length_eq_zero (r2.1.symm)
      subst e3
      exact k _ _ _ .refl gs (by rw [List.append_nil]; exact rx')
    · exact k _ _ _ (Gr.alloc gs hq) (gs.alloc hq) (Rep.tup' upd_same (by rw [List.length_append]; exact hc) ((AllR.append r1 r2).mono fun _ _ h => h.mono (Fz.upd (gs.fnone hq))))
  · cases ez
def dAddS : D → D → Option D
  | .str x, .str y => if x.length + y.length ≤ sizeLine then some (.str (x ++ y)) else none
  | _, _ => none
theorem ops_addS : OpS X (fun x y H Q => ∃ i j, x = .str i ∧ y = .str j ∧ i.length + j.length ≤ sizeLine ∧ Q (.str (i ++ j)) H) dAddS := by
  intro x y d e z F H p pa Q gs rx ry ez k
  cases d <;> cases e <;> first | (simp [dAddS] at ez; done) | skip
  cases rx; cases ry
  simp only [dAddS] at ez
  split at ez
  · rename_i hc
    simp only [Option.some.injEq] at ez
    subst ez
    exact ⟨_, _, rfl, rfl, hc, k _ F H .refl gs (.str _)⟩
  · cases ez
def dAdd : D → D → Option D
  | .int i, .int j => some (.int (i + j))
  | .lst xs, .lst ys => dCatL (.lst xs) (.lst ys)
  | .tup xs, .tup ys => dCatT (.tup xs) (.tup ys)
  | .str x, .str y => dAddS (.str x) (.str y)
  | _, _ => none
theorem pm_add (ha : PM X Wx a ma) (hb : PM X Wx b mb) : PM X Wx (.BinOp a .Add b pos) (mOp dAdd ma mb) :=
  pm_op (op_add.or (op_cat.or (op_catA.or op_add_str))) ((ops_I0.or (ops_catL.or (ops_catT.or ops_addS))).imp fun d e z h => by
    cases d <;> cases e <;> first
      | (simp [dAdd] at h; done)
      | (simp only [dAdd, dI2, dCatL, dCatT, dAddS] at h ⊢; simp only [Option.some_or, Option.none_or, Option.or_none]; exact h)) ha hb
/-- a list so many times -/
def dRep : D → D → Option D
  | .lst xs, .int k => if -(2 ^ 63) ≤ k ∧ k < 2 ^ 63 ∧ xs.length * k.toNat ≤ sizeLine then some (.lst (List.replicate k.toNat xs).flatten) else none
  | _, _ => none
theorem AllR.rep {α β : Type} {R : α → β → Prop} {xs : List α} {ys : List β} (h : AllR R xs ys) : ∀ k : Nat, AllR R (List.replicate k xs).flatten (List.replicate k ys).flatten
  | 0 => by simpa using AllR.nil
  | k + 1 => by
    rw [List.replicate_succ, List.replicate_succ, List.flatten_cons, List.flatten_cons]
    exact h.append (h.rep k)
theorem ops_rep : OpS X rRep dRep := by
  intro x y d e z F H p pa Q gs rx ry ez k
  cases d <;> cases e <;> first | (simp [dRep] at ez; done) | skip
  simp only [dRep] at ez
  split at ez
  · rename_i hc
    simp only [Option.some.injEq] at ez
    subst ez
    cases ry
    obtain ⟨l, xs, rfl, hl, hz1, r1⟩ := rx.lstH gs
    refine ⟨l, _, xs, rfl, rfl, hl, hc.1, hc.2.1, by rw [r1.1]; exact hc.2.2, fun q hq => ?_⟩
    exact k _ _ _ (Gr.alloc gs hq) (gs.alloc hq) (Rep.lst' upd_same (by simpa [Nat.mul_comm] using hc.2.2) ((AllR.rep r1 _).mono fun _ _ h => h.mono (Fz.upd (gs.fnone hq))))
  · cases ez
def dMul : D → D → Option D
  | .int i, .int j => dMulI (.int i) (.int j)
  | .lst xs, .int k => dRep (.lst xs) (.int k)
  | _, _ => none
theorem pm_mul (ha : PM X Wx a ma) (hb : PM X Wx b mb) : PM X Wx (.BinOp a .Mult b pos) (mOp dMul ma mb) :=
  pm_op (op_mul.or op_rep) ((ops_mulI.or ops_rep).imp fun d e z h => by
    cases d <;> cases e <;> first
      | (simp [dMul] at h; done)
      | (simp only [dMul, dMulI, dI2c, dRep] at h ⊢; simp only [Option.some_or, Option.none_or, Option.or_none]; exact h)) ha hb

/-! ### one operand -/
def dNeg : D → Option D
  | .int i => some (.int (-i))
  | _ => none
def mUn (f : D → Option D) (ma : M D) : M D := mbind ma fun x => mopt (f x)
theorem pm_neg (ha : PM X Wx a ma) : PM X Wx (.UnaryOp .USub a pos) (mUn dNeg ma) := ⟨(pe_un un_neg ha.pe).imp fun σ H Q ⟨F, pa, p, ρ, gs, s, o⟩ => by
  refine TM.of gs s (o.bind.mono fun d p1 F1 H1 pa1 gr1 gs1 o1 s1 v1 r1 => ?_)
  obtain ⟨z, ez, o3⟩ := o1.opt
  cases d <;> first | (simp [dNeg] at ez; done) | skip
  cases r1
  simp only [dNeg, Option.some.injEq] at ez
  subst ez
  exact ⟨_, rfl, o3.ret gs1 _ (.int _)⟩⟩

/-! ### tests -/
def mB (m : M Bool) : M D := mbind m fun b => mret (.bl b)
def CmpS (X : Cx) (r : R2) (c : D → D → Option Bool) : Prop := ∀ (x y : V) (d e : D) (z : Bool) (F H : Hp) (p : Pst) (pa : Option Addr) (Q : VK), GS F H pa p → Rep X.K F p.g pa x d → Rep X.K F p.g pa y e → c d e = some z → Q (.bl z) H → r x y H Q
def mCmp (c : D → D → Option Bool) (ma mb : M D) : M Bool := mbind ma fun x => mbind mb fun y => mopt (c x y)
theorem tm_cmp {r : R2} {c : D → D → Option Bool} (hs : CmpS X r c) : ∀ σ H Q, TMt X.K X.mg Wx (mCmp c ma mb) σ H Q → tOp r (TM X.K X.mg Wx ma) (TM X.K X.mg Wx mb) σ H fun x H' => ∃ k, x = .bl k ∧ Q k H' := fun σ H Q ⟨F, pa, p, ρ, gs, s, o⟩ => by
  refine TM.of gs s (o.bind.mono fun d p1 F1 H1 pa1 gr1 gs1 o1 s1 v1 r1 => ?_)
  refine TM.of gs1 s1 (o1.bind.mono fun e p2 F2 H2 pa2 gr2 gs2 o2 s2 v2 r2 => ?_)
  obtain ⟨z, ez, o3⟩ := o2.opt
  exact hs v1 v2 d e z F2 H2 p2 pa2 _ gs2 (r1.mono gr2.fz) r2 ez ⟨_, rfl, o3.ret gs2⟩
theorem pmt_cmp {op : CmpOp} {r : R2} {c : D → D → Option Bool} (ho : OpR X (compareOp op) r) (hs : CmpS X r c) (ha : PM X Wx a ma) (hb : PM X Wx b mb) (hm : behindInMarks op b = false := by exact nomark _) : PMt X Wx (.Compare a [op] [b] pos) (mCmp c ma mb) :=
  ⟨(pt_cmpR ho ha.pe hb.pe hm).imp (tm_cmp hs)⟩
theorem TM.ofB {K : PySem.W.Frag} {mg : Str → Option Value} {m : M Bool} {σ : L2.St} {H : Hp} {Q : VK} (h : TM K mg Wx (mB m) σ H Q) : TMt K mg Wx m σ H fun b H' => Q (.bl b) H' := by
  obtain ⟨F, pa, p, ρ, gs, s, o⟩ := h
  exact ⟨F, pa, p, ρ, gs, s, o.bind.mono fun b p1 F1 H1 pa1 gr1 gs1 o1 => o1.ret gs1 _ (.bl b)⟩
theorem tOp_mono {r : R2} {ta tb : TE} : True := trivial
theorem pm_cmp {op : CmpOp} {r : R2} {c : D → D → Option Bool} (ho : OpR X (compareOp op) r) (hs : CmpS X r c) (ha : PM X Wx a ma) (hb : PM X Wx b mb) (hm : behindInMarks op b = false := by exact nomark _) : PM X Wx (.Compare a [op] [b] pos) (mB (mCmp c ma mb)) :=
  ⟨(pe_cmpR ho ha.pe hb.pe hm).imp fun σ H Q h => by
    obtain ⟨F, pa, p, ρ, gs, s, o⟩ := h.ofB
    refine TM.of gs s (o.bind.mono fun d p1 F1 H1 pa1 gr1 gs1 o1 s1 v1 r1 => ?_)
    refine TM.of gs1 s1 (o1.bind.mono fun e p2 F2 H2 pa2 gr2 gs2 o2 s2 v2 r2 => ?_)
    obtain ⟨z, ez, o3⟩ := o2.opt
    exact hs v1 v2 d e z F2 H2 p2 pa2 _ gs2 (r1.mono gr2.fz) r2 ez (o3.ret gs2)⟩
def dI2b (f : Int → Int → Bool) : D → D → Option Bool
  | .int i, .int j => some (f i j)
  | _, _ => none
theorem cmps_I {f : Int → Int → Bool} : CmpS X (rI0 fun i j => .bl (f i j)) (dI2b f) := by
  intro x y d e z F H p pa Q gs rx ry ez k
  cases d <;> cases e <;> first | (simp [dI2b] at ez; done) | skip
  cases rx; cases ry
  simp only [dI2b, Option.some.injEq] at ez
  subst ez
  exact ⟨_, _, rfl, rfl, k⟩
def dLt : D → D → Option Bool := dI2b fun i j => decide (i < j)
def dLe : D → D → Option Bool := dI2b fun i j => decide (i ≤ j)
def dGt : D → D → Option Bool := dI2b fun i j => decide (j < i)
def dGe : D → D → Option Bool := dI2b fun i j => decide (j ≤ i)
theorem pmt_lt (ha : PM X Wx a ma) (hb : PM X Wx b mb) : PMt X Wx (.Compare a [.Lt] [b] pos) (mCmp dLt ma mb) := pmt_cmp op_lt cmps_I ha hb
theorem pmt_le (ha : PM X Wx a ma) (hb : PM X Wx b mb) : PMt X Wx (.Compare a [.LtE] [b] pos) (mCmp dLe ma mb) := pmt_cmp op_le cmps_I ha hb
theorem pmt_gt (ha : PM X Wx a ma) (hb : PM X Wx b mb) : PMt X Wx (.Compare a [.Gt] [b] pos) (mCmp dGt ma mb) := pmt_cmp op_gt cmps_I ha hb
theorem pmt_ge (ha : PM X Wx a ma) (hb : PM X Wx b mb) : PMt X Wx (.Compare a [.GtE] [b] pos) (mCmp dGe ma mb) := pmt_cmp op_ge cmps_I ha hb
theorem pm_lt (ha : PM X Wx a ma) (hb : PM X Wx b mb) : PM X Wx (.Compare a [.Lt] [b] pos) (mB (mCmp dLt ma mb)) := pm_cmp op_lt cmps_I ha hb
theorem pm_le (ha : PM X Wx a ma) (hb : PM X Wx b mb) : PM X Wx (.Compare a [.LtE] [b] pos) (mB (mCmp dLe ma mb)) := pm_cmp op_le cmps_I ha hb
theorem pm_gt (ha : PM X Wx a ma) (hb : PM X Wx b mb) : PM X Wx (.Compare a [.Gt] [b] pos) (mB (mCmp dGt ma mb)) := pm_cmp op_gt cmps_I ha hb
theorem pm_ge (ha : PM X Wx a ma) (hb : PM X Wx b mb) : PM X Wx (.Compare a [.GtE] [b] pos) (mB (mCmp dGe ma mb)) := pm_cmp op_ge cmps_I ha hb
end
end PF

namespace PF
open PySem PySem.Spec PyProof.Rows L2

/-! ### data as the library has it -/
mutual
def toPy : D → PyData
  | .non => .none
  | .bl b => .bool b
  | .int i => .int i
  | .str x => .str x
  | .lst xs => .list (toPys xs)
  | .tup xs => .tuple (toPys xs)
  | .scr ns => .list (ns.map .int)
  | .pot _ => .none
  | .emp => .dict []
def toPys : List D → List PyData
  | [] => []
  | x :: xs => toPy x :: toPys xs
end
mutual
/-- plain data: no pot, no dict, no script within -/
def pl : D → Bool
  | .non | .bl _ | .int _ => true
  | .str x => PyData.strOk x
  | .lst xs => pls xs
  | .tup xs => pls xs
  | .scr _ => false
  | .pot _ => false
  | .emp => false
def pls : List D → Bool
  | [] => true
  | x :: xs => pl x && pls xs
end
mutual
def dep : D → Nat
  | .lst xs => deps xs + 1
  | .tup xs => deps xs + 1
  | _ => 0
def deps : List D → Nat
  | [] => 0
  | x :: xs => max (dep x) (deps xs)
end
theorem toPys_map (xs : List D) : toPys xs = xs.map toPy := by
  induction xs with
  | nil => simp [toPys]
  | cons x xs ih => simp [toPys, ih]
theorem pls_all (xs : List D) : pls xs = xs.all pl := by
  induction xs with
  | nil => simp [pls]
  | cons x xs ih => simp [pls, ih]
mutual
theorem canLay_pl : ∀ d : D, pl d = true → (toPy d).canLay0 = true
  | .non, _ => by simp [toPy, PyData.canLay0]
  | .bl _, _ => by simp [toPy, PyData.canLay0]
  | .int _, _ => by simp [toPy, PyData.canLay0]
  | .str _, h => by simp only [toPy, PyData.canLay0]; simpa [pl] using h
  | .lst xs, h => by simp only [toPy, PyData.canLay0]; exact canLay_pls xs (by simpa [pl] using h)
  | .tup xs, h => by simp only [toPy, PyData.canLay0]; exact canLay_pls xs (by simpa [pl] using h)
  | .scr _, h => by simp [pl] at h
  | .pot _, h => by simp [pl] at h
  | .emp, h => by simp [pl] at h
theorem canLay_pls : ∀ ds : List D, pls ds = true → PyData.canLayAll0 (toPys ds) = true
  | [], _ => by simp [toPys, PyData.canLayAll0]
  | x :: xs, h => by
    simp only [pls, Bool.and_eq_true] at h
    simp only [toPys, PyData.canLayAll0, Bool.and_eq_true]
    exact ⟨canLay_pl x h.1, canLay_pls xs h.2⟩
end
mutual
theorem depth_dep : ∀ d : D, pl d = true → (toPy d).depth = dep d
  | .non, _ => by simp [toPy, PyData.depth, dep]
  | .bl _, _ => by simp [toPy, PyData.depth, dep]
  | .int _, _ => by simp [toPy, PyData.depth, dep]
  | .str _, _ => by simp [toPy, PyData.depth, dep]
  | .lst xs, h => by simp only [toPy, PyData.depth, dep]; rw [depth_deps xs (by simpa [pl] using h)]
  | .tup xs, h => by simp only [toPy, PyData.depth, dep]; rw [depth_deps xs (by simpa [pl] using h)]
  | .scr _, h => by simp [pl] at h
  | .pot _, h => by simp [pl] at h
  | .emp, h => by simp [pl] at h
theorem depth_deps : ∀ ds : List D, pls ds = true → PyData.depthAll (toPys ds) = deps ds
  | [], _ => by simp [toPys, PyData.depthAll, deps]
  | x :: xs, h => by
    simp only [pls, Bool.and_eq_true] at h
    simp only [toPys, PyData.depthAll, deps]
    rw [depth_dep x h.1, depth_deps xs h.2]
end
/-- data that == and in look through -/
def okEq (d : D) : Bool := pl d && decide (dep d ≤ 64)
theorem shaped_ok {d : D} (h : okEq d = true) : SeqAt.shaped (toPy d) = true := by
  unfold okEq at h
  simp only [Bool.and_eq_true, decide_eq_true_eq] at h
  unfold SeqAt.shaped
  simp only [Bool.and_eq_true, decide_eq_true_eq]
  exact ⟨canLay_pl d h.1, by rw [depth_dep d h.1]; exact h.2⟩
theorem dpAll_of {K : PySem.W.Frag} {H : Hp} : ∀ {vs : List V} {ds : List D}, AllR (fun v d => pl d = true → Dp K H v (toPy d)) vs ds → pls ds = true → DpAll K H vs (toPys ds)
  | [], [], _, _ => by simpa [toPys] using DpAll.nil
  | [], _ :: _, h, _ => by have := h.1; simp at this
  | _ :: _, [], h, _ => by have := h.1; simp at this
  | v :: vs, d :: ds, h, hp => by
    simp only [pls, Bool.and_eq_true] at hp
    simp only [toPys]
    exact .cons (h.head hp.1) (dpAll_of h.tail hp.2)
theorem Rep.dp {K : PySem.W.Frag} {F H : Hp} {g : Nat} {pa : Option Addr} (sub : ∀ a o, F a = some o → H a = some o) {v : V} {d : D} (r : Rep K F g pa v d) : pl d = true → Dp K H v (toPy d) := by
  induction r with
  | non => intro _; simpa [toPy] using Dp.non
  | bl b => intro _; simpa [toPy] using Dp.bl b
  | int i => intro _; simpa [toPy] using Dp.int i
  | str x => intro _; simpa [toPy] using Dp.str x
  | lst h _ hl _ ih =>
    intro hp
    simp only [toPy]
    exact .lst (SqL.of (sub _ _ h)) (dpAll_of ⟨hl, fun i v d h1 h2 => ih i v d h1 h2⟩ (by simpa [pl] using hp))
  | tup h _ hl _ ih =>
    intro hp
    simp only [toPy]
    exact .tup (SqT.of (sub _ _ h)) (dpAll_of ⟨hl, fun i v d h1 h2 => ih i v d h1 h2⟩ (by simpa [pl] using hp))
  | scr _ => intro hp; simp [pl] at hp
  | pot _ _ => intro hp; simp [pl] at hp
  | emp _ => intro hp; simp [pl] at hp

section
variable {X : Cx} {Wx : WX} {a b c e : Expr} {es rest : List Expr} {ma mb mc m : M D} {ta tb : M Bool} {pos : Pos}
/-! ### ==, in -/
def dEq : D → D → Option Bool
  | .int i, .int j => some (decide (i = j))
  | .str x, .str y => some (decide (x = y))
  | d, e => if okEq d && okEq e then some (PyData.eqv (toPy d) (toPy e)) else none
def dNe : D → D → Option Bool := fun d e => (dEq d e).map fun b => !b
theorem dEq_spec {d e : D} {z : Bool} (h : dEq d e = some z) : (∃ i j, d = .int i ∧ e = .int j ∧ z = decide (i = j)) ∨ (∃ x y, d = .str x ∧ e = .str y ∧ z = decide (x = y)) ∨ ((okEq d = true ∧ okEq e = true) ∧ z = PyData.eqv (toPy d) (toPy e)) := by
  unfold dEq at h
  split at h
  · simp only [Option.some.injEq] at h
    exact .inl ⟨_, _, rfl, rfl, h.symm⟩
  · simp only [Option.some.injEq] at h
    exact .inr (.inl ⟨_, _, rfl, rfl, h.symm⟩)
  · split at h
    · rename_i hc
      simp only [Option.some.injEq] at h
      subst h
      simp only [Bool.and_eq_true] at hc
      exact .inr (.inr ⟨hc, rfl⟩)
    · cases h
theorem pl_of {d : D} (h : okEq d = true) : pl d = true := by
  unfold okEq at h
  simp only [Bool.and_eq_true] at h
  exact h.1
theorem cmps_eq : CmpS X (fun x y H Q => rEq x y H Q ∨ rEqD X.K x y H Q) dEq := by
  intro x y d e z F H p pa Q gs rx ry ez k
  rcases dEq_spec ez with ⟨i, j, rfl, rfl, h⟩ | ⟨i, j, rfl, rfl, h⟩ | ⟨⟨h1, h2⟩, h3⟩
  · cases rx; cases ry
    exact .inl ⟨rfl, by rw [show decide (V.int i = V.int j) = z by rw [h]; simp]; exact k⟩
  · cases rx; cases ry
    exact .inl ⟨rfl, by rw [show decide (V.str i = V.str j) = z by rw [h]; simp]; exact k⟩
  · exact .inr ⟨_, _, rx.dp gs.sub (pl_of h1), ry.dp gs.sub (pl_of h2), shaped_ok h1, shaped_ok h2, by rw [← h3]; exact k⟩
theorem cmps_ne : CmpS X (fun x y H Q => rNe x y H Q ∨ rNeD X.K x y H Q) dNe := by
  intro x y d e z F H p pa Q gs rx ry ez k
  unfold dNe at ez
  cases q : dEq d e with
  | none => rw [q] at ez; cases ez
  | some w =>
    rw [q] at ez
    have ez : (!w) = z := by simpa using ez
    rcases dEq_spec q with ⟨i, j, rfl, rfl, h⟩ | ⟨i, j, rfl, rfl, h⟩ | ⟨⟨h1, h2⟩, h3⟩
    · cases rx; cases ry
      exact .inl ⟨rfl, by rw [show (!decide (V.int i = V.int j)) = z by rw [← ez, h]; simp]; exact k⟩
    · cases rx; cases ry
      exact .inl ⟨rfl, by rw [show (!decide (V.str i = V.str j)) = z by rw [← ez, h]; simp]; exact k⟩
    · exact .inr ⟨_, _, rx.dp gs.sub (pl_of h1), ry.dp gs.sub (pl_of h2), shaped_ok h1, shaped_ok h2, by rw [← h3, ez]; exact k⟩
def Un (X : Cx) : Prop := X.A.units + 65 < cLine
theorem pmt_eq (hu : Un X) (ha : PM X Wx a ma) (hb : PM X Wx b mb) : PMt X Wx (.Compare a [.Eq] [b] pos) (mCmp dEq ma mb) := pmt_cmp (op_eq.or (op_eqD (Nat.lt_of_succ_lt hu))) cmps_eq ha hb
theorem pmt_ne (hu : Un X) (ha : PM X Wx a ma) (hb : PM X Wx b mb) : PMt X Wx (.Compare a [.NotEq] [b] pos) (mCmp dNe ma mb) := pmt_cmp (op_ne.or (op_neD (Nat.lt_of_succ_lt hu))) cmps_ne ha hb
theorem pm_eq (hu : Un X) (ha : PM X Wx a ma) (hb : PM X Wx b mb) : PM X Wx (.Compare a [.Eq] [b] pos) (mB (mCmp dEq ma mb)) := pm_cmp (op_eq.or (op_eqD (Nat.lt_of_succ_lt hu))) cmps_eq ha hb
theorem pm_ne (hu : Un X) (ha : PM X Wx a ma) (hb : PM X Wx b mb) : PM X Wx (.Compare a [.NotEq] [b] pos) (mB (mCmp dNe ma mb)) := pm_cmp (op_ne.or (op_neD (Nat.lt_of_succ_lt hu))) cmps_ne ha hb
def dIn : D → D → Option Bool
  | d, .lst xs => if okEq d && okEq (.lst xs) then some (xs.any fun z => PyData.eqv (toPy z) (toPy d)) else none
  | _, _ => none
def dNotIn : D → D → Option Bool := fun d e => (dIn d e).map fun b => !b
theorem any_toPys (xs : List D) (f : PyData → Bool) : (toPys xs).any f = xs.any fun z => f (toPy z) := by
  rw [toPys_map, List.any_map]; rfl
theorem cmps_in : CmpS X (rInD X.K) dIn := by
  intro x y d e z F H p pa Q gs rx ry ez k
  cases e <;> first | (simp [dIn] at ez; done) | skip
  rename_i xs
  simp only [dIn] at ez
  split at ez
  · rename_i hc
    simp only [Bool.and_eq_true] at hc
    have h2 := ry.dp gs.sub (pl_of hc.2)
    have s2 := shaped_ok hc.2
    simp only [toPy] at h2 s2
    refine ⟨_, _, rx.dp gs.sub (pl_of hc.1), h2, shaped_ok hc.1, s2, ?_⟩
    rw [any_toPys]
    simp only [Option.some.injEq] at ez
    rw [ez]; exact k
  · cases ez
theorem cmps_notIn : CmpS X (rNotInD X.K) dNotIn := by
  intro x y d e z F H p pa Q gs rx ry ez k
  unfold dNotIn at ez
  cases q : dIn d e with
  | none => rw [q] at ez; cases ez
  | some w =>
    rw [q] at ez
    have ez : (!w) = z := by simpa using ez
    cases e <;> first | (simp [dIn] at q; done) | skip
    rename_i xs
    simp only [dIn] at q
    split at q
    · rename_i hc
      simp only [Bool.and_eq_true] at hc
      have h2 := ry.dp gs.sub (pl_of hc.2)
      have s2 := shaped_ok hc.2
      simp only [toPy] at h2 s2
      refine ⟨_, _, rx.dp gs.sub (pl_of hc.1), h2, shaped_ok hc.1, s2, ?_⟩
      rw [any_toPys]
      simp only [Option.some.injEq] at q
      rw [q, ez]; exact k
    · cases q
theorem pmt_in (hu : Un X) (ha : PM X Wx a ma) (hb : PM X Wx b mb) (hm : behindInMarks .In b = false := by rfl) : PMt X Wx (.Compare a [.In] [b] pos) (mCmp dIn ma mb) := pmt_cmp (op_inD hu) cmps_in ha hb hm
theorem pmt_notIn (hu : Un X) (ha : PM X Wx a ma) (hb : PM X Wx b mb) (hm : behindInMarks .NotIn b = false := by rfl) : PMt X Wx (.Compare a [.NotIn] [b] pos) (mCmp dNotIn ma mb) := pmt_cmp (op_notInD hu) cmps_notIn ha hb hm
theorem pm_in (hu : Un X) (ha : PM X Wx a ma) (hb : PM X Wx b mb) (hm : behindInMarks .In b = false := by rfl) : PM X Wx (.Compare a [.In] [b] pos) (mB (mCmp dIn ma mb)) := pm_cmp (op_inD hu) cmps_in ha hb hm
theorem pm_notIn (hu : Un X) (ha : PM X Wx a ma) (hb : PM X Wx b mb) (hm : behindInMarks .NotIn b = false := by rfl) : PM X Wx (.Compare a [.NotIn] [b] pos) (mB (mCmp dNotIn ma mb)) := pm_cmp (op_notInD hu) cmps_notIn ha hb hm

/-! ### is None, is True -/
def isNon : D → Bool
  | .non => true
  | _ => false
def noPot : D → Bool
  | .pot _ => false
  | _ => true
theorem Rep.isNon {K : PySem.W.Frag} {F : Hp} {g : Nat} {pa : Option Addr} {v : V} {d : D} (r : Rep K F g pa v d) (h : noPot d = true) : decide (v = .non) = PF.isNon d := by
  cases r <;> first | rfl | (simp [noPot] at h)
def mIsN (ma : M D) : M Bool := mbind ma fun x => if noPot x = true then mret (isNon x) else mstuck
def mNotN (ma : M D) : M Bool := mbind ma fun x => if noPot x = true then mret (!isNon x) else mstuck
theorem pm_isN {j pos'} (ha : PM X Wx a ma) : PM X Wx (.Compare a [.Is] [.Constant .none j pos'] pos) (mB (mIsN ma)) := ⟨(pe_cmp (pc_isN ha.pe) (nomark _)).imp fun σ H Q h => by
  obtain ⟨F, pa, p, ρ, gs, s, o⟩ := h.ofB
  refine TM.of gs s (o.bind.mono fun d p1 F1 H1 pa1 gr1 gs1 o1 s1 v1 r1 => ?_)
  by_cases hn : noPot d = true
  · rw [if_pos hn] at o1
    rw [r1.isNon hn]; exact o1.ret gs1
  · rw [if_neg hn] at o1; exact o1.elim⟩
theorem pm_notN {j pos'} (ha : PM X Wx a ma) : PM X Wx (.Compare a [.IsNot] [.Constant .none j pos'] pos) (mB (mNotN ma)) := ⟨(pe_cmp (pc_notN ha.pe) (nomark _)).imp fun σ H Q h => by
  obtain ⟨F, pa, p, ρ, gs, s, o⟩ := h.ofB
  refine TM.of gs s (o.bind.mono fun d p1 F1 H1 pa1 gr1 gs1 o1 s1 v1 r1 => ?_)
  by_cases hn : noPot d = true
  · rw [if_pos hn] at o1
    rw [r1.isNon hn]; exact o1.ret gs1
  · rw [if_neg hn] at o1; exact o1.elim⟩
theorem pmt_isN {j pos'} (ha : PM X Wx a ma) : PMt X Wx (.Compare a [.Is] [.Constant .none j pos'] pos) (mIsN ma) := ⟨(pt_cmp (pc_isN ha.pe) (nomark _)).imp fun σ H Q h => by
  obtain ⟨F, pa, p, ρ, gs, s, o⟩ := h
  refine TM.of gs s (o.bind.mono fun d p1 F1 H1 pa1 gr1 gs1 o1 s1 v1 r1 => ?_)
  by_cases hn : noPot d = true
  · rw [if_pos hn] at o1
    exact ⟨_, by rw [r1.isNon hn], o1.ret gs1⟩
  · rw [if_neg hn] at o1; exact o1.elim⟩
theorem pmt_notN {j pos'} (ha : PM X Wx a ma) : PMt X Wx (.Compare a [.IsNot] [.Constant .none j pos'] pos) (mNotN ma) := ⟨(pt_cmp (pc_notN ha.pe) (nomark _)).imp fun σ H Q h => by
  obtain ⟨F, pa, p, ρ, gs, s, o⟩ := h
  refine TM.of gs s (o.bind.mono fun d p1 F1 H1 pa1 gr1 gs1 o1 s1 v1 r1 => ?_)
  by_cases hn : noPot d = true
  · rw [if_pos hn] at o1
    exact ⟨_, by rw [r1.isNon hn], o1.ret gs1⟩
  · rw [if_neg hn] at o1; exact o1.elim⟩
def dIsB : D → D → Option Bool
  | .bl a, .bl b => some (decide (a = b))
  | _, _ => none
def dNotB : D → D → Option Bool
  | .bl a, .bl b => some (!decide (a = b))
  | _, _ => none
theorem cmps_isB : CmpS X rIsB dIsB := by
  intro x y d e z F H p pa Q gs rx ry ez k
  cases d <;> cases e <;> first | (simp [dIsB] at ez; done) | skip
  cases rx; cases ry
  simp only [dIsB, Option.some.injEq] at ez
  subst ez
  exact ⟨_, _, rfl, rfl, k⟩
theorem cmps_notB : CmpS X rNotB dNotB := by
  intro x y d e z F H p pa Q gs rx ry ez k
  cases d <;> cases e <;> first | (simp [dNotB] at ez; done) | skip
  cases rx; cases ry
  simp only [dNotB, Option.some.injEq] at ez
  subst ez
  exact ⟨_, _, rfl, rfl, k⟩
theorem pmt_isB (ha : PM X Wx a ma) (hb : PM X Wx b mb) : PMt X Wx (.Compare a [.Is] [b] pos) (mCmp dIsB ma mb) := pmt_cmp op_isBl cmps_isB ha hb
theorem pmt_notB (ha : PM X Wx a ma) (hb : PM X Wx b mb) : PMt X Wx (.Compare a [.IsNot] [b] pos) (mCmp dNotB ma mb) := pmt_cmp op_notBl cmps_notB ha hb
theorem pm_isB (ha : PM X Wx a ma) (hb : PM X Wx b mb) : PM X Wx (.Compare a [.Is] [b] pos) (mB (mCmp dIsB ma mb)) := pm_cmp op_isBl cmps_isB ha hb
theorem pm_notB (ha : PM X Wx a ma) (hb : PM X Wx b mb) : PM X Wx (.Compare a [.IsNot] [b] pos) (mB (mCmp dNotB ma mb)) := pm_cmp op_notBl cmps_notB ha hb

/-! ### chains of two comparisons (ints) -/
def mChain (f g : Int → Int → Bool) (ma mb mc : M D) : M Bool := mbind ma fun x => mbind mb fun y => mbind (mopt (dI2b f x y)) fun k => if k = true then mbind mc fun z => mopt (dI2b g y z) else mret false
theorem dI2b_some {f : Int → Int → Bool} {d e : D} {k : Bool} (h : dI2b f d e = some k) : ∃ i j, d = .int i ∧ e = .int j ∧ f i j = k := by
  cases d <;> cases e <;> first | (simp [dI2b] at h; done) | skip
  simp only [dI2b, Option.some.injEq] at h
  exact ⟨_, _, rfl, rfl, h⟩
theorem chain_out {f g : Int → Int → Bool} {K : PySem.W.Frag} {mg : Str → Option Value} {σ : L2.St} {H : Hp} {Q : Bool → Hp → Prop} (h : TMt K mg Wx (mChain f g ma mb mc) σ H Q) :
    TM K mg Wx ma σ H fun x H1 => TM K mg Wx mb σ H1 fun y H2 => ∃ i j, x = .int i ∧ y = .int j ∧ (if f i j = true then TM K mg Wx mc σ H2 fun z H3 => ∃ k, z = .int k ∧ Q (g j k) H3 else Q false H2) := by
  obtain ⟨F, pa, p, ρ, gs, s, o⟩ := h
  refine TM.of gs s (o.bind.mono fun d p1 F1 H1 pa1 gr1 gs1 o1 s1 v1 r1 => ?_)
  refine TM.of gs1 s1 (o1.bind.mono fun e p2 F2 H2 pa2 gr2 gs2 o2 s2 v2 r2 => ?_)
  have o2 := o2.bind
  obtain ⟨k, ek, o3⟩ := o2.opt
  obtain ⟨i, j, rfl, rfl, ek'⟩ := dI2b_some ek
  cases r1; cases r2
  refine ⟨i, j, rfl, rfl, ?_⟩
  have o4 := o3.ret gs2
  rw [ek']
  cases k with
  | false => simp only [Bool.false_eq_true, if_false] at o4 ⊢; exact o4.ret gs2
  | true =>
    simp only [if_true] at o4 ⊢
    refine TM.of gs2 s2 (o4.bind.mono fun w p3 F3 H3 pa3 gr3 gs3 o5 s3 v3 r3 => ?_)
    obtain ⟨k2, ek2, o6⟩ := o5.opt
    obtain ⟨_, _, e1, rfl, ek3⟩ := dI2b_some ek2
    cases e1
    cases r3
    exact ⟨_, rfl, by rw [ek3]; exact o6.ret gs3⟩
theorem pmt_chain {op op' : CmpOp} {f g : Int → Int → Bool} (ho : OpR X (compareOp op) (rI0 fun i j => .bl (f i j))) (ho' : OpR X (compareOp op') (rI0 fun i j => .bl (g i j))) (ha : PM X Wx a ma) (hb : PM X Wx b mb) (hc : PM X Wx c mc)
    (hm : lastMarks [op, op'] [b, c] = false := by with_unfolding_all rfl) : PMt X Wx (.Compare a [op, op'] [b, c] pos) (mChain f g ma mb mc) := ⟨(pt_chain ho ho' ha.pe hb.pe hc.pe hm).imp fun σ H Q h => by
  obtain ⟨F, pa, p, ρ, gs, s, o⟩ := chain_out h
  refine ⟨F, pa, p, ρ, gs, s, o.mono fun d p1 F1 H1 pa1 gr1 gs1 o1 v1 r1 => ?_⟩
  obtain ⟨F, pa, p, ρ, gs, s, o⟩ := o1 v1 r1
  refine ⟨F, pa, p, ρ, gs, s, o.mono fun d p1 F1 H1 pa1 gr1 gs1 o1 v2 r2 => ?_⟩
  obtain ⟨i, j, rfl, rfl, q⟩ := o1 v2 r2
  refine ⟨i, j, rfl, rfl, f i j, rfl, ?_⟩
  cases e : f i j with
  | false => rw [e] at q; simp only [Bool.false_eq_true, if_false] at q ⊢; exact ⟨_, rfl, q⟩
  | true =>
    rw [e] at q
    simp only [if_true] at q ⊢
    obtain ⟨F, pa, p, ρ, gs, s, o⟩ := q
    refine ⟨F, pa, p, ρ, gs, s, o.mono fun d p1 F1 H1 pa1 gr1 gs1 o1 v3 r3 => ?_⟩
    obtain ⟨k, rfl, q⟩ := o1 v3 r3
    exact ⟨j, k, rfl, rfl, _, rfl, q⟩⟩
theorem pm_chain {op op' : CmpOp} {f g : Int → Int → Bool} (ho : OpR X (compareOp op) (rI0 fun i j => .bl (f i j))) (ho' : OpR X (compareOp op') (rI0 fun i j => .bl (g i j))) (ha : PM X Wx a ma) (hb : PM X Wx b mb) (hc : PM X Wx c mc)
    (hm : lastMarks [op, op'] [b, c] = false := by with_unfolding_all rfl) : PM X Wx (.Compare a [op, op'] [b, c] pos) (mB (mChain f g ma mb mc)) := ⟨(pe_chain ho ho' ha.pe hb.pe hc.pe hm).imp fun σ H Q h => by
  obtain ⟨F, pa, p, ρ, gs, s, o⟩ := chain_out h.ofB
  refine ⟨F, pa, p, ρ, gs, s, o.mono fun d p1 F1 H1 pa1 gr1 gs1 o1 v1 r1 => ?_⟩
  obtain ⟨F, pa, p, ρ, gs, s, o⟩ := o1 v1 r1
  refine ⟨F, pa, p, ρ, gs, s, o.mono fun d p1 F1 H1 pa1 gr1 gs1 o1 v2 r2 => ?_⟩
  obtain ⟨i, j, rfl, rfl, q⟩ := o1 v2 r2
  refine ⟨i, j, rfl, rfl, f i j, rfl, ?_⟩
  cases e : f i j with
  | false => rw [e] at q; simp only [Bool.false_eq_true, if_false] at q ⊢; exact q
  | true =>
    rw [e] at q
    simp only [if_true] at q ⊢
    obtain ⟨F, pa, p, ρ, gs, s, o⟩ := q
    refine ⟨F, pa, p, ρ, gs, s, o.mono fun d p1 F1 H1 pa1 gr1 gs1 o1 v3 r3 => ?_⟩
    obtain ⟨k, rfl, q⟩ := o1 v3 r3
    exact ⟨j, k, rfl, rfl, q⟩⟩
abbrev iLt : Int → Int → Bool := fun i j => decide (i < j)
abbrev iLe : Int → Int → Bool := fun i j => decide (i ≤ j)

/-! ### and, or, not, if .. else -/
structure PMw (X : Cx) (Wx : WX) (e : Expr) (m : M Bool) : Prop where
  pw : PW X e (TMt X.K X.mg Wx m)
theorem PMw.pt (h : PMw X Wx e ta) : PMt X Wx e ta := ⟨h.pw.pt⟩
def mAnd (t u : M Bool) : M Bool := mbind t fun k => if k = true then u else mret false
def mOr (t u : M Bool) : M Bool := mbind t fun k => if k = true then mret true else u
def mNot (t : M Bool) : M Bool := mbind t fun k => mret (!k)
theorem TMt.of {K : PySem.W.Frag} {mg : Str → Option Value} {t : M Bool} {σ : L2.St} {F H : Hp} {pa : Option Addr} {p : Pst} {ρ : Sl} {Q : Bool → Hp → Prop} (gs : GS F H pa p) (s : SRel K F H p.g pa σ ρ)
    (h : Out K mg Wx σ F H p.g pa (fun d p' F' H' pa' => SRel K F' H' p'.g pa' σ ρ → Q d H') (t ρ p)) : TMt K mg Wx t σ H Q :=
  ⟨F, pa, p, ρ, gs, s, h.mono fun _ _ _ _ _ gr _ k => k (s.grow gr)⟩
theorem pmw_and1 (ha : PMt X Wx a ta) : PMw X Wx (.BoolOp .And [a] pos) ta := ⟨pw_and1 ha.pt⟩
theorem pmw_or1 (ha : PMt X Wx a ta) : PMw X Wx (.BoolOp .Or [a] pos) ta := ⟨pw_or1 ha.pt⟩
theorem pmw_and (ha : PMt X Wx a ta) (hb : PMw X Wx (.BoolOp .And (b :: rest) pos) tb) : PMw X Wx (.BoolOp .And (a :: b :: rest) pos) (mAnd ta tb) := ⟨(pw_and ha.pt hb.pw).imp fun σ H Q ⟨F, pa, p, ρ, gs, s, o⟩ => by
  refine TMt.of gs s (o.bind.mono fun k p1 F1 H1 pa1 gr1 gs1 o1 s1 => ?_)
  cases k with
  | false => simp only [Bool.false_eq_true, if_false] at o1 ⊢; exact o1.ret gs1
  | true => simp only [if_true] at o1 ⊢; exact ⟨_, _, _, _, gs1, s1, o1⟩⟩
theorem pmw_or (ha : PMt X Wx a ta) (hb : PMw X Wx (.BoolOp .Or (b :: rest) pos) tb) : PMw X Wx (.BoolOp .Or (a :: b :: rest) pos) (mOr ta tb) := ⟨(pw_or ha.pt hb.pw).imp fun σ H Q ⟨F, pa, p, ρ, gs, s, o⟩ => by
  refine TMt.of gs s (o.bind.mono fun k p1 F1 H1 pa1 gr1 gs1 o1 s1 => ?_)
  cases k with
  | false => simp only [Bool.false_eq_true, if_false] at o1 ⊢; exact ⟨_, _, _, _, gs1, s1, o1⟩
  | true => simp only [if_true] at o1 ⊢; exact o1.ret gs1⟩
theorem pmt_not (ha : PMt X Wx a ta) : PMt X Wx (.UnaryOp .Not a pos) (mNot ta) := ⟨(pt_not ha.pt).imp fun σ H Q ⟨F, pa, p, ρ, gs, s, o⟩ => by
  refine TMt.of gs s (o.bind.mono fun k p1 F1 H1 pa1 gr1 gs1 o1 s1 => ?_)
  exact o1.ret gs1⟩
/-- a bool value as a test -/
def mT (ma : M D) : M Bool := mbind ma fun d => match d with
  | .bl k => mret k
  | _ => mstuck
theorem pmt_val (ha : PM X Wx e ma) (he : ∀ whole, isTrue e X.env whole = (do let v ← whole; standAt e.pos; holding [v] (truthy v)) := by intro _; rfl) : PMt X Wx e (mT ma) := ⟨(pt_val ha.pe he).imp fun σ H Q ⟨F, pa, p, ρ, gs, s, o⟩ => by
  refine TM.of gs s (o.bind.mono fun d p1 F1 H1 pa1 gr1 gs1 o1 s1 v1 r1 => ?_)
  cases d <;> first | exact o1.elim | skip
  cases r1
  exact ⟨_, rfl, o1.ret gs1⟩⟩
/-- and, or, not as values of bools -/
def mAndV (t u : M D) : M D := mbind t fun d => match d with
  | .bl k => if k = true then u else mret (.bl false)
  | _ => mstuck
def mOrV (t u : M D) : M D := mbind t fun d => match d with
  | .bl k => if k = true then mret (.bl true) else u
  | _ => mstuck
def mNotV (t : M D) : M D := mbind t fun d => match d with
  | .bl k => mret (.bl (!k))
  | _ => mstuck
theorem pm_one {op} (ha : PM X Wx a ma) : PM X Wx (.BoolOp op [a] pos) ma := ⟨pe_one ha.pe⟩
theorem pm_and (ha : PM X Wx a ma) (hb : PM X Wx (.BoolOp .And (b :: rest) pos) mb) : PM X Wx (.BoolOp .And (a :: b :: rest) pos) (mAndV ma mb) := ⟨(pe_and ha.pe hb.pe).imp fun σ H Q ⟨F, pa, p, ρ, gs, s, o⟩ => by
  refine TM.of gs s (o.bind.mono fun d p1 F1 H1 pa1 gr1 gs1 o1 s1 v1 r1 => ?_)
  cases d <;> first | exact o1.elim | skip
  rename_i k
  cases r1
  refine ⟨k, rfl, ?_⟩
  cases k with
  | false => simp only [Bool.false_eq_true, if_false] at o1 ⊢; exact o1.ret gs1 _ (.bl false)
  | true => simp only [if_true] at o1 ⊢; exact ⟨_, _, _, _, gs1, s1, o1⟩⟩
theorem pm_or (ha : PM X Wx a ma) (hb : PM X Wx (.BoolOp .Or (b :: rest) pos) mb) : PM X Wx (.BoolOp .Or (a :: b :: rest) pos) (mOrV ma mb) := ⟨(pe_or ha.pe hb.pe).imp fun σ H Q ⟨F, pa, p, ρ, gs, s, o⟩ => by
  refine TM.of gs s (o.bind.mono fun d p1 F1 H1 pa1 gr1 gs1 o1 s1 v1 r1 => ?_)
  cases d <;> first | exact o1.elim | skip
  rename_i k
  cases r1
  refine ⟨k, rfl, ?_⟩
  cases k with
  | false => simp only [Bool.false_eq_true, if_false] at o1 ⊢; exact ⟨_, _, _, _, gs1, s1, o1⟩
  | true => simp only [if_true] at o1 ⊢; exact o1.ret gs1 _ (.bl true)⟩
theorem pm_not (ha : PM X Wx a ma) : PM X Wx (.UnaryOp .Not a pos) (mNotV ma) := ⟨(pe_not ha.pe).imp fun σ H Q ⟨F, pa, p, ρ, gs, s, o⟩ => by
  refine TM.of gs s (o.bind.mono fun d p1 F1 H1 pa1 gr1 gs1 o1 s1 v1 r1 => ?_)
  cases d <;> first | exact o1.elim | skip
  cases r1
  exact ⟨_, rfl, o1.ret gs1 _ (.bl _)⟩⟩
def mIf {α : Type} (t : M Bool) (ma mb : M α) : M α := mbind t fun k => if k = true then ma else mb
theorem pm_if (hc : PMt X Wx c ta) (ha : PM X Wx a ma) (hb : PM X Wx b mb) : PM X Wx (.IfExp c a b pos) (mIf ta ma mb) := ⟨(pe_ifExp hc.pt ha.pe hb.pe).imp fun σ H Q ⟨F, pa, p, ρ, gs, s, o⟩ => by
  refine TMt.of gs s (o.bind.mono fun k p1 F1 H1 pa1 gr1 gs1 o1 s1 => ?_)
  cases k with
  | false => simp only [Bool.false_eq_true, if_false] at o1 ⊢; exact ⟨_, _, _, _, gs1, s1, o1⟩
  | true => simp only [if_true] at o1 ⊢; exact ⟨_, _, _, _, gs1, s1, o1⟩⟩

/-! ### fresh lists, displays, arguments -/
def mfrz (mo : M (List D)) : M D := mbind mo fun ds => mret (.lst ds)
theorem PMo.pm {mo : M (List D)} (h : PMo X Wx e mo) : PM X Wx e (mfrz mo) := ⟨h.pe.imp fun σ H Q ⟨F, pa, p, ρ, gs, s, o⟩ => by
  refine ⟨F, pa, p, ρ, gs, s, ?_⟩
  unfold mfrz mbind at o
  cases q : mo ρ p with
  | stuck => rw [q] at o; exact o
  | exc x p' => rw [q] at o; exact o
  | ok ds p' =>
    rw [q] at o
    intro F1 H1 pa1 gr1 gs1 a vs ha hH hF hp hz rs
    have fz : Fz F1 p'.g pa1 (upd F1 a (.lst vs)) p'.g pa1 := Fz.upd hF
    exact o _ H1 pa1 (gr1.freeze ha hF) (gs1.freeze hH hp) _ (Rep.lst' upd_same hz (rs.mono fz))⟩
end
end PF

namespace PF
open PySem PySem.Spec PyProof.Rows L2

section
variable {X : Cx} {Wx : WX} {a b c e : Expr} {es rest : List Expr} {ma mb mc m : M D} {mo ms : M (List D)} {ta tb : M Bool} {pos : Pos}
/-! ### arguments, displays -/
def mcons (ma : M D) (ms : M (List D)) : M (List D) := mbind ma fun d => mbind ms fun ds => mret (d :: ds)
theorem TMa.of {K : PySem.W.Frag} {mg : Str → Option Value} {σ : L2.St} {F H : Hp} {pa : Option Addr} {p : Pst} {ρ : Sl} {Q : List V → Hp → Prop} (gs : GS F H pa p) (s : SRel K F H p.g pa σ ρ)
    (h : Out K mg Wx σ F H p.g pa (fun ds p' F' H' pa' => SRel K F' H' p'.g pa' σ ρ → ∀ vs, Reps K F' p'.g pa' vs ds → Q vs H') (ms ρ p)) : TMa K mg Wx ms σ H Q :=
  ⟨F, pa, p, ρ, gs, s, h.mono fun _ _ _ _ _ gr _ k v r => k (s.grow gr) v r⟩
theorem pma_nil : PMa X Wx [] (mret []) := ⟨pa_nil.imp fun σ H Q ⟨F, pa, p, ρ, gs, s, o⟩ => o.ret gs _ .nil⟩
theorem pma_cons (ha : PM X Wx e ma) (hr : PMa X Wx es ms) (hs : starEach (e :: es) X.env = (false, eval e X.env) :: starEach es X.env := by rfl) : PMa X Wx (e :: es) (mcons ma ms) := ⟨(pa_cons ha.pe hr.pa hs).imp fun σ H Q ⟨F, pa, p, ρ, gs, s, o⟩ => by
  refine TM.of gs s (o.bind.mono fun d p1 F1 H1 pa1 gr1 gs1 o1 s1 v1 r1 => ?_)
  refine TMa.of gs1 s1 (o1.bind.mono fun ds p2 F2 H2 pa2 gr2 gs2 o2 s2 vs2 rs2 => ?_)
  exact o2.ret gs2 _ (.cons (r1.mono gr2.fz) rs2)⟩
def mlim (ms : M (List D)) : M (List D) := mbind ms fun ds => if ds.length ≤ 4096 then mret ds else mstuck
theorem lim_size {n : Nat} (h : n ≤ 4096) : n ≤ sizeLine := by rw [sizeLine_eq]; omega
theorem pmo_lst (h : PMa X Wx es ms) : PMo X Wx (.List es pos) (mlim ms) := ⟨(pe_lst h.pa).imp fun σ H Q ⟨F, pa, p, ρ, gs, s, o⟩ => by
  refine ⟨F, pa, p, ρ, gs, s, ?_⟩
  unfold mlim mbind at o
  cases q : ms ρ p with
  | stuck => rw [q] at o; exact o
  | exc x p' => rw [q] at o; exact o
  | ok ds p' =>
    rw [q] at o
    simp only at o
    by_cases hc : ds.length ≤ 4096
    · rw [if_pos hc] at o
      intro F1 H1 pa1 gr1 gs1 vs rs
      refine ⟨by rw [rs.1]; exact lim_size hc, fun q hq => ?_⟩
      have hq0 : H q = none := by
        cases z : H q with
        | none => rfl
        | some u => obtain ⟨u', z'⟩ := gr1.there q u z; rw [hq] at z'; cases z'
      exact o F1 _ pa1 (gr1.trans (Gr.allocO hq)) (gs1.allocO hq) q vs hq0 upd_same (gs1.fnone hq) (gs1.pne hq) (lim_size hc) rs
    · rw [if_neg hc] at o; exact o.elim⟩
def mtup (ms : M (List D)) : M D := mbind ms fun ds => if ds.length ≤ 4096 then mret (.tup ds) else mstuck
theorem pm_tup {x1} (h : PMa X Wx es ms) : PM X Wx (.Tuple es x1 pos) (mtup ms) := ⟨(pe_tup h.pa).imp fun σ H Q ⟨F, pa, p, ρ, gs, s, o⟩ => by
  refine TMa.of gs s (o.bind.mono fun ds p1 F1 H1 pa1 gr1 gs1 o1 s1 vs rs => ?_)
  by_cases hc : ds.length ≤ 4096
  · rw [if_pos hc] at o1
    refine ⟨by rw [rs.1]; exact lim_size hc, fun q hq => ?_⟩
    exact o1 _ _ pa1 (Gr.alloc gs1 hq) (gs1.alloc hq) _ (Rep.tup' upd_same (lim_size hc) (rs.mono (Fz.upd (gs1.fnone hq))))
  · rw [if_neg hc] at o1; exact o1.elim⟩
/-- {} -/
theorem pm_emp : PM X Wx (.Dict [] [] pos) (mret .emp) := ⟨pe_dnewK.imp fun σ H Q ⟨F, pa, p, ρ, gs, s, o⟩ => by
  intro q hq
  exact o _ _ pa (Gr.alloc gs hq) (gs.alloc hq) _ (.emp upd_same)⟩

/-! ### items -/
theorem atI_rep {R : V → D → Prop} {vs : List V} {ds : List D} {i : Int} {d : D} (r : AllR R vs ds) (h : atI ds i = some d) : ∃ v, atI vs i = some v ∧ R v d := by
  unfold atI at h ⊢
  rw [r.1]
  cases q : ixN ds.length i with
  | none => rw [q] at h; cases h
  | some j =>
    rw [q] at h
    exact r.get h
def dIx : D → D → Option D
  | .lst ds, .int i => atI ds i
  | .tup ds, .int i => atI ds i
  | .scr ns, .int i => (atI ns i).map .int
  | .str s, .int i => if s.length ≤ sizeLine then (atI s.cps.toList i).map (fun c => .str ⟨#[c]⟩) else none
  | _, _ => none
theorem atI_map {α β : Type} (f : α → β) (xs : List α) (i : Int) : atI (xs.map f) i = (atI xs i).map f := by
  unfold atI
  rw [List.length_map]
  cases ixN xs.length i with
  | none => rfl
  | some j => simp
theorem ops_ix : OpS X (rIx X.K) dIx := by
  intro x y d e z F H p pa Q gs rx ry ez k
  cases d <;> cases e <;> first | (simp [dIx] at ez; done) | skip
  all_goals cases ry
  all_goals simp only [dIx] at ez
  · -- a text
    split at ez
    · rename_i s i hc
      cases q : atI s.cps.toList i with
      | none => rw [q] at ez; cases ez
      | some c =>
        rw [q] at ez
        simp only [Option.map_some, Option.some.injEq] at ez
        subst ez
        cases rx
        exact .inr (.inr ⟨_, _, c, rfl, rfl, hc, q, k _ _ _ .refl gs (.str _)⟩)
    · cases ez
  · obtain ⟨l, xs, rfl, hl, hzr1, r1⟩ := rx.lstH gs
    obtain ⟨v, e1, r2⟩ := atI_rep r1 ez
    exact .inl ⟨l, xs, _, v, rfl, rfl, SqL.of hl, e1, k _ _ _ .refl gs r2⟩
  · obtain ⟨l, xs, rfl, hl, hzr1, r1⟩ := rx.tupH gs
    obtain ⟨v, e1, r2⟩ := atI_rep r1 ez
    exact .inr (.inl ⟨l, xs, _, v, rfl, rfl, SqT.of hl, e1, k _ _ _ .refl gs r2⟩)
  · rename_i ns i
    cases rx with
    | scr hs =>
      cases q : atI ns i with
      | none => rw [q] at ez; cases ez
      | some n =>
        rw [q] at ez
        simp only [Option.map_some, Option.some.injEq] at ez
        subst ez
        exact .inl ⟨_, _, _, .int n, rfl, rfl, sqL_mono gs.sub hs, by rw [atI_map, q]; rfl, k _ _ _ .refl gs (.int _)⟩
/-- an item of the pot -/
def ixPot (k : Nat) (y : D) : M D := fun _ p => if k = p.g then (match y with
  | .int 0 => .ok (.int p.a) p
  | .int 1 => .ok (.int p.b) p
  | _ => .stuck) else .stuck
def ixAny (x y : D) : M D := match x with
  | .pot k => ixPot k y
  | d => mopt (dIx d y)
def mIx (ma mb : M D) : M D := mbind ma fun x => mbind mb fun y => ixAny x y
theorem pm_ix (ha : PM X Wx a ma) (hb : PM X Wx b mb) (hs : PlainIx b := by exact fun _ _ => rfl) : PM X Wx (.Subscript a b pos) (mIx ma mb) := ⟨(pe_ix ix_seq ha.pe hb.pe hs).imp fun σ H Q ⟨F, pa, p, ρ, gs, s, o⟩ => by
  refine TM.of gs s (o.bind.mono fun d p1 F1 H1 pa1 gr1 gs1 o1 s1 v1 r1 => ?_)
  refine TM.of gs1 s1 (o1.bind.mono fun e p2 F2 H2 pa2 gr2 gs2 o2 s2 v2 r2 => ?_)
  unfold ixAny at o2
  have r1' := r1.mono gr2.fz
  clear r1
  split at o2
  · unfold ixPot at o2
    split at o2
    · rename_i hk
      cases r1' with
      | pot h1 h2 =>
        obtain ⟨a, e1, rfl⟩ := h2 hk
        obtain ⟨h3, _⟩ := gs2.pot a e1
        split at o2
        · cases r2
          exact .inl ⟨a, _, 0, .int p2.a, rfl, rfl, SqL.of h3, rfl, o2.ret gs2 _ (.int _)⟩
        · cases r2
          exact .inl ⟨a, _, 1, .int p2.b, rfl, rfl, SqL.of h3, rfl, o2.ret gs2 _ (.int _)⟩
        · exact o2.elim
    · exact o2.elim
  · obtain ⟨z, ez, o3⟩ := o2.opt
    exact ops_ix v1 v2 d e z F2 H2 p2 pa2 Q gs2 r1' r2 ez fun v F3 H3 gr3 gs3 r3 => o3 F3 H3 pa2 gr3 gs3 v r3⟩

/-! ### slices -/
def cutA {α : Type} (xs : List α) (lo hi : Option Int) : List α := (xs.drop (HT.sIx xs.length 0 lo)).take (HT.sIx xs.length xs.length hi - HT.sIx xs.length 0 lo)
theorem AllR.cut {α β : Type} {R : α → β → Prop} {xs : List α} {ys : List β} (r : AllR R xs ys) (lo hi : Option Int) : AllR R (cutA xs lo hi) (cutA ys lo hi) := by
  unfold cutA
  rw [r.1]
  exact (r.drop _).take _
theorem cutA_len {α : Type} (xs : List α) (lo hi : Option Int) : (cutA xs lo hi).length ≤ xs.length := by
  unfold cutA
  rw [List.length_take, List.length_drop]
  omega
/-- a bound of a slice -/
def TMO (K : PySem.W.Frag) (mg : Str → Option Value) (Wx : WX) (m : M (Option Int)) : L2.St → Hp → (Option Int → Hp → Prop) → Prop := fun σ H Q => At K mg Wx m σ H fun _ _ o p' F' H' pa' => Q o H'
structure PMO (X : Cx) (Wx : WX) (e : Option Expr) (m : M (Option Int)) : Prop where
  po : PO X e (TMO X.K X.mg Wx m)
def mPart (ma : M D) : M (Option Int) := mbind ma fun d => match d with
  | .int i => mret (some i)
  | _ => mstuck
theorem pmO_none : PMO X Wx none (mret none) := ⟨⟨fun pins s σ H Q I ⟨F, pa, p, ρ, gs, sr, o⟩ => po_none.run pins s σ H Q I (o.ret gs)⟩⟩
theorem pmO_some (ha : PM X Wx e ma) : PMO X Wx (some e) (mPart ma) := ⟨⟨fun pins s σ H Q I ⟨F, pa, p, ρ, gs, sr, o⟩ => (po_some ha.pe).run pins s σ H Q I (by
  refine TM.of gs sr (o.bind.mono fun d p1 F1 H1 pa1 gr1 gs1 o1 s1 v1 r1 => ?_)
  cases d <;> first | exact o1.elim | skip
  cases r1
  exact ⟨_, rfl, o1.ret gs1⟩)⟩⟩
theorem TMO.of {K : PySem.W.Frag} {mg : Str → Option Value} {t : M (Option Int)} {σ : L2.St} {F H : Hp} {pa : Option Addr} {p : Pst} {ρ : Sl} {Q : Option Int → Hp → Prop} (gs : GS F H pa p) (s : SRel K F H p.g pa σ ρ)
    (h : Out K mg Wx σ F H p.g pa (fun d p' F' H' pa' => SRel K F' H' p'.g pa' σ ρ → Q d H') (t ρ p)) : TMO K mg Wx t σ H Q :=
  ⟨F, pa, p, ρ, gs, s, h.mono fun _ _ _ _ _ gr _ k => k (s.grow gr)⟩
def dSl (d : D) (lo hi : Option Int) : Option D := match d with
  | .lst xs => some (.lst (cutA xs lo hi))
  | .tup xs => some (.tup (cutA xs lo hi))
  | _ => none
def mSl (me : M D) (ml mh : M (Option Int)) : M D := mbind me fun d => mbind ml fun lo => mbind mh fun hi => mopt (dSl d lo hi)
theorem cut_whole {α : Type} {xs : List α} {lo hi : Option Int} (h : HT.sIx xs.length 0 lo = 0 ∧ HT.sIx xs.length xs.length hi = xs.length) : cutA xs lo hi = xs := by
  unfold cutA
  rw [h.1, h.2]
  simp
variable {ml mh : M (Option Int)} {lo hi : Option Expr} {p2 : Pos}
theorem pm_sl (he : PM X Wx e m) (hl : PMO X Wx lo ml) (hh : PMO X Wx hi mh) : PM X Wx (.Subscript e (.Slice lo hi none p2) pos) (mSl m ml mh) := ⟨(pe_slice (SlR.or sl_list sl_tupA) he.pe hl.po hh.po).imp fun σ H Q ⟨F, pa, p, ρ, gs, s, o⟩ => by
  refine TM.of gs s (o.bind.mono fun d p1 F1 H1 pa1 gr1 gs1 o1 s1 v1 r1 => ?_)
  refine TMO.of gs1 s1 (o1.bind.mono fun l p2 F2 H2 pa2 gr2 gs2 o2 s2 => ?_)
  refine TMO.of gs2 s2 (o2.bind.mono fun u p3 F3 H3 pa3 gr3 gs3 o3 s3 => ?_)
  have r1 := (r1.mono gr2.fz).mono gr3.fz
  obtain ⟨z, ez, o4⟩ := o3.opt
  cases d <;> first | (simp [dSl] at ez; done) | skip
  · simp only [dSl, Option.some.injEq] at ez
    subst ez
    obtain ⟨a, xs, rfl, hl, hzrs, rs⟩ := r1.lstH gs3
    refine .inl ⟨a, xs, rfl, SqL.of hl, fun q hq => ?_⟩
    exact o4 _ _ pa3 (Gr.alloc gs3 hq) (gs3.alloc hq) _ (Rep.lst' upd_same (Nat.le_trans (cutA_len _ _ _) hzrs) ((rs.cut l u).mono fun _ _ h => h.mono (Fz.upd (gs3.fnone hq))))
  · simp only [dSl, Option.some.injEq] at ez
    subst ez
    have r1' := r1
    obtain ⟨a, xs, rfl, hl, hzrs, rs⟩ := r1.tupH gs3
    refine .inr ⟨a, xs, rfl, SqT.of hl, fun hw => ?_, fun hw q hq => ?_⟩
    · rw [rs.1] at hw
      exact o4.ret gs3 _ (by rw [cut_whole hw]; exact r1')
    · exact o4 _ _ pa3 (Gr.alloc gs3 hq) (gs3.alloc hq) _ (Rep.tup' upd_same (Nat.le_trans (cutA_len _ _ _) hzrs) ((rs.cut l u).mono fun _ _ h => h.mono (Fz.upd (gs3.fnone hq))))⟩
/-- a slice of a list, fresh -/
def mSlo (me : M D) (ml mh : M (Option Int)) : M (List D) := mbind me fun d => mbind ml fun lo => mbind mh fun hi => match d with
  | .lst xs => mret (cutA xs lo hi)
  | _ => mstuck
theorem Gr.free0 {F H F' H' : Hp} {g g' : Nat} {pa pa' : Option Addr} (gr : Gr F H g pa F' H' g' pa') {q : Addr} (hq : H' q = none) : H q = none := by
  cases z : H q with
  | none => rfl
  | some u => obtain ⟨u', z'⟩ := gr.there q u z; rw [hq] at z'; cases z'
/-- the last step makes a fresh list -/
theorem out_fresh {K : PySem.W.Frag} {mg : Str → Option Value} {σ : L2.St} {F H F1 H1 : Hp} {pa pa1 : Option Addr} {p p1 : Pst} {Q : VK} {ds : List D} (gr : Gr F H p.g pa F1 H1 p1.g pa1) (gs : GS F1 H1 pa1 p1)
    (o : Out K mg Wx σ F H p.g pa (fun ds p' F' H' pa' => ∀ a vs, H a = none → H' a = some (.lst vs) → F' a = none → pa' ≠ some a → ds.length ≤ sizeLine → Reps K F' p'.g pa' vs ds → Q (.ref a) H') (.ok ds p1)) {q : Addr} (hq : H1 q = none) {vs : List V} (hz : ds.length ≤ sizeLine) (rs : Reps K F1 p1.g pa1 vs ds) : Q (.ref q) (upd H1 q (.lst vs)) :=
  o F1 _ pa1 (gr.trans (Gr.allocO hq)) (gs.allocO hq) q vs (gr.free0 hq) upd_same (gs.fnone hq) (gs.pne hq) hz rs
theorem mbind_ok {α β : Type} {m : M α} {k : α → M β} {ρ : Sl} {p p' : Pst} {a : α} (h : m ρ p = .ok a p') : mbind m k ρ p = k a ρ p' := by
  unfold mbind; rw [h]
/-- where all but the last step's result is wanted: the steps in a row, from the start on -/
theorem Out.bindS {α β : Type} {K : PySem.W.Frag} {mg : Str → Option Value} {σ : L2.St} {F H F0 H0 : Hp} {g g0 : Nat} {pa pa0 : Option Addr} {P : β → Pst → Hp → Hp → Option Addr → Prop} {m : M α} {k : α → M β} {ρ : Sl} {p : Pst}
    (x : Gr F0 H0 g0 pa0 F H g pa) (h : Out K mg Wx σ F0 H0 g0 pa0 P (mbind m k ρ p)) :
    Out K mg Wx σ F H g pa (fun a p' F' H' pa' => Gr F0 H0 g0 pa0 F' H' p'.g pa' ∧ Out K mg Wx σ F0 H0 g0 pa0 P (k a ρ p')) (m ρ p) := by
  unfold mbind at h
  cases e : m ρ p with
  | stuck => rw [e] at h; exact h
  | exc x' p' => rw [e] at h; exact fun cls dd F' H' pa' gr gs r => h cls dd F' H' pa' (x.trans gr) gs r
  | ok a p' =>
    rw [e] at h
    exact fun F' H' pa' gr gs => ⟨x.trans gr, h⟩
theorem pmo_sl (he : PM X Wx e m) (hl : PMO X Wx lo ml) (hh : PMO X Wx hi mh) : PMo X Wx (.Subscript e (.Slice lo hi none p2) pos) (mSlo m ml mh) := ⟨(pe_slice sl_list he.pe hl.po hh.po).imp fun σ H Q ⟨F, pa, p, ρ, gs, s, o⟩ => by
  refine TM.of gs s ((Out.bindS .refl o).mono fun d p1 F1 H1 pa1 _ gs1 ⟨gr1, o1⟩ s1 v1 r1 => ?_)
  refine TMO.of gs1 s1 ((Out.bindS gr1 o1).mono fun l p2 F2 H2 pa2 gr2' gs2 ⟨gr2, o2⟩ s2 => ?_)
  refine TMO.of gs2 s2 ((Out.bindS gr2 o2).mono fun u p3 F3 H3 pa3 gr3' gs3 ⟨gr3, o3⟩ s3 => ?_)
  have r1 := (r1.mono gr2'.fz).mono gr3'.fz
  cases d <;> first | exact o3.elim | skip
  obtain ⟨a, xs, rfl, hl, hzrs, rs⟩ := r1.lstH gs3
  exact ⟨a, xs, rfl, SqL.of hl, fun q hq => out_fresh gr3 gs3 o3 hq (Nat.le_trans (cutA_len _ _ _) hzrs) (rs.cut l u)⟩⟩
/-- xs[::-1] -/
def mRevo (me : M D) : M (List D) := mbind me fun d => match d with
  | .lst xs => mret xs.reverse
  | _ => mstuck
theorem pmo_rev {k : Nat} {p1 p2 p3 : Pos} (he : PM X Wx e m) : PMo X Wx (.Subscript e (.Slice none none (some (.UnaryOp .USub (.Constant (.int 1) k p1) p2)) p3) pos) (mRevo m) := ⟨(pe_revL he.pe).imp fun σ H Q ⟨F, pa, p, ρ, gs, s, o⟩ => by
  refine TM.of gs s ((Out.bindS .refl o).mono fun d p1 F1 H1 pa1 _ gs1 ⟨gr1, o1⟩ s1 v1 r1 => ?_)
  cases d <;> first | exact o1.elim | skip
  obtain ⟨a, xs, rfl, hl, hzrs, rs⟩ := r1.lstH gs1
  exact ⟨a, xs, rfl, SqL.of hl, fun q hq => out_fresh gr1 gs1 o1 hq (by rw [List.length_reverse]; exact hzrs) rs.reverse⟩⟩

/-! ### calls of built-ins -/
def CallS (X : Cx) (r : List V → Hp → VK → Prop) (f : List D → Option D) : Prop := ∀ (xs : List V) (ds : List D) (z : D) (F H : Hp) (p : Pst) (pa : Option Addr) (Q : VK), GS F H pa p → Reps X.K F p.g pa xs ds → f ds = some z →
  (∀ v F' H', Gr F H p.g pa F' H' p.g pa → GS F' H' pa p → Rep X.K F' p.g pa v z → Q v H') → r xs H Q
def mCall (f : List D → Option D) (ms : M (List D)) : M D := mbind ms fun ds => mopt (f ds)
theorem tm_call {r : List V → Hp → VK → Prop} {f : List D → Option D} (hs : CallS X r f) : ∀ σ H Q, TM X.K X.mg Wx (mCall f ms) σ H Q → tCB r (TMa X.K X.mg Wx ms) σ H Q := fun σ H Q ⟨F, pa, p, ρ, gs, s, o⟩ => by
  refine TMa.of gs s (o.bind.mono fun ds p1 F1 H1 pa1 gr1 gs1 o1 s1 vs rs => ?_)
  obtain ⟨z, ez, o2⟩ := o1.opt
  exact hs vs ds z F1 H1 p1 pa1 Q gs1 rs ez fun v F3 H3 gr3 gs3 r3 => o2 F3 H3 pa1 gr3 gs3 v r3
variable {bid T : String} {x : Str} {p : Pos}
theorem pm_callB {r : List V → Hp → VK → Prop} {f : List D → Option D} (hc : CallR X (.builtin bid) r) (hs : CallS X r f) (hg : Gl X x) (hm : X.mg x = none) (hv : bootBuiltins x = some (.builtin bid)) (ha : PMa X Wx (e :: es) ms) (hn : x ≠ "__name__" := by decide) (hdb : (x == ("__debug__" : Str)) = false := by decide)
    (he : starEach (e :: es) X.env = (false, eval e X.env) :: starEach es X.env := by rfl) (hpl : (backTo pos (starEach es X.env)).any (·.1) = false := by rfl) : PM X Wx (.Call (.Name x p) (e :: es) [] pos) (mCall f ms) :=
  ⟨(pe_callB hc hg hm hv ha.pa hn hdb he hpl).imp (tm_call hs)⟩
theorem pm_callTy {r : List V → Hp → VK → Prop} {f : List D → Option D} (hc : CallR X (.type T) r) (hs : CallS X r f) (hg : Gl X x) (hm : X.mg x = none) (hv : bootBuiltins x = some (.type T)) (ha : PMa X Wx (e :: es) ms) (hn : x ≠ "__name__" := by decide) (hdb : (x == ("__debug__" : Str)) = false := by decide)
    (he : starEach (e :: es) X.env = (false, eval e X.env) :: starEach es X.env := by rfl) (hpl : (backTo pos (starEach es X.env)).any (·.1) = false := by rfl) : PM X Wx (.Call (.Name x p) (e :: es) [] pos) (mCall f ms) :=
  ⟨(pe_callTy hc hg hm hv ha.pa hn hdb he hpl).imp (tm_call hs)⟩
theorem reps1 {K : PySem.W.Frag} {F : Hp} {g : Nat} {pa : Option Addr} {xs : List V} {d : D} (r : Reps K F g pa xs [d]) : ∃ v, xs = [v] ∧ Rep K F g pa v d := by
  rcases r.cases with ⟨_, h⟩ | ⟨x, y, xs', ys', rfl, h, r1, r2⟩
  · cases h
  · cases h
    rcases r2.cases with ⟨rfl, _⟩ | ⟨_, _, _, _, _, h, _⟩
    · exact ⟨x, rfl, r1⟩
    · cases h
theorem reps2 {K : PySem.W.Frag} {F : Hp} {g : Nat} {pa : Option Addr} {xs : List V} {d e : D} (r : Reps K F g pa xs [d, e]) : ∃ v w, xs = [v, w] ∧ Rep K F g pa v d ∧ Rep K F g pa w e := by
  rcases r.cases with ⟨_, h⟩ | ⟨x, y, xs', ys', rfl, h, r1, r2⟩
  · cases h
  · cases h
    obtain ⟨v, rfl, r3⟩ := reps1 r2
    exact ⟨x, v, rfl, r1, r3⟩
def dLen : List D → Option D
  | [.lst xs] => some (.int xs.length)
  | [.tup xs] => some (.int xs.length)
  | [.scr xs] => some (.int xs.length)
  | [.str x] => if x.length ≤ sizeLine then some (.int x.length) else none
  | _ => none
theorem calls_len : CallS X (fun xs H Q => ∃ x n, xs = [x] ∧ LenV X.K x H n ∧ Q (.int n) H) dLen := by
  intro xs ds z F H p pa Q gs rs ez k
  unfold dLen at ez
  split at ez <;> first | (cases ez; done) | skip
  · obtain ⟨v, rfl, r⟩ := reps1 rs
    obtain ⟨a, vs, rfl, h, hzr2, r2⟩ := r.lstH gs
    simp only [Option.some.injEq] at ez
    subst ez
    exact ⟨_, vs.length, rfl, .inl ⟨vs, SqL.of h, rfl⟩, by rw [r2.1]; exact k _ _ _ .refl gs (.int _)⟩
  · obtain ⟨v, rfl, r⟩ := reps1 rs
    obtain ⟨a, vs, rfl, h, hzr2, r2⟩ := r.tupH gs
    simp only [Option.some.injEq] at ez
    subst ez
    exact ⟨_, vs.length, rfl, .inr ⟨vs, SqT.of h, rfl⟩, by rw [r2.1]; exact k _ _ _ .refl gs (.int _)⟩
  · obtain ⟨v, rfl, r⟩ := reps1 rs
    simp only [Option.some.injEq] at ez
    subst ez
    cases r with
    | scr hs => exact ⟨_, _, rfl, .inl ⟨_, sqL_mono gs.sub hs, rfl⟩, by rw [List.length_map]; exact k _ _ _ .refl gs (.int _)⟩
  · split at ez
    · rename_i hc
      obtain ⟨v, rfl, r⟩ := reps1 rs
      cases r
      simp only [Option.some.injEq] at ez
      subst ez
      exact ⟨_, _, rfl, ⟨hc, rfl⟩, k _ _ _ .refl gs (.int _)⟩
    · cases ez
def dAbs : List D → Option D
  | [.int i] => some (.int (if i < 0 then -i else i))
  | _ => none
theorem calls_abs : CallS X (fun xs H Q => ∃ i, xs = [.int i] ∧ Q (.int (if i < 0 then -i else i)) H) dAbs := by
  intro xs ds z F H p pa Q gs rs ez k
  unfold dAbs at ez
  split at ez <;> first | (cases ez; done) | skip
  obtain ⟨v, rfl, r⟩ := reps1 rs
  cases r
  simp only [Option.some.injEq] at ez
  subst ez
  exact ⟨_, rfl, k _ _ _ .refl gs (.int _)⟩
def dInt : List D → Option D
  | [.int i] => some (.int i)
  | [.bl b] => some (.int (if b then 1 else 0))
  | _ => none
theorem calls_int : CallS X (fun xs H Q => (∃ i, xs = [.int i] ∧ Q (.int i) H) ∨ ∃ k, xs = [.bl k] ∧ Q (.int (if k then 1 else 0)) H) dInt := by
  intro xs ds z F H p pa Q gs rs ez k
  unfold dInt at ez
  split at ez <;> first | (cases ez; done) | skip
  · obtain ⟨v, rfl, r⟩ := reps1 rs
    cases r
    simp only [Option.some.injEq] at ez
    subst ez
    exact .inl ⟨_, rfl, k _ _ _ .refl gs (.int _)⟩
  · obtain ⟨v, rfl, r⟩ := reps1 rs
    cases r
    simp only [Option.some.injEq] at ez
    subst ez
    exact .inr ⟨_, rfl, k _ _ _ .refl gs (.int _)⟩
def dDivmod : List D → Option D
  | [.int i, .int j] => if 0 < j ∧ j < 1073741824 then some (.tup [.int (i / j), .int (i % j)]) else none
  | _ => none
theorem calls_divmod : CallS X (fun xs H Q => ∃ i j, xs = [.int i, .int j] ∧ CDiv i j ∧ ∀ p, H p = none → Q (.ref p) (upd H p (.tup [.int (i / j), .int (i % j)]))) dDivmod := by
  intro xs ds z F H p pa Q gs rs ez k
  unfold dDivmod at ez
  split at ez <;> first | (cases ez; done) | skip
  split at ez
  · rename_i hc
    obtain ⟨v, w, rfl, r1, r2⟩ := reps2 rs
    cases r1; cases r2
    simp only [Option.some.injEq] at ez
    subst ez
    refine ⟨_, _, rfl, hc, fun q hq => ?_⟩
    exact k _ _ _ (Gr.alloc gs hq) (gs.alloc hq) (Rep.tup' upd_same (lim_size (by show 2 ≤ 4096; decide)) (.cons (.int _) (.cons (.int _) .nil)))
  · cases ez
def intsOf : List D → Option (List Int)
  | [] => some []
  | .int i :: r => (intsOf r).map (i :: ·)
  | _ :: _ => none
theorem intsOf_map (ns : List Int) : intsOf (ns.map .int) = some ns := by
  induction ns with
  | nil => rfl
  | cons n ns ih => simp [intsOf, ih]
theorem reps_ints {K : PySem.W.Frag} {F : Hp} {g : Nat} {pa : Option Addr} : ∀ {vs : List V} {ds : List D} {ns : List Int}, Reps K F g pa vs ds → intsOf ds = some ns → vs = ns.map V.int
  | [], [], ns, _, h => by simp [intsOf] at h; subst h; rfl
  | [], _ :: _, _, r, _ => by have := r.1; simp at this
  | _ :: _, [], _, r, _ => by have := r.1; simp at this
  | v :: vs, d :: ds, ns, r, h => by
    cases d <;> first | (simp [intsOf] at h; done) | skip
    simp only [intsOf] at h
    cases q : intsOf ds with
    | none => rw [q] at h; cases h
    | some ms =>
      rw [q] at h
      simp only [Option.map_some, Option.some.injEq] at h
      subst h
      have r1 := r.head
      cases r1
      rw [reps_ints r.tail q]; rfl
def bsOf : List D → Option (List Bool)
  | [] => some []
  | .bl i :: r => (bsOf r).map (i :: ·)
  | _ :: _ => none
theorem bsOf_map (ns : List Bool) : bsOf (ns.map .bl) = some ns := by
  induction ns with
  | nil => rfl
  | cons n ns ih => simp [bsOf, ih]
theorem reps_bs {K : PySem.W.Frag} {F : Hp} {g : Nat} {pa : Option Addr} : ∀ {vs : List V} {ds : List D} {ns : List Bool}, Reps K F g pa vs ds → bsOf ds = some ns → vs = ns.map V.bl
  | [], [], ns, _, h => by simp [bsOf] at h; subst h; rfl
  | [], _ :: _, _, r, _ => by have := r.1; simp at this
  | _ :: _, [], _, r, _ => by have := r.1; simp at this
  | v :: vs, d :: ds, ns, r, h => by
    cases d <;> first | (simp [bsOf] at h; done) | skip
    simp only [bsOf] at h
    cases q : bsOf ds with
    | none => rw [q] at h; cases h
    | some ms =>
      rw [q] at h
      simp only [Option.map_some, Option.some.injEq] at h
      subst h
      have r1 := r.head
      cases r1
      rw [reps_bs r.tail q]; rfl
def dSum : List D → Option D
  | [.lst xs] => (intsOf xs).map fun ns => .int ns.sum
  | _ => none
theorem calls_sum : CallS X (rSum X.K) dSum := by
  intro xs ds z F H p pa Q gs rs ez k
  unfold dSum at ez
  split at ez <;> first | (cases ez; done) | skip
  rename_i ys
  obtain ⟨v, rfl, r⟩ := reps1 rs
  obtain ⟨a, vs, rfl, h, hzr2, r2⟩ := r.lstH gs
  cases q : intsOf ys with
  | none => rw [q] at ez; cases ez
  | some ns =>
    rw [q] at ez
    simp only [Option.map_some, Option.some.injEq] at ez
    subst ez
    exact ⟨a, ns, rfl, SqL.of (by rw [← reps_ints r2 q]; exact h), k _ _ _ .refl gs (.int _)⟩
def dAll : List D → Option D
  | [.lst xs] => (bsOf xs).map fun ns => .bl (ns.all id)
  | _ => none
def dAny : List D → Option D
  | [.lst xs] => (bsOf xs).map fun ns => .bl (ns.any id)
  | _ => none
theorem calls_all : CallS X (rAll X.K) dAll := by
  intro xs ds z F H p pa Q gs rs ez k
  unfold dAll at ez
  split at ez <;> first | (cases ez; done) | skip
  rename_i ys
  obtain ⟨v, rfl, r⟩ := reps1 rs
  obtain ⟨a, vs, rfl, h, hzr2, r2⟩ := r.lstH gs
  cases q : bsOf ys with
  | none => rw [q] at ez; cases ez
  | some ns =>
    rw [q] at ez
    simp only [Option.map_some, Option.some.injEq] at ez
    subst ez
    exact ⟨a, ns, rfl, SqL.of (by rw [← reps_bs r2 q]; exact h), k _ _ _ .refl gs (.bl _)⟩
theorem calls_any : CallS X (rAny X.K) dAny := by
  intro xs ds z F H p pa Q gs rs ez k
  unfold dAny at ez
  split at ez <;> first | (cases ez; done) | skip
  rename_i ys
  obtain ⟨v, rfl, r⟩ := reps1 rs
  obtain ⟨a, vs, rfl, h, hzr2, r2⟩ := r.lstH gs
  cases q : bsOf ys with
  | none => rw [q] at ez; cases ez
  | some ns =>
    rw [q] at ez
    simp only [Option.map_some, Option.some.injEq] at ez
    subst ez
    exact ⟨a, ns, rfl, SqL.of (by rw [← reps_bs r2 q]; exact h), k _ _ _ .refl gs (.bl _)⟩
/-- greatest, least -/
def maxI : List Int → Int
  | [] => 0
  | [x] => x
  | x :: xs => max x (maxI xs)
def minI : List Int → Int
  | [] => 0
  | [x] => x
  | x :: xs => min x (minI xs)
theorem maxI_spec : ∀ {ns : List Int}, ns ≠ [] → maxI ns ∈ ns ∧ ∀ y ∈ ns, y ≤ maxI ns
  | [], h => absurd rfl h
  | [x], _ => by simp [maxI]
  | x :: y :: r, _ => by
    obtain ⟨h1, h2⟩ := maxI_spec (ns := y :: r) (by simp)
    have e : maxI (x :: y :: r) = max x (maxI (y :: r)) := by simp [maxI]
    rw [e]
    constructor
    · by_cases hx : x ≤ maxI (y :: r)
      · rw [show max x (maxI (y :: r)) = maxI (y :: r) by omega]; exact List.mem_cons_of_mem _ h1
      · rw [show max x (maxI (y :: r)) = x by omega]; exact List.mem_cons_self
    · intro z hz
      rcases List.mem_cons.mp hz with rfl | hz
      · omega
      · have := h2 z hz; omega
theorem minI_spec : ∀ {ns : List Int}, ns ≠ [] → minI ns ∈ ns ∧ ∀ y ∈ ns, minI ns ≤ y
  | [], h => absurd rfl h
  | [x], _ => by simp [minI]
  | x :: y :: r, _ => by
    obtain ⟨h1, h2⟩ := minI_spec (ns := y :: r) (by simp)
    have e : minI (x :: y :: r) = min x (minI (y :: r)) := by simp [minI]
    rw [e]
    constructor
    · by_cases hx : minI (y :: r) ≤ x
      · rw [show min x (minI (y :: r)) = minI (y :: r) by omega]; exact List.mem_cons_of_mem _ h1
      · rw [show min x (minI (y :: r)) = x by omega]; exact List.mem_cons_self
    · intro z hz
      rcases List.mem_cons.mp hz with rfl | hz
      · omega
      · have := h2 z hz; omega
def dMax1 : List D → Option D
  | [.lst xs] => (intsOf xs).bind fun ns => if ns = [] then none else some (.int (maxI ns))
  | _ => none
def dMin1 : List D → Option D
  | [.lst xs] => (intsOf xs).bind fun ns => if ns = [] then none else some (.int (minI ns))
  | _ => none
theorem calls_max1 : CallS X (rMax X.K) dMax1 := by
  intro xs ds z F H p pa Q gs rs ez k
  unfold dMax1 at ez
  split at ez <;> first | (cases ez; done) | skip
  rename_i ys
  obtain ⟨v, rfl, r⟩ := reps1 rs
  obtain ⟨a, vs, rfl, h, hzr2, r2⟩ := r.lstH gs
  cases q : intsOf ys with
  | none => rw [q] at ez; cases ez
  | some ns =>
    rw [q] at ez
    simp only [Option.bind_some] at ez
    split at ez
    · cases ez
    · rename_i hne
      simp only [Option.some.injEq] at ez
      subst ez
      refine ⟨a, ns, rfl, SqL.of (by rw [← reps_ints r2 q]; exact h), List.length_pos_iff.mpr hne, fun m hm hle => ?_⟩
      obtain ⟨h1, h2⟩ := maxI_spec hne
      have : m = maxI ns := by have a1 := hle _ h1; have a2 := h2 _ hm; omega
      rw [this]
      exact k _ _ _ .refl gs (.int _)
theorem calls_min1 : CallS X (rMin X.K) dMin1 := by
  intro xs ds z F H p pa Q gs rs ez k
  unfold dMin1 at ez
  split at ez <;> first | (cases ez; done) | skip
  rename_i ys
  obtain ⟨v, rfl, r⟩ := reps1 rs
  obtain ⟨a, vs, rfl, h, hzr2, r2⟩ := r.lstH gs
  cases q : intsOf ys with
  | none => rw [q] at ez; cases ez
  | some ns =>
    rw [q] at ez
    simp only [Option.bind_some] at ez
    split at ez
    · cases ez
    · rename_i hne
      simp only [Option.some.injEq] at ez
      subst ez
      refine ⟨a, ns, rfl, SqL.of (by rw [← reps_ints r2 q]; exact h), List.length_pos_iff.mpr hne, fun m hm hle => ?_⟩
      obtain ⟨h1, h2⟩ := minI_spec hne
      have : m = minI ns := by have a1 := hle _ h1; have a2 := h2 _ hm; omega
      rw [this]
      exact k _ _ _ .refl gs (.int _)
def dMax2 : List D → Option D
  | [.int i, .int j] => some (.int (if j > i then j else i))
  | _ => none
def dMin2 : List D → Option D
  | [.int i, .int j] => some (.int (if j < i then j else i))
  | _ => none
theorem calls_max2 : CallS X (fun xs H Q => ∃ i j, xs = [.int i, .int j] ∧ Q (.int (if j > i then j else i)) H) dMax2 := by
  intro xs ds z F H p pa Q gs rs ez k
  unfold dMax2 at ez
  split at ez <;> first | (cases ez; done) | skip
  obtain ⟨v, w, rfl, r1, r2⟩ := reps2 rs
  cases r1; cases r2
  simp only [Option.some.injEq] at ez
  subst ez
  exact ⟨_, _, rfl, k _ _ _ .refl gs (.int _)⟩
theorem calls_min2 : CallS X (fun xs H Q => ∃ i j, xs = [.int i, .int j] ∧ Q (.int (if j < i then j else i)) H) dMin2 := by
  intro xs ds z F H p pa Q gs rs ez k
  unfold dMin2 at ez
  split at ez <;> first | (cases ez; done) | skip
  obtain ⟨v, w, rfl, r1, r2⟩ := reps2 rs
  cases r1; cases r2
  simp only [Option.some.injEq] at ez
  subst ez
  exact ⟨_, _, rfl, k _ _ _ .refl gs (.int _)⟩
/-- tuple(x) -/
def dTuple : List D → Option D
  | [.lst xs] => some (.tup xs)
  | [.tup xs] => some (.tup xs)
  | _ => none
theorem calls_tuple : CallS X (fun xs H Q => ∃ p ys, xs = [.ref p] ∧ ((SqL X.K H p ys ∧ ∀ l, H l = none → Q (.ref l) (upd H l (.tup ys))) ∨ (SqT X.K H p ys ∧ Q (.ref p) H))) dTuple := by
  intro xs ds z F H p pa Q gs rs ez k
  unfold dTuple at ez
  split at ez <;> first | (cases ez; done) | skip
  · obtain ⟨v, rfl, r⟩ := reps1 rs
    obtain ⟨a, vs, rfl, h, hzr2, r2⟩ := r.lstH gs
    simp only [Option.some.injEq] at ez
    subst ez
    exact ⟨a, vs, rfl, .inl ⟨SqL.of h, fun q hq => k _ _ _ (Gr.alloc gs hq) (gs.alloc hq) (Rep.tup' upd_same hzr2 (r2.mono (Fz.upd (gs.fnone hq))))⟩⟩
  · obtain ⟨v, rfl, r⟩ := reps1 rs
    have r' := r
    obtain ⟨a, vs, rfl, h, hzr2, r2⟩ := r.tupH gs
    simp only [Option.some.injEq] at ez
    subst ez
    exact ⟨a, vs, rfl, .inr ⟨SqT.of h, k _ _ _ .refl gs r'⟩⟩
end
end PF

namespace PF
open PySem PySem.Spec PyProof.Rows L2

section
variable {X : Cx} {Wx : WX} {a b c e : Expr} {es rest : List Expr} {ma mb mc m : M D} {mo ms mi : M (List D)} {ta tb : M Bool} {pos : Pos} {x : Str} {p : Pos} {tg : Expr}
/-! ### fresh lists from built-ins -/
def mLst (f : List D → Option (List D)) (ms : M (List D)) : M (List D) := mbind ms fun ds => mopt (f ds)
def CallSo (X : Cx) (r : List V → Hp → VK → Prop) (f : List D → Option (List D)) : Prop := ∀ (xs : List V) (ds zs : List D) (F H : Hp) (p : Pst) (pa : Option Addr) (Q : VK), GS F H pa p → Reps X.K F p.g pa xs ds → f ds = some zs →
  (∀ q vs, H q = none → zs.length ≤ sizeLine → Reps X.K F p.g pa vs zs → Q (.ref q) (upd H q (.lst vs))) → r xs H Q
theorem tm_callo {r : List V → Hp → VK → Prop} {f : List D → Option (List D)} (hs : CallSo X r f) : ∀ σ H Q, TMo X.K X.mg Wx (mLst f ms) σ H Q → tCB r (TMa X.K X.mg Wx ms) σ H Q := fun σ H Q ⟨F, pa, p, ρ, gs, s, o⟩ => by
  refine TMa.of gs s ((Out.bindS .refl o).mono fun ds p1 F1 H1 pa1 _ gs1 ⟨gr1, o1⟩ s1 vs rs => ?_)
  obtain ⟨z, ez, o2⟩ := o1.opt
  exact hs vs ds z F1 H1 p1 pa1 Q gs1 rs ez fun q ws hq hz rz => out_fresh gr1 gs1 o2 hq hz rz
theorem pmo_callB {bid : String} {r : List V → Hp → VK → Prop} {f : List D → Option (List D)} (hc : CallR X (.builtin bid) r) (hs : CallSo X r f) (hg : Gl X x) (hm : X.mg x = none) (hv : bootBuiltins x = some (.builtin bid)) (ha : PMa X Wx (e :: es) ms) (hn : x ≠ "__name__" := by decide) (hdb : (x == ("__debug__" : Str)) = false := by decide)
    (he : starEach (e :: es) X.env = (false, eval e X.env) :: starEach es X.env := by rfl) (hpl : (backTo pos (starEach es X.env)).any (·.1) = false := by rfl) : PMo X Wx (.Call (.Name x p) (e :: es) [] pos) (mLst f ms) :=
  ⟨(pe_callB hc hg hm hv ha.pa hn hdb he hpl).imp (tm_callo hs)⟩
theorem pmo_callTy {T : String} {r : List V → Hp → VK → Prop} {f : List D → Option (List D)} (hc : CallR X (.type T) r) (hs : CallSo X r f) (hg : Gl X x) (hm : X.mg x = none) (hv : bootBuiltins x = some (.type T)) (ha : PMa X Wx (e :: es) ms) (hn : x ≠ "__name__" := by decide) (hdb : (x == ("__debug__" : Str)) = false := by decide)
    (he : starEach (e :: es) X.env = (false, eval e X.env) :: starEach es X.env := by rfl) (hpl : (backTo pos (starEach es X.env)).any (·.1) = false := by rfl) : PMo X Wx (.Call (.Name x p) (e :: es) [] pos) (mLst f ms) :=
  ⟨(pe_callTy hc hg hm hv ha.pa hn hdb he hpl).imp (tm_callo hs)⟩
/-- list(x) of a list, a tuple -/
def dList : List D → Option (List D)
  | [.lst xs] => some xs
  | [.tup xs] => some xs
  | _ => none
theorem calls_list : CallSo X (fun xs H Q => ∃ p ys, xs = [.ref p] ∧ (SqL X.K H p ys ∨ SqT X.K H p ys) ∧ ∀ l, H l = none → Q (.ref l) (upd H l (.lst ys))) dList := by
  intro xs ds z F H p pa Q gs rs ez k
  unfold dList at ez
  split at ez <;> first | (cases ez; done) | skip
  · obtain ⟨v, rfl, r⟩ := reps1 rs
    obtain ⟨a, vs, rfl, h, hz, r2⟩ := r.lstH gs
    simp only [Option.some.injEq] at ez
    subst ez
    exact ⟨a, vs, rfl, .inl (SqL.of h), fun l hl => k l vs hl hz r2⟩
  · obtain ⟨v, rfl, r⟩ := reps1 rs
    obtain ⟨a, vs, rfl, h, hz, r2⟩ := r.tupH gs
    simp only [Option.some.injEq] at ez
    subst ez
    exact ⟨a, vs, rfl, .inr (SqT.of h), fun l hl => k l vs hl hz r2⟩
/-- sorted(x) of a list of ints -/
def ins (x : Int) : List Int → List Int
  | [] => [x]
  | y :: ys => if x ≤ y then x :: y :: ys else y :: ins x ys
def srt : List Int → List Int
  | [] => []
  | x :: xs => ins x (srt xs)
theorem ins_perm (x : Int) : ∀ l, (ins x l).Perm (x :: l)
  | [] => .refl _
  | y :: ys => by
    unfold ins
    split
    · exact .refl _
    · exact ((ins_perm x ys).cons y).trans (.swap x y ys)
theorem srt_perm : ∀ ns : List Int, (srt ns).Perm ns
  | [] => .refl _
  | x :: xs => (ins_perm x (srt xs)).trans ((srt_perm xs).cons x)
theorem ins_sorted (x : Int) : ∀ l : List Int, l.Pairwise (· ≤ ·) → (ins x l).Pairwise (· ≤ ·)
  | [], _ => by simp [ins]
  | y :: ys, h => by
    rw [List.pairwise_cons] at h
    unfold ins
    split
    · rename_i hc
      refine List.Pairwise.cons (fun z hz => ?_) (List.Pairwise.cons h.1 h.2)
      rcases List.mem_cons.mp hz with rfl | hz
      · exact hc
      · exact Int.le_trans hc (h.1 z hz)
    · rename_i hc
      refine List.Pairwise.cons (fun z hz => ?_) (ins_sorted x ys h.2)
      have hz' := (ins_perm x ys).mem_iff.mp hz
      rcases List.mem_cons.mp hz' with rfl | hz'
      · omega
      · exact h.1 z hz'
theorem srt_sorted : ∀ ns : List Int, (srt ns).Pairwise (· ≤ ·)
  | [] => .nil
  | x :: xs => ins_sorted x (srt xs) (srt_sorted xs)
theorem sorted_unique : ∀ {xs ys : List Int}, xs.Perm ys → xs.Pairwise (· ≤ ·) → ys.Pairwise (· ≤ ·) → xs = ys := by
  intro xs ys hp h1 h2
  exact List.Perm.eq_of_pairwise (le := (· ≤ ·)) (fun a b _ _ h3 h4 => by omega) h1 h2 hp
def dSorted : List D → Option (List D)
  | [.lst xs] => (intsOf xs).map fun ns => (srt ns).map .int
  | _ => none
theorem reps_int_map {K : PySem.W.Frag} {F : Hp} {g : Nat} {pa : Option Addr} : ∀ ns : List Int, Reps K F g pa (ns.map V.int) (ns.map D.int)
  | [] => .nil
  | n :: ns => .cons (.int n) (reps_int_map ns)
theorem intsOf_len : ∀ {ds : List D} {ns : List Int}, intsOf ds = some ns → ns.length = ds.length
  | [], ns, h => by simp [intsOf] at h; subst h; rfl
  | d :: ds, ns, h => by
    cases d <;> first | (simp [intsOf] at h; done) | skip
    simp only [intsOf] at h
    cases q : intsOf ds with
    | none => rw [q] at h; cases h
    | some ms =>
      rw [q] at h
      simp only [Option.map_some, Option.some.injEq] at h
      subst h
      simp [intsOf_len q]
theorem calls_sorted : CallSo X (rSortedI X.K) dSorted := by
  intro xs ds z F H p pa Q gs rs ez k
  unfold dSorted at ez
  split at ez <;> first | (cases ez; done) | skip
  rename_i ys
  obtain ⟨v, rfl, r⟩ := reps1 rs
  obtain ⟨a, vs, rfl, h, hz, r2⟩ := r.lstH gs
  cases q : intsOf ys with
  | none => rw [q] at ez; cases ez
  | some ns =>
    rw [q] at ez
    simp only [Option.map_some, Option.some.injEq] at ez
    subst ez
    refine ⟨a, ns, rfl, SqL.of (by rw [← reps_ints r2 q]; exact h), fun ns' l hp hs hl => ?_⟩
    have e : ns' = srt ns := sorted_unique (hp.trans (srt_perm ns).symm) hs (srt_sorted ns)
    subst e
    exact k l _ hl (by rw [List.length_map, (srt_perm ns).length_eq, intsOf_len q]; exact hz) (reps_int_map _)

/-! ### isinstance -/
inductive Ty | int | bool | str | list | tuple | dict
def Ty.name : Ty → String
  | .int => "int" | .bool => "bool" | .str => "str" | .list => "list" | .tuple => "tuple" | .dict => "dict"
def isTy : Ty → D → Bool
  | .int, .int _ => true
  | .int, .bl _ => true
  | .bool, .bl _ => true
  | .str, .str _ => true
  | .list, .lst _ => true
  | .list, .scr _ => true
  | .tuple, .tup _ => true
  | .dict, .emp => true
  | _, _ => false
def tyOf : D → String
  | .non => "NoneType" | .bl _ => "bool" | .int _ => "int" | .str _ => "str" | .lst _ => "list" | .scr _ => "list" | .pot _ => "list" | .tup _ => "tuple" | .emp => "dict"
theorem Rep.ty {K : PySem.W.Frag} {F H : Hp} {p : Pst} {pa : Option Addr} {v : V} {d : D} (gs : GS F H pa p) (r : Rep K F p.g pa v d) (hnp : noPot d = true) : TyX K H v (.type (tyOf d)) := by
  cases r with
  | non => exact .base .non
  | bl b => exact .base (.bl b)
  | int i => exact .base (.int i)
  | str s => exact .base (.str s)
  | lst h _ _ _ => exact .base (.lst (gs.sub _ _ h))
  | tup h _ _ _ => exact .base (.tup (gs.sub _ _ h))
  | scr h =>
    rcases h with (h | ⟨o, h⟩) | ⟨o, its, n, h1, h2, _⟩
    · exact .base (.lst (gs.sub _ _ h))
    · exact .base (.frz (gs.sub _ _ h))
    · exact .kList h1 h2
  | pot _ _ => simp [noPot] at hnp
  | emp h => exact .base (.dK (gs.sub _ _ h))
theorem kit_tab (t : Ty) (d : D) : kitB (tyOf d) t.name = some (isTy t d) ∨ noPot d = false := by
  cases d <;> cases t <;> first | exact .inr rfl | (left; simp only [tyOf, Ty.name, isTy]; decide +kernel)
def mIsi (t : Ty) (m : M D) : M D := mbind m fun d => if noPot d = true then mret (.bl (isTy t d)) else mstuck
def isTys (ts : List Ty) (d : D) : Bool := ts.any fun t => isTy t d
def mIsis (ts : List Ty) (m : M D) : M D := mbind m fun d => if noPot d = true then mret (.bl (isTys ts d)) else mstuck
theorem pm_isi {y : Str} {p2 : Pos} (t : Ty) (hg : Gl X "isinstance") (hm : X.mg "isinstance" = none) (ha : PM X Wx a m) (hgy : Gl X y) (hmy : X.mg y = none) (hvy : bootBuiltins y = some (.type t.name)) (hny : y ≠ "__name__" := by decide) (hdy : (y == ("__debug__" : Str)) = false := by decide)
    (hs : starEach (a :: [.Name y p2]) X.env = (false, eval a X.env) :: starEach [.Name y p2] X.env := by rfl) (hs2 : starEach [.Name y p2] X.env = (false, eval (.Name y p2) X.env) :: starEach [] X.env := by rfl)
    (hpl : (backTo pos (starEach [.Name y p2] X.env)).any (·.1) = false := by rfl) : PM X Wx (.Call (.Name "isinstance" p) [a, .Name y p2] [] pos) (mIsi t m) :=
  ⟨(pe_callB call_isi hg hm PyProof.Rows.boot_isinstance (pa_cons ha.pe (pa_cons (pe_bltn (v := .ty t.name) hgy hmy hvy rfl hny hdy) pa_nil hs2) hs) (by decide) (by decide) hs hpl).imp fun σ H Q ⟨F, pa, p, ρ, gs, s, o⟩ => by
    refine TM.of gs s (o.bind.mono fun d p1 F1 H1 pa1 gr1 gs1 o1 s1 v1 r1 => ?_)
    by_cases hn : noPot d = true
    · rw [if_pos hn] at o1
      refine ⟨v1, .ty t.name, _, _, isTy t d, rfl, .ty _, r1.ty gs1 hn, ?_, o1.ret gs1 _ (.bl _)⟩
      rcases kit_tab t d with h | h
      · exact kit_ty h
      · rw [h] at hn; cases hn
    · rw [if_neg hn] at o1; exact o1.elim⟩
theorem kitAny_tys {K : PySem.W.Frag} {d : D} (hn : noPot d = true) : ∀ ts : List Ty, PySem.W.kitAny K (.type (tyOf d)) (ts.map fun t => Value.type t.name) = some (isTys ts d)
  | [] => kitAny_nil
  | t :: ts => by
    have h : PySem.W.kitOne K (.type (tyOf d)) (.type t.name) = some (isTy t d) := by
      rcases kit_tab t d with h | h
      · exact kit_ty h
      · rw [h] at hn; cases hn
    refine kitAny_cons h (fun e => ?_) fun e => ?_
    · rw [kitAny_tys hn ts]; simp [isTys, e]
    · simp [isTys, e]
theorem pm_isi2 {y z : Str} {p2 p3 p4 : Pos} {kk} (t u : Ty) (hg : Gl X "isinstance") (hm : X.mg "isinstance" = none) (ha : PM X Wx a m) (hgy : Gl X y) (hmy : X.mg y = none) (hvy : bootBuiltins y = some (.type t.name)) (hgz : Gl X z) (hmz : X.mg z = none) (hvz : bootBuiltins z = some (.type u.name))
    (hny : y ≠ "__name__" := by decide) (hdy : (y == ("__debug__" : Str)) = false := by decide) (hnz : z ≠ "__name__" := by decide) (hdz : (z == ("__debug__" : Str)) = false := by decide)
    (hs : starEach (a :: [.Tuple [.Name y p2, .Name z p3] kk p4]) X.env = (false, eval a X.env) :: starEach [.Tuple [.Name y p2, .Name z p3] kk p4] X.env := by rfl)
    (hs2 : starEach [.Tuple [.Name y p2, .Name z p3] kk p4] X.env = (false, eval (.Tuple [.Name y p2, .Name z p3] kk p4) X.env) :: starEach [] X.env := by rfl)
    (hs3 : starEach [.Name y p2, .Name z p3] X.env = (false, eval (.Name y p2) X.env) :: starEach [.Name z p3] X.env := by rfl) (hs4 : starEach [.Name z p3] X.env = (false, eval (.Name z p3) X.env) :: starEach [] X.env := by rfl)
    (hpl : (backTo pos (starEach [.Tuple [.Name y p2, .Name z p3] kk p4] X.env)).any (·.1) = false := by rfl) : PM X Wx (.Call (.Name "isinstance" p) [a, .Tuple [.Name y p2, .Name z p3] kk p4] [] pos) (mIsis [t, u] m) :=
  ⟨(pe_callB call_isiT hg hm PyProof.Rows.boot_isinstance (pa_cons ha.pe (pa_cons (pe_tup (pa_cons (pe_bltn (v := .ty t.name) hgy hmy hvy rfl hny hdy) (pa_cons (pe_bltn (v := .ty u.name) hgz hmz hvz rfl hnz hdz) pa_nil hs4) hs3)) pa_nil hs2) hs) (by decide) (by decide) hs hpl).imp fun σ H Q ⟨F, pa, p, ρ, gs, s, o⟩ => by
    refine TM.of gs s (o.bind.mono fun d p1 F1 H1 pa1 gr1 gs1 o1 s1 v1 r1 => ?_)
    by_cases hn : noPot d = true
    · rw [if_pos hn] at o1
      refine ⟨lim_size (by show 2 ≤ 4096; decide), fun q hq => ?_⟩
      have gs2 := gs1.allocO (o := .tup [.ty t.name, .ty u.name]) hq
      have gr2 : Gr F1 H1 p1.g pa1 F1 (upd H1 q (.tup [.ty t.name, .ty u.name])) p1.g pa1 := Gr.allocO hq
      refine ⟨v1, q, _, _, _, isTys [t, u] d, rfl, upd_same, .cons (.ty _) (.cons (.ty _) .nil), r1.ty gs2 hn, kitAny_tys hn [t, u], o1 _ _ pa1 gr2 gs2 _ (.bl _)⟩
    · rw [if_neg hn] at o1; exact o1.elim⟩

/-! ### what is walked -/
def IterOk (K : PySem.W.Frag) (F0 : Hp) (g0 : Nat) (pa0 : Option Addr) (J : It) (items : List D) : Prop := ∀ (i : Nat) (F H : Hp) (pa : Option Addr) (p : Pst), Fz F0 g0 pa0 F p.g pa → GS F H pa p →
  (items.length ≤ i → J.stop i H) ∧ ∀ d, items[i]? = some d → J.go i H ∧ ∀ x H', J.yld i H x H' → ∃ F', Gr F H p.g pa F' H' p.g pa ∧ GS F' H' pa p ∧ Rep K F' p.g pa x d
def TMi (K : PySem.W.Frag) (mg : Str → Option Value) (Wx : WX) (m : M (List D)) : TI := fun σ H R => At K mg Wx m σ H fun _ _ items p' F' H' pa' => ∀ J, IterOk K F' p'.g pa' J items → items.length ≤ sizeLine → R J H'
structure PMi (X : Cx) (Wx : WX) (tg e : Expr) (m : M (List D)) : Prop where
  pi : PI X tg e (TMi X.K X.mg Wx m)
theorem _root_.L2.PI.imp {X : Cx} {tg e : Expr} {t t' : TI} (h : PI X tg e t) (f : ∀ σ H R, t' σ H R → t σ H R) : PI X tg e t' := ⟨fun pins s σ H R I q => h.run pins s σ H R I (f σ H R q)⟩
theorem iter_list {K : PySem.W.Frag} {F : Hp} {g : Nat} {pa : Option Addr} {a : Addr} {vs : List V} {ds : List D} (h : F a = some (.lst vs)) (r : Reps K F g pa vs ds) : IterOk K F g pa (Itl K a) ds := by
  intro i F1 H1 pa1 p1 fz gs1
  have h1 : SqL K H1 a vs := SqL.of (gs1.sub _ _ (fz.sub _ _ h))
  have r1 := r.mono fz
  refine ⟨fun hi => ⟨vs, h1, by rw [r.1]; exact hi⟩, fun d hd => ?_⟩
  obtain ⟨v, hv, rv⟩ := r1.get hd
  refine ⟨⟨vs, v, h1, hv⟩, fun x H' ⟨e, hx⟩ => ?_⟩
  subst e
  have := hx vs h1
  rw [hv] at this
  cases this
  exact ⟨F1, .refl, gs1, rv⟩
theorem iter_tup {K : PySem.W.Frag} {F : Hp} {g : Nat} {pa : Option Addr} {a : Addr} {vs : List V} {ds : List D} (h : F a = some (.tup vs)) (r : Reps K F g pa vs ds) : IterOk K F g pa (Itt K a) ds := by
  intro i F1 H1 pa1 p1 fz gs1
  have h1 : SqT K H1 a vs := SqT.of (gs1.sub _ _ (fz.sub _ _ h))
  have r1 := r.mono fz
  refine ⟨fun hi => ⟨vs, h1, by rw [r.1]; exact hi⟩, fun d hd => ?_⟩
  obtain ⟨v, hv, rv⟩ := r1.get hd
  refine ⟨⟨vs, v, h1, hv⟩, fun x H' ⟨e, hx⟩ => ?_⟩
  subst e
  have := hx vs h1
  rw [hv] at this
  cases this
  exact ⟨F1, .refl, gs1, rv⟩
theorem iter_scr {K : PySem.W.Frag} {F : Hp} {g : Nat} {pa : Option Addr} {a : Addr} {ns : List Int} (h : SqL K F a (ns.map V.int)) : IterOk K F g pa (Itl K a) (ns.map .int) := by
  intro i F1 H1 pa1 p1 fz gs1
  have h1 : SqL K H1 a (ns.map V.int) := sqL_mono gs1.sub (sqL_mono fz.sub h)
  refine ⟨fun hi => ⟨_, h1, by simpa using hi⟩, fun d hd => ?_⟩
  rw [List.getElem?_map] at hd
  cases q : ns[i]? with
  | none => rw [q] at hd; cases hd
  | some n =>
    rw [q] at hd
    cases hd
    have hv : (ns.map V.int)[i]? = some (.int n) := by rw [List.getElem?_map, q]; rfl
    refine ⟨⟨_, _, h1, hv⟩, fun x H' ⟨e, hx⟩ => ?_⟩
    subst e
    have := hx _ h1
    rw [hv] at this
    cases this
    exact ⟨F1, .refl, gs1, .int n⟩
/-- a list or a tuple -/
theorem pi_lt {l : Expr} {tl : TE} (hl : PE X l tl) : PI X tg l (fun σ H R => tl σ H fun x H1 => (∃ a, x = .ref a ∧ (∃ xs, SqL X.K H1 a xs) ∧ R (Itl X.K a) H1) ∨ (∃ a, x = .ref a ∧ (∃ xs, SqT X.K H1 a xs) ∧ R (Itt X.K a) H1)) := by
  refine ⟨fun pins s σ H R I h => ?_⟩
  refine thn (hl.run pins s σ H _ I h) fun v s1 ⟨x, H1, I1, r1, q1⟩ => ?_
  rcases q1 with ⟨a, e, ⟨xs, hq⟩, q⟩ | ⟨a, e, ⟨xs, hq⟩, q⟩
  · subst e
    cases r1
    obtain ⟨its, rv, p, hz⟩ := I1.list hq
    refine wpAny_pyIter_list p.isList ?_
    refine ⟨s1.heap.objs.size, [s1.heap.objs.size], _, _, H1, rfl, I1.kept (t' := s1.toks) fun b o e => Heap.get?_push_of_some _ e, turn_list a _, ⟨_, Heap.get?_push_size _ rfl, rfl, rfl⟩, fun b hb => ?_, q⟩
    have e : b = s1.heap.objs.size := by simpa using hb
    subst e
    exact I1.fpOk (Nat.le_refl _) (I1.hok.fresh (Nat.le_refl _))
  · subst e
    cases r1
    obtain ⟨its, rv, p, hz⟩ := I1.tuple hq
    refine wpAny_pyIter_tuple (show s1.heap.IsTuple a its.toArray from p) ?_
    refine ⟨s1.heap.objs.size, [s1.heap.objs.size], _, _, H1, rfl, I1.kept (t' := s1.toks) fun b o e => Heap.get?_push_of_some _ e, turn_tuple a _, ⟨_, Heap.get?_push_size _ rfl, rfl, rfl⟩, fun b hb => ?_, q⟩
    have e : b = s1.heap.objs.size := by simpa using hb
    subst e
    exact I1.fpOk (Nat.le_refl _) (I1.hok.fresh (Nat.le_refl _))
def seqD : D → M (List D)
  | .lst xs => mret xs
  | .tup xs => mret xs
  | .scr ns => if ns.length ≤ 4096 then mret (ns.map .int) else mstuck
  | _ => mstuck
def mSeq (m : M D) : M (List D) := mbind m seqD
theorem pmi_seq (he : PM X Wx e m) : PMi X Wx tg e (mSeq m) := ⟨(pi_lt he.pe).imp fun σ H R ⟨F, pa, p, ρ, gs, s, o⟩ => by
  refine TM.of gs s (o.bind.mono fun d p1 F1 H1 pa1 gr1 gs1 o1 s1 v1 r1 => ?_)
  cases d <;> first | exact o1.elim | skip
  · obtain ⟨a, vs, rfl, h, hz, rs⟩ := r1.lst_inv
    exact .inl ⟨a, rfl, ⟨vs, SqL.of (gs1.sub _ _ h)⟩, o1.ret gs1 _ (iter_list h rs) hz⟩
  · obtain ⟨a, vs, rfl, h, hz, rs⟩ := r1.tup_inv
    exact .inr ⟨a, rfl, ⟨vs, SqT.of (gs1.sub _ _ h)⟩, o1.ret gs1 _ (iter_tup h rs) hz⟩
  · rename_i ns
    cases r1 with
    | scr h =>
      simp only [seqD] at o1
      by_cases hc : ns.length ≤ 4096
      · rw [if_pos hc] at o1
        exact .inl ⟨_, rfl, ⟨_, sqL_mono gs1.sub h⟩, o1.ret gs1 _ (iter_scr h) (by rw [List.length_map]; exact lim_size hc)⟩
      · rw [if_neg hc] at o1; exact o1.elim⟩
/-- ranges -/
def rgL (lo : Int) (n : Nat) : List D := (List.range n).map fun (k : Nat) => D.int (lo + k)
theorem iter_rng {K : PySem.W.Frag} {F : Hp} {g : Nat} {pa : Option Addr} {lo : Int} {n : Nat} : IterOk K F g pa (Itr lo n) (rgL lo n) := by
  intro i F1 H1 pa1 p1 fz gs1
  refine ⟨fun hi => by simpa [rgL, Itr] using hi, fun d hd => ?_⟩
  unfold rgL at hd
  rw [List.getElem?_map] at hd
  by_cases hi : i < n
  · rw [List.getElem?_range hi] at hd
    cases hd
    exact ⟨hi, fun x H' ⟨e, hx⟩ => by subst e hx; exact ⟨F1, .refl, gs1, .int _⟩⟩
  · rw [List.getElem?_eq_none (by simpa using hi)] at hd
    cases hd
theorem sz16 {n : Nat} (h : n ≤ 16000000) : n ≤ sizeLine := by rw [sizeLine_eq]; omega
theorem rgL_len (lo : Int) (n : Nat) : (rgL lo n).length = n := by simp [rgL]
def dRange1 : List D → Option (List D)
  | [.int j] => if j ≤ 16000000 ∧ -(2 ^ 60) ≤ j then some (rgL 0 j.toNat) else none
  | _ => none
def dRange2 : List D → Option (List D)
  | [.int i, .int j] => if -(2 ^ 60) ≤ i ∧ i < 2 ^ 60 ∧ -(2 ^ 60) ≤ j ∧ j < 2 ^ 60 ∧ j - i ≤ 16000000 then some (rgL i (j - i).toNat) else none
  | _ => none
def mRange1 (ms : M (List D)) : M (List D) := mbind ms fun ds => mopt (dRange1 ds)
def mRange2 (ms : M (List D)) : M (List D) := mbind ms fun ds => mopt (dRange2 ds)
theorem pmi_range1 (hg : Gl X "range") (hm : X.mg "range" = none) (ha : PMa X Wx [a] ms) (hs : starEach [a] X.env = [(false, eval a X.env)] := by rfl) : PMi X Wx tg (.Call (.Name "range" p) [a] [] pos) (mRange1 ms) := ⟨(pi_range1 hg hm ha.pa hs).imp fun σ H R ⟨F, pa, p, ρ, gs, s, o⟩ => by
  refine TMa.of gs s (o.bind.mono fun ds p1 F1 H1 pa1 gr1 gs1 o1 s1 vs rs => ?_)
  obtain ⟨z, ez, o2⟩ := o1.opt
  unfold dRange1 at ez
  split at ez <;> first | (cases ez; done) | skip
  split at ez <;> first | (cases ez; done) | skip
  rename_i hc
  simp only [Option.some.injEq] at ez
  subst ez
  obtain ⟨v, rfl, r⟩ := reps1 rs
  cases r
  exact ⟨_, rfl, by omega, by omega, o2.ret gs1 _ iter_rng (by rw [rgL_len]; exact sz16 (by omega))⟩⟩
theorem pmi_range2 (hg : Gl X "range") (hm : X.mg "range" = none) (ha : PMa X Wx [a, b] ms) (hs : starEach [a, b] X.env = [(false, eval a X.env), (false, eval b X.env)] := by rfl) (hs2 : starEach [b] X.env = [(false, eval b X.env)] := by rfl) : PMi X Wx tg (.Call (.Name "range" p) [a, b] [] pos) (mRange2 ms) := ⟨(pi_range2 hg hm ha.pa hs hs2).imp fun σ H R ⟨F, pa, p, ρ, gs, s, o⟩ => by
  refine TMa.of gs s (o.bind.mono fun ds p1 F1 H1 pa1 gr1 gs1 o1 s1 vs rs => ?_)
  obtain ⟨z, ez, o2⟩ := o1.opt
  unfold dRange2 at ez
  split at ez <;> first | (cases ez; done) | skip
  split at ez <;> first | (cases ez; done) | skip
  rename_i hc
  simp only [Option.some.injEq] at ez
  subst ez
  obtain ⟨v, w, rfl, r1, r2⟩ := reps2 rs
  cases r1; cases r2
  exact ⟨_, _, rfl, ⟨by omega, by omega, by omega, by omega⟩, o2.ret gs1 _ iter_rng (by rw [rgL_len]; exact sz16 (by omega))⟩⟩
/-- enumerate(list) -/
def enumL (xs : List D) : List D := xs.mapIdx fun i x => .tup [.int (i : Nat), x]
theorem two_line : 2 ≤ sizeLine := lim_size (by decide)
theorem iter_enum {K : PySem.W.Frag} {F : Hp} {g : Nat} {pa : Option Addr} {a : Addr} {vs : List V} {ds : List D} (h : F a = some (.lst vs)) (r : Reps K F g pa vs ds) : IterOk K F g pa (Ite K a) (enumL ds) := by
  intro i F1 H1 pa1 p1 fz gs1
  have h1 : SqL K H1 a vs := SqL.of (gs1.sub _ _ (fz.sub _ _ h))
  have r1 := r.mono fz
  refine ⟨fun hi => ⟨vs, h1, by rw [r.1]; simpa [enumL] using hi⟩, fun d hd => ?_⟩
  unfold enumL at hd
  rw [List.getElem?_mapIdx] at hd
  cases q : ds[i]? with
  | none => rw [q] at hd; cases hd
  | some e =>
    rw [q] at hd
    cases hd
    obtain ⟨v, hv, rv⟩ := r1.get q
    refine ⟨⟨vs, v, h1, hv⟩, fun x H' ⟨T, y, e1, e2, e3, hx⟩ => ?_⟩
    subst e1 e3
    have := hx vs h1
    rw [hv] at this
    cases this
    have fu : Fz F1 p1.g pa1 (upd F1 T (.tup [.int (i : Nat), v])) p1.g pa1 := Fz.upd (gs1.fnone e2)
    exact ⟨_, Gr.alloc gs1 e2, gs1.alloc e2, Rep.tup' upd_same two_line (.cons (.int _) (.cons (rv.mono fu) .nil))⟩
def mEnum (ms : M (List D)) : M (List D) := mbind ms fun ds => match ds with
  | [.lst xs] => mret (enumL xs)
  | _ => mstuck
theorem pmi_enum {elts : List Expr} {kk : Nat} {tpos : Pos} (hg : Gl X "enumerate") (hm : X.mg "enumerate" = none) (ha : PMa X Wx [e] ms) (hs : starEach [e] X.env = [(false, eval e X.env)] := by rfl) : PMi X Wx (.Tuple elts kk tpos) (.Call (.Name "enumerate" p) [e] [] pos) (mEnum ms) := ⟨(pi_enum hg hm ha.pa hs).imp fun σ H R ⟨F, pa, p, ρ, gs, s, o⟩ => by
  refine TMa.of gs s (o.bind.mono fun ds p1 F1 H1 pa1 gr1 gs1 o1 s1 vs rs => ?_)
  split at o1 <;> first | exact o1.elim | skip
  obtain ⟨v, rfl, r⟩ := reps1 rs
  obtain ⟨a, vs, rfl, h, hz, r2⟩ := r.lst_inv
  exact ⟨a, vs, rfl, SqL.of (gs1.sub _ _ h), o1.ret gs1 _ (iter_enum h r2) (by simpa [enumL] using hz)⟩⟩
/-- zip of two lists, of two tuples -/
def zipL (xs ys : List D) : List D := List.zipWith (fun x y => .tup [x, y]) xs ys
theorem zip_item {K : PySem.W.Frag} {F H : Hp} {p : Pst} {pa : Option Addr} {T : Addr} {v w : V} {d e : D} (gs : GS F H pa p) (hT : H T = none) (r1 : Rep K F p.g pa v d) (r2 : Rep K F p.g pa w e) :
    ∃ F', Gr F H p.g pa F' (upd H T (.tup [v, w])) p.g pa ∧ GS F' (upd H T (.tup [v, w])) pa p ∧ Rep K F' p.g pa (.ref T) (.tup [d, e]) :=
  have fu : Fz F p.g pa (upd F T (.tup [v, w])) p.g pa := Fz.upd (gs.fnone hT)
  ⟨_, Gr.alloc gs hT, gs.alloc hT, Rep.tup' upd_same two_line (.cons (r1.mono fu) (.cons (r2.mono fu) .nil))⟩
theorem zipL_get {ds es : List D} {i : Nat} {z : D} (h : (zipL ds es)[i]? = some z) : ∃ d e, ds[i]? = some d ∧ es[i]? = some e ∧ z = .tup [d, e] := by
  unfold zipL at h
  rw [List.getElem?_zipWith] at h
  cases q : ds[i]? with
  | none => rw [q] at h; cases h
  | some d =>
    cases q2 : es[i]? with
    | none => rw [q, q2] at h; cases h
    | some e => rw [q, q2] at h; cases h; exact ⟨d, e, rfl, rfl, rfl⟩
theorem iter_zipL {K : PySem.W.Frag} {F : Hp} {g : Nat} {pa : Option Addr} {a b : Addr} {vs ws : List V} {ds es : List D} (h : F a = some (.lst vs)) (r : Reps K F g pa vs ds) (h' : F b = some (.lst ws)) (r' : Reps K F g pa ws es) : IterOk K F g pa (Itz K a b) (zipL ds es) := by
  intro i F1 H1 pa1 p1 fz gs1
  have h1 : SqL K H1 a vs := SqL.of (gs1.sub _ _ (fz.sub _ _ h))
  have h2 : SqL K H1 b ws := SqL.of (gs1.sub _ _ (fz.sub _ _ h'))
  refine ⟨fun hi => ⟨vs, ws, h1, h2, ?_⟩, fun z hz => ?_⟩
  · simp only [zipL, List.length_zipWith] at hi
    rw [r.1, r'.1]; omega
  · obtain ⟨d, e, q1, q2, rfl⟩ := zipL_get hz
    obtain ⟨v, hv, rv⟩ := (r.mono fz).get q1
    obtain ⟨w, hw, rw'⟩ := (r'.mono fz).get q2
    refine ⟨⟨vs, ws, v, w, h1, h2, hv, hw⟩, fun x H' ⟨T, y1, y2, e1, e2, e3, hx, hy⟩ => ?_⟩
    subst e1 e3
    have t1 := hx vs h1
    rw [hv] at t1
    cases t1
    have t2 := hy ws h2
    rw [hw] at t2
    cases t2
    exact zip_item gs1 e2 rv rw'
theorem iter_zipT {K : PySem.W.Frag} {F : Hp} {g : Nat} {pa : Option Addr} {a b : Addr} {vs ws : List V} {ds es : List D} (h : F a = some (.tup vs)) (r : Reps K F g pa vs ds) (h' : F b = some (.tup ws)) (r' : Reps K F g pa ws es) : IterOk K F g pa (RZ.ItzT K a b) (zipL ds es) := by
  intro i F1 H1 pa1 p1 fz gs1
  have h1 : SqT K H1 a vs := SqT.of (gs1.sub _ _ (fz.sub _ _ h))
  have h2 : SqT K H1 b ws := SqT.of (gs1.sub _ _ (fz.sub _ _ h'))
  refine ⟨fun hi => ⟨vs, ws, h1, h2, ?_⟩, fun z hz => ?_⟩
  · simp only [zipL, List.length_zipWith] at hi
    rw [r.1, r'.1]; omega
  · obtain ⟨d, e, q1, q2, rfl⟩ := zipL_get hz
    obtain ⟨v, hv, rv⟩ := (r.mono fz).get q1
    obtain ⟨w, hw, rw'⟩ := (r'.mono fz).get q2
    refine ⟨⟨vs, ws, v, w, h1, h2, hv, hw⟩, fun x H' ⟨T, y1, y2, e1, e2, e3, hx, hy⟩ => ?_⟩
    subst e1 e3
    have t1 := hx vs h1
    rw [hv] at t1
    cases t1
    have t2 := hy ws h2
    rw [hw] at t2
    cases t2
    exact zip_item gs1 e2 rv rw'
def mZip (ms : M (List D)) : M (List D) := mbind ms fun ds => match ds with
  | [.lst xs, .lst ys] => mret (zipL xs ys)
  | [.tup xs, .tup ys] => mret (zipL xs ys)
  | _ => mstuck
theorem zipL_len (xs ys : List D) : (zipL xs ys).length ≤ xs.length := by
  unfold zipL; rw [List.length_zipWith]; omega
theorem pmi_zip {elts : List Expr} {kk : Nat} {tpos : Pos} (hg : Gl X "zip") (hm : X.mg "zip" = none) (ha : PMa X Wx [a, b] ms) (hs : starEach [a, b] X.env = (false, eval a X.env) :: starEach [b] X.env := by rfl) (hpl : (backTo pos (starEach [b] X.env)).any (·.1) = false := by rfl) :
    PMi X Wx (.Tuple elts kk tpos) (.Call (.Name "zip" p) [a, b] [] pos) (mZip ms) := ⟨(RZ.pi_zipA hg hm ha.pa hs hpl).imp fun σ H R ⟨F, pa, p, ρ, gs, s, o⟩ => by
  refine TMa.of gs s (o.bind.mono fun ds p1 F1 H1 pa1 gr1 gs1 o1 s1 vs rs => ?_)
  split at o1 <;> first | exact o1.elim | skip
  · obtain ⟨v, w, rfl, r1, r2⟩ := reps2 rs
    obtain ⟨a, vs, rfl, h, hz, r3⟩ := r1.lst_inv
    obtain ⟨b, ws, rfl, h', hz', r4⟩ := r2.lst_inv
    exact ⟨a, b, vs, ws, rfl, .inl ⟨SqL.of (gs1.sub _ _ h), SqL.of (gs1.sub _ _ h'), o1.ret gs1 _ (iter_zipL h r3 h' r4) (Nat.le_trans (zipL_len _ _) hz)⟩⟩
  · obtain ⟨v, w, rfl, r1, r2⟩ := reps2 rs
    obtain ⟨a, vs, rfl, h, hz, r3⟩ := r1.tup_inv
    obtain ⟨b, ws, rfl, h', hz', r4⟩ := r2.tup_inv
    exact ⟨a, b, vs, ws, rfl, .inr ⟨SqT.of (gs1.sub _ _ h), SqT.of (gs1.sub _ _ h'), o1.ret gs1 _ (iter_zipT h r3 h' r4) (Nat.le_trans (zipL_len _ _) hz)⟩⟩⟩

/-! ### targets -/
/-- the target's store is f, on slots of vs alone -/
def GOk (K : PySem.W.Frag) (vs : List Nat) (g : TG) (f : D → Sl → Option Sl) : Prop := ∀ (F H : Hp) (gg : Nat) (pa : Option Addr) (x : V) (d : D) (σ : L2.St) (ρ ρ' : Sl) (Q : L2.St → Hp → Prop), (∀ a o, F a = some o → H a = some o) → Rep K F gg pa x d → SRel K F H gg pa σ ρ → f d ρ = some ρ' →
  (∀ σ', SRel K F H gg pa σ' ρ' → σ'.length = σ.length → (∀ j, j ∉ vs → σ'[j]? = σ[j]?) → Q σ' H) → g x σ H Q
theorem SRel.set {K : PySem.W.Frag} {F H : Hp} {g : Nat} {pa : Option Addr} {σ : L2.St} {ρ : Sl} (s : SRel K F H g pa σ ρ) {x : V} {d : D} (r : Rep K F g pa x d) (i : Nat) : SRel K F H g pa (σ.set i (some x)) (ρ.set i (some (.val d))) := by
  refine ⟨by simp [s.len], fun j w h => ?_, fun j k xs ys v h1 h2 h3 h4 => ?_⟩
  · rw [List.getElem?_set] at h ⊢
    by_cases e : i = j
    · subst e
      simp only [if_true] at h ⊢
      by_cases hi : i < ρ.length
      · rw [if_pos hi] at h
        rw [if_pos (by rw [← s.len]; exact hi)]
        cases h
        exact ⟨x, rfl, r⟩
      · rw [if_neg hi] at h; cases h
    · rw [if_neg e] at h ⊢
      exact s.rep j w h
  · rw [List.getElem?_set] at h1 h2 h3 h4
    by_cases e : i = j
    · subst e
      simp only [if_true] at h1
      split at h1 <;> cases h1
    · by_cases e2 : i = k
      · subst e2
        simp only [if_true] at h2
        split at h2 <;> cases h2
      · rw [if_neg e] at h1 h3
        rw [if_neg e2] at h2 h4
        exact s.apart j k xs ys v h1 h2 h3 h4
def fName (i : Nat) : D → Sl → Option Sl := fun d ρ => some (ρ.set i (some (.val d)))
theorem gok_name {K : PySem.W.Frag} {vs : List Nat} {i : Nat} (h : i ∈ vs := by decide) : GOk K vs (gName i) (fName i) := by
  intro F H gg pa x d σ ρ ρ' Q sub r s e k
  cases e
  exact k _ (s.set r i) (by simp) fun j hj => by
    have z : i ≠ j := fun e => hj (e ▸ h)
    exact List.getElem?_set_ne z
/-- several targets -/
def GsOk (K : PySem.W.Frag) (vs : List Nat) (g : TGs) (f : List D → Sl → Option Sl) : Prop := ∀ (F H : Hp) (gg : Nat) (pa : Option Addr) (xs : List V) (ds : List D) (σ : L2.St) (ρ ρ' : Sl) (Q : L2.St → Hp → Prop), (∀ a o, F a = some o → H a = some o) → Reps K F gg pa xs ds → SRel K F H gg pa σ ρ → f ds ρ = some ρ' →
  (∀ σ', SRel K F H gg pa σ' ρ' → σ'.length = σ.length → (∀ j, j ∉ vs → σ'[j]? = σ[j]?) → Q σ' H) → g xs σ H Q
def fNil : List D → Sl → Option Sl := fun ds ρ => match ds with
  | [] => some ρ
  | _ => none
def fCons (f : D → Sl → Option Sl) (fs : List D → Sl → Option Sl) : List D → Sl → Option Sl := fun ds ρ => match ds with
  | d :: r => (f d ρ).bind fun ρ1 => fs r ρ1
  | [] => none
theorem gsok_nil {K : PySem.W.Frag} {vs : List Nat} : GsOk K vs gNil fNil := by
  intro F H gg pa xs ds σ ρ ρ' Q sub r s e k
  cases ds with
  | nil =>
    have hx := List.eq_nil_of_length_eq_zero r.1
    cases e
    exact ⟨hx, k σ s rfl fun _ _ => rfl⟩
  | cons d ds => cases e
theorem gsok_cons {K : PySem.W.Frag} {vs : List Nat} {g : TG} {gs : TGs} {f : D → Sl → Option Sl} {fs : List D → Sl → Option Sl} (h1 : GOk K vs g f) (h2 : GsOk K vs gs fs) : GsOk K vs (gCons g gs) (fCons f fs) := by
  intro F H gg pa xs ds σ ρ ρ' Q sub r s e k
  cases ds with
  | nil => cases e
  | cons d ds =>
    rcases r.cases with ⟨_, z⟩ | ⟨x, y, xs', ys', rfl, z, r1, r2⟩
    · cases z
    · cases z
      simp only [fCons] at e
      cases q : f d ρ with
      | none => rw [q] at e; cases e
      | some ρ1 =>
        rw [q] at e
        refine ⟨x, xs', rfl, h1 F H gg pa x d σ ρ ρ1 _ sub r1 s q fun σ1 s1 l1 n1 => ?_⟩
        exact h2 F H gg pa xs' ds σ1 ρ1 ρ' Q sub r2 s1 e fun σ2 s2 l2 n2 => k σ2 s2 (l2.trans l1) fun j hj => (n2 j hj).trans (n1 j hj)
def fTup (fs : List D → Sl → Option Sl) : D → Sl → Option Sl := fun d ρ => match d with
  | .tup xs => fs xs ρ
  | _ => none
theorem fs_len_cons {f : D → Sl → Option Sl} {fs : List D → Sl → Option Sl} {n : Nat} (h : ∀ ds ρ ρ', fs ds ρ = some ρ' → ds.length = n) : ∀ ds ρ ρ', fCons f fs ds ρ = some ρ' → ds.length = n + 1 := by
  intro ds ρ ρ' e
  cases ds with
  | nil => cases e
  | cons d ds =>
    simp only [fCons] at e
    cases q : f d ρ with
    | none => rw [q] at e; cases e
    | some ρ1 =>
      rw [q] at e
      simp [h ds ρ1 ρ' e]
theorem fs_len_nil : ∀ ds ρ ρ', fNil ds ρ = some ρ' → ds.length = 0 := by
  intro ds ρ ρ' e
  cases ds with
  | nil => rfl
  | cons d ds => cases e
theorem gok_tup {K : PySem.W.Frag} {vs : List Nat} {n : Nat} {g : TGs} {fs : List D → Sl → Option Sl} (h : GsOk K vs g fs) (hn : ∀ ds ρ ρ', fs ds ρ = some ρ' → ds.length = n) : GOk K vs (gTup K n g) (fTup fs) := by
  intro F H gg pa x d σ ρ ρ' Q sub r s e k
  cases d <;> first | (simp [fTup] at e; done) | skip
  simp only [fTup] at e
  obtain ⟨a, ws, rfl, h1, hz, rs⟩ := r.tup_inv
  exact ⟨a, ws, rfl, SqT.of (sub _ _ h1), by rw [rs.1]; exact hn _ _ _ e, h F H gg pa ws _ σ ρ ρ' Q sub rs s e k⟩
end
end PF

namespace PF
open PySem PySem.Spec PyProof.Rows L2

section
variable {X : Cx} {Wx : WX} {a b c e : Expr} {es rest : List Expr} {ma mb mc m : M D} {mo ms mi : M (List D)} {ta tb : M Bool} {pos : Pos} {x : Str} {p : Pos} {tg : Expr}
/-! ### list comprehensions -/
/-- the slots of vs forgotten -/
def wipeS (ρ : Sl) : List Nat → Sl
  | [] => ρ
  | v :: vs => (wipeS ρ vs).set v none
theorem wipeS_len (ρ : Sl) : ∀ vs, (wipeS ρ vs).length = ρ.length
  | [] => rfl
  | v :: vs => by simp [wipeS, wipeS_len ρ vs]
theorem SRel.none {K : PySem.W.Frag} {F H : Hp} {g : Nat} {pa : Option Addr} {σ : L2.St} {ρ : Sl} (s : SRel K F H g pa σ ρ) (i : Nat) : SRel K F H g pa (σ.set i none) (ρ.set i none) := by
  refine ⟨by simp [s.len], fun j w h => ?_, fun j k xs ys v h1 h2 h3 h4 => ?_⟩
  · rw [List.getElem?_set] at h ⊢
    by_cases e : i = j
    · subst e
      simp only [if_true] at h
      split at h <;> cases h
    · rw [if_neg e] at h ⊢
      exact s.rep j w h
  · rw [List.getElem?_set] at h1 h2 h3 h4
    by_cases e : i = j
    · subst e
      simp only [if_true] at h1
      split at h1 <;> cases h1
    · by_cases e2 : i = k
      · subst e2
        simp only [if_true] at h2
        split at h2 <;> cases h2
      · rw [if_neg e] at h1 h3
        rw [if_neg e2] at h2 h4
        exact s.apart j k xs ys v h1 h2 h3 h4
theorem SRel.wipe {K : PySem.W.Frag} {F H : Hp} {g : Nat} {pa : Option Addr} {σ : L2.St} {ρ : Sl} (s : SRel K F H g pa σ ρ) : ∀ vs, SRel K F H g pa (wipe σ vs) (wipeS ρ vs)
  | [] => s
  | v :: vs => (s.wipe vs).none v
theorem wipe_get {σ : L2.St} {j : Nat} : ∀ {vs : List Nat}, j ∈ vs → (wipe σ vs)[j]? = some none ∨ (wipe σ vs)[j]? = none
  | v :: vs, h => by
    unfold wipe
    rw [List.getElem?_set]
    by_cases e : v = j
    · rw [if_pos e]
      split
      · exact .inl rfl
      · exact .inr rfl
    · rw [if_neg e]
      rcases List.mem_cons.mp h with q | q
      · exact absurd q.symm e
      · exact wipe_get q
theorem wipe_out' {σ : L2.St} {j : Nat} : ∀ {vs : List Nat}, j ∉ vs → (wipe σ vs)[j]? = σ[j]?
  | [], _ => rfl
  | v :: vs, h => by
    unfold wipe
    have h1 : v ≠ j := fun e => h (e ▸ List.mem_cons_self)
    rw [List.getElem?_set_ne h1]
    exact wipe_out' fun q => h (List.mem_cons_of_mem _ q)
theorem wipe_eq {σ σ' : L2.St} {vs : List Nat} (hl : σ'.length = σ.length) (h : ∀ j, j ∉ vs → σ'[j]? = (wipe σ vs)[j]?) : wipe σ' vs = wipe σ vs := by
  apply List.ext_getElem?
  intro j
  by_cases hj : j ∈ vs
  · by_cases hlt : j < σ.length
    · rcases wipe_get (σ := σ') hj with q | q
      · rcases wipe_get (σ := σ) hj with q2 | q2
        · rw [q, q2]
        · have := List.getElem?_eq_none_iff.mp q2
          rw [wipe_length] at this
          omega
      · have := List.getElem?_eq_none_iff.mp q
        rw [wipe_length] at this
        omega
    · rw [List.getElem?_eq_none (by rw [wipe_length]; omega), List.getElem?_eq_none (by rw [wipe_length]; omega)]
  · rw [wipe_out' hj, h j hj]
/-- the block, item by item -/
def lcGo (f : D → Sl → Option Sl) (tt : M Bool) (el : M D) : List D → M (List D)
  | [] => mret []
  | x :: xs => fun ρ p => match f x ρ with
    | some ρ1 => (match tt ρ1 p with
      | .ok true p1 => (match el ρ1 p1 with
        | .ok y p2 => (match lcGo f tt el xs ρ p2 with
          | .ok ys p3 => .ok (y :: ys) p3
          | _ => .stuck)
        | _ => .stuck)
      | .ok false p1 => lcGo f tt el xs ρ p1
      | _ => .stuck)
    | none => .stuck
def mLc (vs : List Nat) (mi : M (List D)) (f : D → Sl → Option Sl) (tt : M Bool) (el : M D) : M (List D) := mbind mi fun items ρ p => match lcGo f tt el items (wipeS ρ vs) p with
  | .ok ys p' => .ok ys p'
  | _ => .stuck
/-- inside a comprehension nothing is raised -/
abbrev W0 : WX := fun _ _ _ _ => False
def mYes : M Bool := mret true
structure PMts (X : Cx) (Wx : WX) (es : List Expr) (m : M Bool) : Prop where
  pt : PTs X es (TMt X.K X.mg Wx m)
theorem pmts_nil : PMts X Wx [] mYes := ⟨⟨fun pins s σ H Q I ⟨F, pa, p, ρ, gs, sr, o⟩ => pts_nil.run pins s σ H Q I (o.ret gs)⟩⟩
theorem pmts_one (h : PMt X Wx e ta) : PMts X Wx [e] ta := ⟨pts_one h.pt⟩
theorem lc_inv {K : PySem.W.Frag} {mg : Str → Option Value} {f : D → Sl → Option Sl} {tt : M Bool} {el : M D} {g : TG} {vs : List Nat} {items all : List D} {σ : L2.St} {ρ : Sl} {F0 H0 F1 H1 : Hp} {g0 : Nat} {pa0 pa1 : Option Addr} {p1 pend : Pst} {J : It} {Q : VK} {Dd : Addr}
    (hg : GOk K vs g f) (gr1 : Gr F0 H0 g0 pa0 F1 H1 p1.g pa1) (gs1 : GS F1 H1 pa1 p1) (s1 : SRel K F1 H1 p1.g pa1 σ ρ) (ij : IterOk K F1 p1.g pa1 J items) (hz : items.length ≤ sizeLine) (hD : H1 Dd = none)
    (e : lcGo f tt el items (wipeS ρ vs) p1 = .ok all pend)
    (k : ∀ F' H' pa' ws, Gr F0 H0 g0 pa0 F' H' pend.g pa' → GS F' H' pa' pend → H' Dd = some (.lst ws) → F' Dd = none → pa' ≠ some Dd → all.length ≤ sizeLine → Reps K F' pend.g pa' ws all → Q (.ref Dd) H') :
    ∃ W : Nat → Nat → Hp → Prop, (∃ m, W 0 m (upd H1 Dd (.lst []))) ∧ ∀ i m H, W i m H →
      (J.stop i H ∧ Q (.ref Dd) H) ∨ (J.go i H ∧ ∃ Nx : Hp → Prop, (∀ H', Nx H' → ∃ m', m' < m ∧ W (i + 1) m' H') ∧ ∀ x H', J.yld i H x H' → g x (wipe σ vs) H' fun σ2 H2 => wipe σ2 vs = wipe σ vs ∧ TMt K mg W0 tt σ2 H2 fun b H3 =>
        if b = true then TM K mg W0 el σ2 H3 fun y H4 => ∃ acc, H4 Dd = some (.lst acc) ∧ acc.length < sizeLine ∧ Nx (upd H4 Dd (.lst (acc ++ [y]))) else Nx H3) := by
  refine ⟨fun i m H => m = items.length - i ∧ i ≤ items.length ∧ ∃ F pa p acc ds ys, Gr F0 H0 g0 pa0 F H p.g pa ∧ Fz F1 p1.g pa1 F p.g pa ∧ GS F H pa p ∧ SRel K F H p.g pa (wipe σ vs) (wipeS ρ vs) ∧ H Dd = some (.lst acc) ∧ F Dd = none ∧ pa ≠ some Dd ∧ ds.length ≤ i ∧ Reps K F p.g pa acc ds ∧
      lcGo f tt el (items.drop i) (wipeS ρ vs) p = .ok ys pend ∧ ds ++ ys = all, ⟨items.length, by simp, Nat.zero_le _, F1, pa1, p1, [], [], all, gr1.trans (Gr.allocO hD), .refl, gs1.allocO hD, (s1.wipe vs).grow (Gr.allocO hD), upd_same, gs1.fnone hD, gs1.pne hD, Nat.le_refl _, .nil, by simpa using e, rfl⟩, ?_⟩
  rintro i m H ⟨rfl, hi, F, pa, p, acc, ds, ys, gr, fz, gs, sr, hH, hF, hp, hl, rs, el1, ea⟩
  obtain ⟨stop, go⟩ := ij i F H pa p fz gs
  by_cases hlt : i < items.length
  · -- a turn
    have hd : items[i]? = some items[i] := by simp [hlt]
    obtain ⟨hgo, hy⟩ := go _ hd
    have ed : items.drop i = items[i] :: items.drop (i + 1) := List.drop_eq_getElem_cons hlt
    rw [ed] at el1
    simp only [lcGo] at el1
    have hzd : ds.length < sizeLine := by omega
    cases q : f items[i] (wipeS ρ vs) with
    | none => rw [q] at el1; cases el1
    | some ρ1 =>
      rw [q] at el1
      simp only at el1
      refine .inr ⟨hgo, fun H' => ∃ F' pa' p' acc' ds' ys', Gr F0 H0 g0 pa0 F' H' p'.g pa' ∧ Fz F1 p1.g pa1 F' p'.g pa' ∧ GS F' H' pa' p' ∧ SRel K F' H' p'.g pa' (wipe σ vs) (wipeS ρ vs) ∧ H' Dd = some (.lst acc') ∧ F' Dd = none ∧ pa' ≠ some Dd ∧ ds'.length ≤ i + 1 ∧ Reps K F' p'.g pa' acc' ds' ∧
          lcGo f tt el (items.drop (i + 1)) (wipeS ρ vs) p' = .ok ys' pend ∧ ds' ++ ys' = all, fun H' n => ⟨items.length - (i + 1), by omega, rfl, hlt, n⟩, fun xv H' yl => ?_⟩
      obtain ⟨F2, gr2, gs2, r2⟩ := hy xv H' yl
      have sr2 := sr.grow gr2
      have hne : ∀ {F3 H3 : Hp} {p3 : Pst} {pa3 : Option Addr}, Gr F H p.g pa F3 H3 p3.g pa3 → H3 Dd = some (.lst acc) ∧ F3 Dd = none ∧ pa3 ≠ some Dd := fun {F3 H3 p3 pa3} gr3 => by
        refine ⟨gr3.keep _ _ hH hp, ?_, fun z => ?_⟩
        · cases q3 : F3 Dd with
          | none => rfl
          | some o =>
            rcases gr3.new _ _ q3 with z | z
            · rw [hF] at z; cases z
            · rw [hH] at z; cases z
        · rcases gr3.pot with z2 | ⟨b, z2, hb⟩
          · exact hp (by rw [← z2]; exact z)
          · rw [z2] at z; cases z; rw [hH] at hb; cases hb
      refine hg F2 H' _ _ xv _ _ _ ρ1 _ gs2.sub r2 sr2 q fun σ2 sr3 hl2 hn => ?_
      refine ⟨wipe_eq (by rw [hl2, wipe_length]) hn, F2, pa, p, ρ1, gs2, sr3, ?_⟩
      cases qt : tt ρ1 p with
      | stuck => rw [qt] at el1; cases el1
      | exc x' p' => rw [qt] at el1; cases el1
      | ok b p3 =>
        rw [qt] at el1
        intro F3 H3 pa3 gr3 gs3
        cases b with
        | false =>
          simp only [Bool.false_eq_true, if_false] at el1 ⊢
          have gr5 := gr2.trans gr3
          obtain ⟨n1, n2, n3⟩ := hne gr5
          exact ⟨F3, pa3, p3, acc, ds, ys, gr.trans gr5, fz.trans gr5.fz, gs3, sr.grow gr5, n1, n2, n3, Nat.le_succ_of_le hl, rs.mono gr5.fz, el1, ea⟩
        | true =>
          simp only [if_true] at el1 ⊢
          refine ⟨F3, pa3, p3, ρ1, gs3, sr3.grow gr3, ?_⟩
          cases qe : el ρ1 p3 with
          | stuck => rw [qe] at el1; cases el1
          | exc x' p' => rw [qe] at el1; cases el1
          | ok y p4 =>
            rw [qe] at el1
            simp only at el1
            intro F4 H4 pa4 gr4 gs4 yv ry
            have gr5 := (gr2.trans gr3).trans gr4
            obtain ⟨n1, n2, n3⟩ := hne gr5
            have rs4 := rs.mono gr5.fz
            cases ql : lcGo f tt el (items.drop (i + 1)) (wipeS ρ vs) p4 with
            | stuck => rw [ql] at el1; cases el1
            | exc x' p' => rw [ql] at el1; cases el1
            | ok zs p5 =>
              rw [ql] at el1
              simp only [Res.ok.injEq] at el1
              obtain ⟨e1, e2⟩ := el1
              subst e1 e2
              have gs5 : GS F4 (upd H4 Dd (.lst (acc ++ [yv]))) pa4 p4 := by
                refine ⟨fun a u h => ?_, fun a e => ?_⟩
                · rw [upd_ne fun z => ?_]; exact gs4.sub a u h
                  subst z; rw [n2] at h; cases h
                · have ha : a ≠ Dd := fun z => n3 (by rw [← z]; exact e)
                  rw [upd_ne ha]; exact gs4.pot a e
              have grA : Gr F0 H0 g0 pa0 F4 H4 p4.g pa4 := gr.trans gr5
              have hD0 : H0 Dd = none := gr1.free0 hD
              have grB : Gr F0 H0 g0 pa0 F4 (upd H4 Dd (.lst (acc ++ [yv]))) p4.g pa4 := by
                refine ⟨grA.fz, grA.new, fun a o h1 h2 => ?_, fun a o h1 => ?_, grA.pot⟩
                · rw [upd_ne (ne_of_none h1 hD0)]; exact grA.keep a o h1 h2
                · rw [upd_ne (ne_of_none h1 hD0)]; exact grA.there a o h1
              have srB : SRel K F4 (upd H4 Dd (.lst (acc ++ [yv]))) p4.g pa4 (wipe σ vs) (wipeS ρ vs) := by
                have sr5 := sr.grow gr5
                refine ⟨sr5.len, fun j w h => ?_, sr5.apart⟩
                obtain ⟨v, e, r⟩ := sr5.rep j w h
                refine ⟨v, e, ?_⟩
                cases w with
                | val d => exact r
                | own xs =>
                  obtain ⟨a, vs', z1, z2, z3, z4, z5, z6⟩ := r
                  refine ⟨a, vs', z1, ?_, z3, z4, z5, z6⟩
                  rw [upd_ne fun z => ?_]; exact z2
                  -- an own list of the frame is older than the block's
                  obtain ⟨v1, e1, r1⟩ := (s1.wipe vs).rep j _ h
                  obtain ⟨a1, vs1, y1, y2, _⟩ := r1
                  rw [e] at e1
                  cases e1
                  rw [z1] at y1
                  cases y1
                  rw [z, hD] at y2; cases y2
              exact ⟨acc, n1, by rw [rs4.1]; omega, F4, pa4, p4, acc ++ [yv], ds ++ [y], zs, grB, fz.trans gr5.fz, gs5, srB, upd_same, n2, n3, by simp; omega, rs4.append (.cons ry .nil), ql, by rw [← ea]; simp⟩
  · have e0 : items.drop i = [] := List.drop_eq_nil_of_le (by omega)
    rw [e0] at el1
    cases el1
    rw [List.append_nil] at ea
    subst ea
    exact .inl ⟨stop (by omega), k F H pa acc gr gs hH hF hp (by omega) rs⟩
theorem lc_out {K : PySem.W.Frag} {mg : Str → Option Value} {f : D → Sl → Option Sl} {tt : M Bool} {el : M D} {g : TG} {vs : List Nat} (hg : GOk K vs g f) : ∀ σ H Q, TMo K mg Wx (mLc vs mi f tt el) σ H Q → tLc (TMi K mg Wx mi) g (TMt K mg W0 tt) (TM K mg W0 el) vs σ H Q := by
  intro σ H Q ⟨F, pa, p, ρ, gs, s, o⟩
  refine ⟨F, pa, p, ρ, gs, s, (Out.bindS .refl o).mono fun items p1 F1 H1 pa1 gr gs1 ⟨gr1, o1⟩ J ij hz Dd hD => ?_⟩
  cases e : lcGo f tt el items (wipeS ρ vs) p1 with
  | stuck => simp only [e] at o1; exact o1.elim
  | exc x' p' => simp only [e] at o1; exact o1.elim
  | ok all pend =>
    simp only [e] at o1
    exact lc_inv hg gr1 gs1 (s.grow gr1) ij hz hD e fun F' H' pa' ws gr' gs' h1 h2 h3 h4 h5 => o1 F' H' pa' gr' gs' Dd ws (gr1.free0 hD) h1 h2 h3 h4 h5
theorem pmo_lc {f : D → Sl → Option Sl} {tt : M Bool} {el : M D} {g : TG} {elt iter : Expr} {ifs : List Expr} {scope : Scope} {own : List (Str × Nat)} (hc : X.calm = true) (hN : X.N.Nodup) (hi : PMi X Wx tg iter mi) (ok : BlkOk X.N X.env.scope scope own)
    (hg : ∀ (s : Shared) (H : Hp) (C : Addr) (cl : List (Str × Addr)) (fp : List Addr), PG (X.blk s H scope (compEnvC scope cl C X.env) fp) tg g) (hf : GOk X.K (own.map (·.2)) g f)
    (ht : ∀ (s : Shared) (H : Hp) (C : Addr) (cl : List (Str × Addr)) (fp : List Addr), PMts (X.blk s H scope (compEnvC scope cl C X.env) fp) W0 ifs tt)
    (he : ∀ (s : Shared) (H : Hp) (C : Addr) (cl : List (Str × Addr)) (fp : List Addr), PM (X.blk s H scope (compEnvC scope cl C X.env) fp) W0 elt el) (hs : ∀ x, foldedSetIterable iter X.env x = pure x := by intro _; rfl) :
    PMo X Wx (.ListComp elt [⟨tg, iter, ifs, 0⟩] scope pos) (mLc (own.map (·.2)) mi f tt el) :=
  ⟨(pe_lc hc hN hi.pi ok hg (fun s H C cl fp => (ht s H C cl fp).pt) (fun s H C cl fp => (he s H C cl fp).pe) hs).imp (lc_out hf)⟩
end
end PF

namespace PF
open PySem PySem.Spec PyProof.Rows L2

/-! ### functions -/
inductive FRes where
  | ok (d : D) (fr : Bool) (p : Pst) | exc (x : Ex) (p : Pst) | stuck
abbrev Fn := List D → Pst → FRes
/-- a def's result: fr: a fresh list -/
def ResRep (K : PySem.W.Frag) (F' H H' : Hp) (g : Nat) (pa : Option Addr) : Bool → V → D → Prop
  | false, v, d => Rep K F' g pa v d
  | true, v, d => ∃ a vs ds, v = .ref a ∧ d = .lst ds ∧ H a = none ∧ H' a = some (.lst vs) ∧ F' a = none ∧ pa ≠ some a ∧ ds.length ≤ sizeLine ∧ Reps K F' g pa vs ds
def FOut (K : PySem.W.Frag) (mg : Str → Option Value) (F H : Hp) (g : Nat) (pa : Option Addr) (Q : VK) (E : XK) : FRes → Prop
  | .ok d fr p' => ∀ v F' H' pa', Gr F H g pa F' H' p'.g pa' → GS F' H' pa' p' → ResRep K F' H H' p'.g pa' fr v d → Q v H'
  | .exc x p' => ∀ cls dd F' H' pa', Gr F H g pa F' H' p'.g pa' → GS F' H' pa' p' → ExRep K mg F' p'.g pa' cls dd x → E cls dd H'
  | .stuck => False
structure FnM (P : Program) (w : World) (K : PySem.W.Frag) (mg : Str → Option Value) (base : Heap) (k : Nat) (f : Addr) (fd : FuncData) (ps : List Str) (G : Fn) : Prop where
  len : ∀ ds p, G ds p ≠ .stuck → ds.length = ps.length
  run : ∀ (A : Around) (outer : List Env) (s : Shared) (H : Hp) (args : Args) (us : List Value) (vs : List V) (ds : List D) (F : Hp) (pa : Option Addr) (p : Pst) (Q : VK) (E : XK), Room k A → A.guards = some [] → Env0 P w K mg base A outer s H → BindsTo s fd args (ps.zip us) → Vals vs us →
    GS F H pa p → Reps K F p.g pa vs ds → FOut K mg F H p.g pa Q E (G ds p) → codeAny (model P w) A (.call (.ref f) args) (CR (L2.CX P w) outer P w H s Q E) s
/-- the def that the module's name x stands for -/
structure FnX (P : Program) (w : World) (K : PySem.W.Frag) (mg : Str → Option Value) (base : Heap) (x : Str) (params : Arguments) (k : Nat) (ps : List Str) (G : Fn) : Prop where
  ex : ∃ (f : Addr) (fd : FuncData), mg x = some (.ref f) ∧ PySem.W.keepIn K (.ref f) = true ∧ (∃ (body : List Stmt) (scope : Scope) (kV doc pm : Value) (an : Option Addr) (cdv ct : Value), fd = PySem.W.fnOf x x params body scope .none kV doc pm an cdv ct) ∧ FnM P w K mg base k f fd ps G
/-- the values at the places ix -/
def permL {α : Type} (ix : List Nat) (l : List α) : List α := ix.filterMap fun i => l[i]?
theorem permL_rep {α β : Type} {R : α → β → Prop} {xs : List α} {ys : List β} (r : AllR R xs ys) : ∀ ix, AllR R (permL ix xs) (permL ix ys)
  | [] => .nil
  | i :: ix => by
    have ih := permL_rep r ix
    unfold permL at ih ⊢
    simp only [List.filterMap_cons]
    cases q : xs[i]? with
    | none =>
      have : ys[i]? = none := by
        rw [List.getElem?_eq_none_iff] at q ⊢
        rw [← r.1]; exact q
      rw [this]
      exact ih
    | some v =>
      obtain ⟨d, hd, rv⟩ := r.get' q
      rw [hd]
      exact .cons rv ih
theorem permL_vals {xs : List V} {us : List Value} (r : Vals xs us) : ∀ ix, Vals (permL ix xs) (permL ix us)
  | [] => .nil
  | i :: ix => by
    have ih := permL_vals r ix
    unfold permL at ih ⊢
    simp only [List.filterMap_cons]
    cases q : xs[i]? with
    | none => rw [r.none_of q]; exact ih
    | some v =>
      obtain ⟨u, hu, ru⟩ := r.get q
      rw [hu]
      exact .cons ru ih
/-- how a call's arguments are bound: n positional ones, the keywords ks; ix: their places, parameter by parameter -/
def Bd (x : Str) (params : Arguments) (ps : List Str) (n : Nat) (ks : List Str) (ix : List Nat) : Prop := ∀ (body : List Stmt) (scope : Scope) (kV doc pm : Value) (an : Option Addr) (cdv ct : Value) (us ws : List Value), us.length = n → ws.length = ks.length →
  bindArgs (PySem.W.fnOf x x params body scope .none kV doc pm an cdv ct) ⟨us, ks.zip ws⟩ = pure (ps.zip (permL ix (us ++ ws)))

section
variable {X : Cx} {Wx : WX} {a b c e : Expr} {es rest : List Expr} {ma mb mc m : M D} {mo ms mk mi : M (List D)} {ta tb : M Bool} {pos : Pos} {x : Str} {p : Pos} {tg : Expr} {params : Arguments} {k : Nat} {ps ks : List Str} {ix : List Nat} {n : Nat} {G : Fn} {kws : List Keyword}
/-- keywords' values -/
structure PMk (X : Cx) (Wx : WX) (kws : List Keyword) (m : M (List D)) : Prop where
  pk : PK X kws (TMa X.K X.mg Wx m)
theorem _root_.L2.PK.imp {X : Cx} {e : List Keyword} {t t' : TA} (h : PK X e t) (f : ∀ σ H Q, t' σ H Q → t σ H Q) : PK X e t' := ⟨fun pos pins s σ H Q I q => h.run pos pins s σ H Q I (f σ H Q q)⟩
theorem pmk_nil : PMk X Wx [] (mret []) := ⟨pk_nil.imp fun σ H Q ⟨F, pa, p, ρ, gs, s, o⟩ => o.ret gs _ .nil⟩
theorem pmk_cons {nm : Option Str} {kpos : Pos} (ha : PM X Wx e ma) (hr : PMk X Wx kws ms) : PMk X Wx (⟨nm, e, kpos⟩ :: kws) (mcons ma ms) := ⟨(pk_cons ha.pe hr.pk).imp fun σ H Q ⟨F, pa, p, ρ, gs, s, o⟩ => by
  refine TM.of gs s (o.bind.mono fun d p1 F1 H1 pa1 gr1 gs1 o1 s1 v1 r1 => ?_)
  refine TMa.of gs1 s1 (o1.bind.mono fun ds p2 F2 H2 pa2 gr2 gs2 o2 s2 vs2 rs2 => ?_)
  exact o2.ret gs2 _ (.cons (r1.mono gr2.fz) rs2)⟩
/-- the callee runs; fr: what is made of its result -/
theorem run_fnM {f : Addr} {fd : FuncData} {pins : List (Addr × Obj)} {σ : L2.St} {H : Hp} {s : Shared} {Q : VK} {us : List Value} {vs : List V} {ds : List D} {F : Hp} {pa : Option Addr} {p : Pst} {args : Args} {E : XK} (Fm : FnM X.prog X.w X.K X.mg X.base k f fd ps G) (hr : Room k X.A) (hgd : X.A.guards = some []) (tk : Takes X Wx)
    (hb : BindsTo s fd args (ps.zip us)) (I : Inv X pins σ H s) (r : Vals vs us) (gs : GS F H pa p) (rs : Reps X.K F p.g pa vs ds) (hE : ∀ cls d H', E cls d H' → Wx cls d σ H') (o : FOut X.K X.mg F H p.g pa Q E (G ds p)) :
    codeAny (model X.prog X.w) X.A (.call (.ref f) args) (fun r s' => match r with
      | .ok (.ret u) => EP X pins σ Q u s'
      | .ok _ => False
      | .error e => X.xe e s') s := by
  refine codeAny_mono (Fm.run X.A X.stack s H args us vs ds F pa p Q E hr hgd I.env0 hb r gs rs o) fun r s' hq => ?_
  cases r with
  | error e => exact tk e s' (XE.of_call I hE hq)
  | ok fl =>
    cases fl with
    | ret u => exact I.after hq
    | next => exact False.elim hq
    | brk => exact False.elim hq
    | cont => exact False.elim hq
def outFn {α : Type} (f : D → Bool → Option α) : FRes → Res α
  | .ok d fr p' => (match f d fr with
    | some a => .ok a p'
    | none => .stuck)
  | .exc x p' => .exc x p'
  | .stuck => .stuck
/-- f(..): ms the positional arguments, mk the keywords' -/
def mFn (G : Fn) (n m : Nat) (ix : List Nat) (ms mk : M (List D)) : M D := mbind ms fun ds => mbind mk fun es _ p => if ds.length = n ∧ es.length = m then outFn (fun d _ => some d) (G (permL ix (ds ++ es)) p) else .stuck
def frOf (d : D) (fr : Bool) : Option (List D) := match d, fr with
  | .lst ds, true => some ds
  | _, _ => none
def mFno (G : Fn) (n m : Nat) (ix : List Nat) (ms mk : M (List D)) : M (List D) := mbind ms fun ds => mbind mk fun es _ p => if ds.length = n ∧ es.length = m then outFn frOf (G (permL ix (ds ++ es)) p) else .stuck
theorem AllR.len_perm {α β : Type} {R : α → β → Prop} {xs : List α} {ys : List β} (r : AllR R xs ys) (ix : List Nat) : (permL ix xs).length = (permL ix ys).length := (permL_rep r ix).1
/-- the common part of all forms of a call -/
theorem call_core {pins : List (Addr × Obj)} {s : Shared} {σ : L2.St} {H : Hp} {Q : VK} {f : Addr} {fd : FuncData} {us ws : List Value} {vs zs : List V} {ds es : List D} {F : Hp} {pa : Option Addr} {p : Pst} {E : XK}
    (hfd : ∃ (body : List Stmt) (scope : Scope) (kV doc pm : Value) (an : Option Addr) (cdv ct : Value), fd = PySem.W.fnOf x x params body scope .none kV doc pm an cdv ct) (Fm : FnM X.prog X.w X.K X.mg X.base k f fd ps G) (hr : Room k X.A) (hgd : X.A.guards = some []) (tk : Takes X Wx)
    (hb : Bd x params ps n ks ix) (hn : us.length = n) (hm : ws.length = ks.length) (I : Inv X pins σ H s) (r : Vals vs us) (rz : Vals zs ws) (gs : GS F H pa p) (rs : Reps X.K F p.g pa vs ds) (rz' : Reps X.K F p.g pa zs es)
    (hE : ∀ cls d H', E cls d H' → Wx cls d σ H') (o : FOut X.K X.mg F H p.g pa Q E (G (permL ix (ds ++ es)) p)) : wpAny (model X.prog X.w) X.A (call (.ref f) us (ks.zip ws)) (EP X pins σ Q) X.xe s := by
  obtain ⟨body, scope, kV, doc, pm, an, cdv, ct, rfl⟩ := hfd
  have hbt : BindsTo s (PySem.W.fnOf x x params body scope .none kV doc pm an cdv ct) ⟨us, ks.zip ws⟩ (ps.zip (permL ix (us ++ ws))) := .of_eq (hb _ _ _ _ _ _ _ _ us ws hn hm)
  exact wpAny_call (codeAny_mono (run_fnM Fm hr hgd tk hbt I (permL_vals (r.append rz) ix) gs (permL_rep (rs.append rz') ix) hE o) fun r s' h => by
    cases r with
    | error e => exact h
    | ok fl =>
      cases fl with
      | ret u => exact h
      | next => exact h
      | brk => exact h
      | cont => exact h)
theorem fout_val {K : PySem.W.Frag} {mg : Str → Option Value} {σ : L2.St} {F H F0 H0 : Hp} {pa pa0 : Option Addr} {g0 : Nat} {p : Pst} {Q : VK} {r : FRes} (gr : Gr F0 H0 g0 pa0 F H p.g pa)
    (o : Out K mg Wx σ F0 H0 g0 pa0 (fun d p' F' H' pa' => ∀ v, Rep K F' p'.g pa' v d → Q v H') (outFn (fun d _ => some d) r)) : FOut K mg F H p.g pa Q (fun cls dd H' => Wx cls dd σ H') r := by
  cases r with
  | stuck => exact o
  | exc x p' => exact fun cls dd F' H' pa' gr' gs' r => o cls dd F' H' pa' (gr.trans gr') gs' r
  | ok d fr p' =>
    intro v F' H' pa' gr' gs' rr
    cases fr with
    | false => exact o F' H' pa' (gr.trans gr') gs' v rr
    | true =>
      obtain ⟨a, vs, ds, rfl, rfl, h1, h2, h3, h4, h5, h6⟩ := rr
      have gr2 := (gr.trans gr')
      have h0 : H0 a = none := gr.free0 h1
      exact o _ H' pa' (gr2.freeze h0 h3) (gs'.freeze h2 h4) _ (Rep.lst' upd_same h5 (h6.mono (Fz.upd h3)))
theorem fout_o {K : PySem.W.Frag} {mg : Str → Option Value} {σ : L2.St} {F H F0 H0 : Hp} {pa pa0 : Option Addr} {g0 : Nat} {p : Pst} {Q : VK} {r : FRes} (gr : Gr F0 H0 g0 pa0 F H p.g pa)
    (o : Out K mg Wx σ F0 H0 g0 pa0 (fun ds p' F' H' pa' => ∀ a vs, H0 a = none → H' a = some (.lst vs) → F' a = none → pa' ≠ some a → ds.length ≤ sizeLine → Reps K F' p'.g pa' vs ds → Q (.ref a) H') (outFn frOf r)) : FOut K mg F H p.g pa Q (fun cls dd H' => Wx cls dd σ H') r := by
  cases r with
  | stuck => exact o
  | exc x p' => exact fun cls dd F' H' pa' gr' gs' r => o cls dd F' H' pa' (gr.trans gr') gs' r
  | ok d fr p' =>
    intro v F' H' pa' gr' gs' rr
    cases fr with
    | false => cases d <;> exact o.elim
    | true =>
      obtain ⟨a, vs, ds, rfl, rfl, h1, h2, h3, h4, h5, h6⟩ := rr
      exact o F' H' pa' (gr.trans gr') gs' a vs (gr.free0 h1) h2 h3 h4 h5 h6
/-- where the arguments have come: one transformer for both kinds of results -/
def tFn (n m : Nat) (ta tk : TA) (R : List V → List V → Hp → VK → Prop) : TE := fun σ H Q => ta σ H fun vs H1 => tk σ H1 fun zs H2 => vs.length = n ∧ zs.length = m ∧ R vs zs H2 Q
def FR (X : Cx) (Wx : WX) (G : Fn) (ix : List Nat) (σ : L2.St) : List V → List V → Hp → VK → Prop := fun vs zs H Q => ∃ F pa p ds es, GS F H pa p ∧ Reps X.K F p.g pa vs ds ∧ Reps X.K F p.g pa zs es ∧ FOut X.K X.mg F H p.g pa Q (fun cls dd H' => Wx cls dd σ H') (G (permL ix (ds ++ es)) p)
def tFnX (X : Cx) (Wx : WX) (G : Fn) (ix : List Nat) (n m : Nat) (ta tk : TA) : TE := fun σ H Q => tFn n m ta tk (FR X Wx G ix σ) σ H Q
theorem fr_run {pins : List (Addr × Obj)} {s : Shared} {σ : L2.St} {H : Hp} {Q : VK} {f : Addr} {fd : FuncData} {us ws : List Value} {vs zs : List V}
    (hfd : ∃ (body : List Stmt) (scope : Scope) (kV doc pm : Value) (an : Option Addr) (cdv ct : Value), fd = PySem.W.fnOf x x params body scope .none kV doc pm an cdv ct) (Fm : FnM X.prog X.w X.K X.mg X.base k f fd ps G) (hr : Room k X.A) (hgd : X.A.guards = some []) (tk : Takes X Wx)
    (hb : Bd x params ps n ks ix) (I : Inv X pins σ H s) (r : Vals vs us) (rz : Vals zs ws) (hn : vs.length = n) (hm : zs.length = ks.length) (h : FR X Wx G ix σ vs zs H Q) : wpAny (model X.prog X.w) X.A (call (.ref f) us (ks.zip ws)) (EP X pins σ Q) X.xe s := by
  obtain ⟨F, pa, p, ds, es, gs, rs, rz', o⟩ := h
  exact call_core hfd Fm hr hgd tk hb (by rw [← r.length]; exact hn) (by rw [← rz.length]; exact hm) I r rz gs rs rz' (fun _ _ _ h => h) o
theorem pe_fn1 (Fx : FnX X.prog X.w X.K X.mg X.base x params k ps G) (hr : Room k X.A) (hgd : X.A.guards = some []) (tk : Takes X Wx) (hb : Bd x params ps n [] ix) (hg : Gl X x) {t : TA} (ha : PA X (e :: es) t) (hdb : (x == ("__debug__" : Str)) = false := by decide)
    (he : starEach (e :: es) X.env = (false, eval e X.env) :: starEach es X.env := by rfl) (hpl : (backTo pos (starEach es X.env)).any (·.1) = false := by rfl) : PE X (.Call (.Name x p) (e :: es) [] pos) (tFnX X Wx G ix n 0 t tNil) := by
  obtain ⟨f, fd, hm, hk, hfd, Fm⟩ := Fx.ex
  refine ⟨fun pins s σ H Q I h => ?_⟩
  refine wpAny_Call_Name_kw (ld_glob I hg hm ?_ hdb)
  refine PySem.W.callWith_K (h₀ := X.base) I.ok.mod.kin hk (thn (ha.run pos pins s σ H _ I h) fun us s1 ⟨vs, H1, I1, r, h1, h2, q⟩ => ⟨I1.kIn, ?_⟩) he hpl
  exact fr_run (ks := []) (ws := []) hfd Fm hr hgd tk hb I1 r .nil h1 rfl q
theorem pe_fn0 (Fx : FnX X.prog X.w X.K X.mg X.base x params k ps G) (hr : Room k X.A) (hgd : X.A.guards = some []) (tk : Takes X Wx) (hb : Bd x params ps 0 [] ix) (hg : Gl X x) (hdb : (x == ("__debug__" : Str)) = false := by decide) : PE X (.Call (.Name x p) [] [] pos) (tFnX X Wx G ix 0 0 tNil tNil) := by
  obtain ⟨f, fd, hm, hk, hfd, Fm⟩ := Fx.ex
  refine ⟨fun pins s σ H Q I h => ?_⟩
  refine wpAny_Call_Name_kw (ld_glob I hg hm ?_ hdb)
  exact PySem.W.callWith_K0 I.kIn hk (fr_run (ks := []) (ws := []) (us := []) hfd Fm hr hgd tk hb I .nil .nil rfl rfl h.2.2)
theorem pe_fnk (Fx : FnX X.prog X.w X.K X.mg X.base x params k ps G) (hr : Room k X.A) (hgd : X.A.guards = some []) (tk : Takes X Wx) (hb : Bd x params ps n ks ix) (hg : Gl X x) {t t2 : TA} (ha : PA X (e :: es) t) (hkw : PK X kws t2)
    (hall : (backToKw pos (keywordEach kws X.env)).all (·.1.isSome) = true := by rfl) (hks : (backToKw pos (keywordEach kws X.env)).filterMap (·.1) = ks := by rfl) (hdb : (x == ("__debug__" : Str)) = false := by decide) (he : starEach (e :: es) X.env = (false, eval e X.env) :: starEach es X.env := by rfl)
    (hpl : ((backTo pos (starEach (e :: es) X.env)).any (·.1) || (backToKw pos (keywordEach kws X.env)).any (·.1.isNone)) = false := by rfl) : PE X (.Call (.Name x p) (e :: es) kws pos) (tFnX X Wx G ix n ks.length t t2) := by
  obtain ⟨f, fd, hm, hk, hfd, Fm⟩ := Fx.ex
  refine ⟨fun pins s σ H Q I h => ?_⟩
  refine wpAny_Call_Name_kw (ld_glob I hg hm ?_ hdb)
  refine PySem.W.callWith_KW (h₀ := X.base) I.ok.mod.kin hk hall (thn (ha.run pos pins s σ H _ I h) fun us s1 ⟨vs, H1, I1, r, q⟩ => ?_) hpl he
  refine thn (hkw.run pos pins s1 σ H1 _ I1 q) fun ws s2 ⟨zs, H2, I2, rz, h1, h2, q2⟩ => ⟨I2.kIn, ?_⟩
  rw [hks]
  exact fr_run hfd Fm hr hgd tk hb I2 r rz h1 h2 q2
theorem pe_fnk0 (Fx : FnX X.prog X.w X.K X.mg X.base x params k ps G) (hr : Room k X.A) (hgd : X.A.guards = some []) (tk : Takes X Wx) (hb : Bd x params ps 0 ks ix) (hg : Gl X x) {t2 : TA} (hkw : PK X kws t2)
    (hall : (backToKw pos (keywordEach kws X.env)).all (·.1.isSome) = true := by rfl) (hks : (backToKw pos (keywordEach kws X.env)).filterMap (·.1) = ks := by rfl) (hdb : (x == ("__debug__" : Str)) = false := by decide)
    (hpl : ((backTo pos (starEach [] X.env)).any (·.1) || (backToKw pos (keywordEach kws X.env)).any (·.1.isNone)) = false := by rfl) : PE X (.Call (.Name x p) [] kws pos) (tFnX X Wx G ix 0 ks.length tNil t2) := by
  obtain ⟨f, fd, hm, hk, hfd, Fm⟩ := Fx.ex
  refine ⟨fun pins s σ H Q I h => ?_⟩
  refine wpAny_Call_Name_kw (ld_glob I hg hm ?_ hdb)
  refine PySem.W.callWith_KW0 (h₀ := X.base) I.ok.mod.kin hk hall (thn (hkw.run pos pins s σ H _ I h) fun ws s2 ⟨zs, H2, I2, rz, h1, h2, q2⟩ => ⟨I2.kIn, ?_⟩) hpl
  rw [hks]
  exact fr_run (us := []) hfd Fm hr hgd tk hb I2 .nil rz h1 h2 q2
theorem tNil_of {K : PySem.W.Frag} {mg : Str → Option Value} {σ : L2.St} {H : Hp} {Q : List V → Hp → Prop} (h : Q [] H) : tNil σ H Q := h
/-- from the data to the transformer -/
theorem fn_tm {m' : Nat} {t2 : TA} (ht : ∀ σ H Q, TMa X.K X.mg Wx mk σ H Q → t2 σ H Q) : ∀ σ H Q, TM X.K X.mg Wx (mFn G n m' ix ms mk) σ H Q → tFnX X Wx G ix n m' (TMa X.K X.mg Wx ms) t2 σ H Q := by
  intro σ H Q ⟨F, pa, p, ρ, gs, s, o⟩
  refine TMa.of gs s ((Out.bindS .refl o).mono fun ds p1 F1 H1 pa1 gr1' gs1 ⟨gr1, o1⟩ s1 vs rs => ht _ _ _ ?_)
  refine TMa.of gs1 s1 ((Out.bindS gr1 o1).mono fun es p2 F2 H2 pa2 gr2' gs2 ⟨gr2, o2⟩ s2 zs rz => ?_)
  by_cases hc : ds.length = n ∧ es.length = m'
  · rw [if_pos hc] at o2
    exact ⟨by rw [rs.1]; exact hc.1, by rw [rz.1]; exact hc.2, F2, pa2, p2, ds, es, gs2, rs.mono gr2'.fz, rz, fout_val gr2 o2⟩
  · rw [if_neg hc] at o2; exact o2.elim
theorem fn_tmo {m' : Nat} {t2 : TA} (ht : ∀ σ H Q, TMa X.K X.mg Wx mk σ H Q → t2 σ H Q) : ∀ σ H Q, TMo X.K X.mg Wx (mFno G n m' ix ms mk) σ H Q → tFnX X Wx G ix n m' (TMa X.K X.mg Wx ms) t2 σ H Q := by
  intro σ H Q ⟨F, pa, p, ρ, gs, s, o⟩
  refine TMa.of gs s ((Out.bindS .refl o).mono fun ds p1 F1 H1 pa1 gr1' gs1 ⟨gr1, o1⟩ s1 vs rs => ht _ _ _ ?_)
  refine TMa.of gs1 s1 ((Out.bindS gr1 o1).mono fun es p2 F2 H2 pa2 gr2' gs2 ⟨gr2, o2⟩ s2 zs rz => ?_)
  by_cases hc : ds.length = n ∧ es.length = m'
  · rw [if_pos hc] at o2
    exact ⟨by rw [rs.1]; exact hc.1, by rw [rz.1]; exact hc.2, F2, pa2, p2, ds, es, gs2, rs.mono gr2'.fz, rz, fout_o gr2 o2⟩
  · rw [if_neg hc] at o2; exact o2.elim
theorem nil_tma : ∀ (σ : L2.St) (H : Hp) (Q : List V → Hp → Prop), TMa X.K X.mg Wx (mret []) σ H Q → tNil σ H Q := fun σ H Q ⟨F, pa, p, ρ, gs, s, o⟩ => o.ret gs _ .nil
theorem nil_fn {t2 : TA} {m' : Nat} : ∀ σ H Q, tFnX X Wx G ix n m' (TMa X.K X.mg Wx (mret [])) t2 σ H Q → tFnX X Wx G ix n m' tNil t2 σ H Q := fun σ H Q h => nil_tma _ _ _ h
theorem pm_fn1 (Fx : FnX X.prog X.w X.K X.mg X.base x params k ps G) (hr : Room k X.A) (hgd : X.A.guards = some []) (tk : Takes X Wx) (hb : Bd x params ps n [] ix) (hg : Gl X x) (ha : PMa X Wx (e :: es) ms) (hdb : (x == ("__debug__" : Str)) = false := by decide)
    (he : starEach (e :: es) X.env = (false, eval e X.env) :: starEach es X.env := by rfl) (hpl : (backTo pos (starEach es X.env)).any (·.1) = false := by rfl) : PM X Wx (.Call (.Name x p) (e :: es) [] pos) (mFn G n 0 ix ms (mret [])) := ⟨(pe_fn1 Fx hr hgd tk hb hg ha.pa hdb he hpl).imp (fn_tm nil_tma)⟩
theorem pm_fn0 (Fx : FnX X.prog X.w X.K X.mg X.base x params k ps G) (hr : Room k X.A) (hgd : X.A.guards = some []) (tk : Takes X Wx) (hb : Bd x params ps 0 [] ix) (hg : Gl X x) (hdb : (x == ("__debug__" : Str)) = false := by decide) : PM X Wx (.Call (.Name x p) [] [] pos) (mFn G 0 0 ix (mret []) (mret [])) :=
  ⟨(pe_fn0 Fx hr hgd tk hb hg hdb).imp fun σ H Q h => nil_fn _ _ _ (fn_tm nil_tma σ H Q h)⟩
theorem pm_fnk (Fx : FnX X.prog X.w X.K X.mg X.base x params k ps G) (hr : Room k X.A) (hgd : X.A.guards = some []) (tk : Takes X Wx) (hb : Bd x params ps n ks ix) (hg : Gl X x) (ha : PMa X Wx (e :: es) ms) (hkw : PMk X Wx kws mk)
    (hall : (backToKw pos (keywordEach kws X.env)).all (·.1.isSome) = true := by rfl) (hks : (backToKw pos (keywordEach kws X.env)).filterMap (·.1) = ks := by rfl) (hdb : (x == ("__debug__" : Str)) = false := by decide) (he : starEach (e :: es) X.env = (false, eval e X.env) :: starEach es X.env := by rfl)
    (hpl : ((backTo pos (starEach (e :: es) X.env)).any (·.1) || (backToKw pos (keywordEach kws X.env)).any (·.1.isNone)) = false := by rfl) : PM X Wx (.Call (.Name x p) (e :: es) kws pos) (mFn G n ks.length ix ms mk) := ⟨(pe_fnk Fx hr hgd tk hb hg ha.pa hkw.pk hall hks hdb he hpl).imp (fn_tm fun _ _ _ h => h)⟩
theorem pm_fnk0 (Fx : FnX X.prog X.w X.K X.mg X.base x params k ps G) (hr : Room k X.A) (hgd : X.A.guards = some []) (tk : Takes X Wx) (hb : Bd x params ps 0 ks ix) (hg : Gl X x) (hkw : PMk X Wx kws mk)
    (hall : (backToKw pos (keywordEach kws X.env)).all (·.1.isSome) = true := by rfl) (hks : (backToKw pos (keywordEach kws X.env)).filterMap (·.1) = ks := by rfl) (hdb : (x == ("__debug__" : Str)) = false := by decide)
    (hpl : ((backTo pos (starEach [] X.env)).any (·.1) || (backToKw pos (keywordEach kws X.env)).any (·.1.isNone)) = false := by rfl) : PM X Wx (.Call (.Name x p) [] kws pos) (mFn G 0 ks.length ix (mret []) mk) := ⟨(pe_fnk0 Fx hr hgd tk hb hg hkw.pk hall hks hdb hpl).imp fun σ H Q h => nil_fn _ _ _ (fn_tm (fun _ _ _ h => h) σ H Q h)⟩
theorem pmo_fn1 (Fx : FnX X.prog X.w X.K X.mg X.base x params k ps G) (hr : Room k X.A) (hgd : X.A.guards = some []) (tk : Takes X Wx) (hb : Bd x params ps n [] ix) (hg : Gl X x) (ha : PMa X Wx (e :: es) ms) (hdb : (x == ("__debug__" : Str)) = false := by decide)
    (he : starEach (e :: es) X.env = (false, eval e X.env) :: starEach es X.env := by rfl) (hpl : (backTo pos (starEach es X.env)).any (·.1) = false := by rfl) : PMo X Wx (.Call (.Name x p) (e :: es) [] pos) (mFno G n 0 ix ms (mret [])) := ⟨(pe_fn1 Fx hr hgd tk hb hg ha.pa hdb he hpl).imp (fn_tmo nil_tma)⟩
theorem pmo_fn0 (Fx : FnX X.prog X.w X.K X.mg X.base x params k ps G) (hr : Room k X.A) (hgd : X.A.guards = some []) (tk : Takes X Wx) (hb : Bd x params ps 0 [] ix) (hg : Gl X x) (hdb : (x == ("__debug__" : Str)) = false := by decide) : PMo X Wx (.Call (.Name x p) [] [] pos) (mFno G 0 0 ix (mret []) (mret [])) :=
  ⟨(pe_fn0 Fx hr hgd tk hb hg hdb).imp fun σ H Q h => nil_fn _ _ _ (fn_tmo nil_tma σ H Q h)⟩
theorem pmo_fnk (Fx : FnX X.prog X.w X.K X.mg X.base x params k ps G) (hr : Room k X.A) (hgd : X.A.guards = some []) (tk : Takes X Wx) (hb : Bd x params ps n ks ix) (hg : Gl X x) (ha : PMa X Wx (e :: es) ms) (hkw : PMk X Wx kws mk)
    (hall : (backToKw pos (keywordEach kws X.env)).all (·.1.isSome) = true := by rfl) (hks : (backToKw pos (keywordEach kws X.env)).filterMap (·.1) = ks := by rfl) (hdb : (x == ("__debug__" : Str)) = false := by decide) (he : starEach (e :: es) X.env = (false, eval e X.env) :: starEach es X.env := by rfl)
    (hpl : ((backTo pos (starEach (e :: es) X.env)).any (·.1) || (backToKw pos (keywordEach kws X.env)).any (·.1.isNone)) = false := by rfl) : PMo X Wx (.Call (.Name x p) (e :: es) kws pos) (mFno G n ks.length ix ms mk) := ⟨(pe_fnk Fx hr hgd tk hb hg ha.pa hkw.pk hall hks hdb he hpl).imp (fn_tmo fun _ _ _ h => h)⟩
end
end PF

namespace PF
open PySem PySem.Spec PyProof.Rows L2

/-! ### statements -/
inductive SRes where
  | nx (ρ : Sl) (p : Pst) | rt (d : D) (fr : Bool) (p : Pst) | bk (ρ : Sl) (p : Pst) | ct (ρ : Sl) (p : Pst) | exc (x : Ex) (ρ : Sl) (p : Pst) | stuck
abbrev C := Sl → Pst → SRes
/-- the def's entry -/
structure Ent where
  F : Hp
  H : Hp
  g : Nat
  pa : Option Addr
/-- a state within the def -/
structure SS (K : PySem.W.Frag) (En : Ent) (F H : Hp) (pa : Option Addr) (p : Pst) (σ : L2.St) (ρ : Sl) : Prop where
  gr : Gr En.F En.H En.g En.pa F H p.g pa
  gs : GS F H pa p
  sr : SRel K F H p.g pa σ ρ
  nw : ∀ (i : Nat) xs v, ρ[i]? = some (some (.own xs)) → σ[i]? = some (some v) → ∀ a, v = .ref a → En.H a = none
def SOut (K : PySem.W.Frag) (mg : Str → Option Value) (En : Ent) (Wx : WX) (F : Hp) (g : Nat) (pa : Option Addr) (Dn : Ends) : SRes → Prop
  | .nx ρ' p' => ∀ σ' F' H' pa', Fz F g pa F' p'.g pa' → SS K En F' H' pa' p' σ' ρ' → Dn.nx σ' H'
  | .bk ρ' p' => ∀ σ' F' H' pa', Fz F g pa F' p'.g pa' → SS K En F' H' pa' p' σ' ρ' → Dn.bk σ' H'
  | .ct ρ' p' => ∀ σ' F' H' pa', Fz F g pa F' p'.g pa' → SS K En F' H' pa' p' σ' ρ' → Dn.ct σ' H'
  | .rt d fr p' => ∀ v F' H' pa', Fz F g pa F' p'.g pa' → Gr En.F En.H En.g En.pa F' H' p'.g pa' → GS F' H' pa' p' → ResRep K F' En.H H' p'.g pa' fr v d → Dn.rt v H'
  | .exc x ρ' p' => ∀ cls dd σ' F' H' pa', Fz F g pa F' p'.g pa' → SS K En F' H' pa' p' σ' ρ' → ExRep K mg F' p'.g pa' cls dd x → Wx cls dd σ' H'
  | .stuck => False
def TC (K : PySem.W.Frag) (mg : Str → Option Value) (En : Ent) (Wx : WX) (m : C) : TS := fun Dn σ H => ∃ F pa p ρ, SS K En F H pa p σ ρ ∧ SOut K mg En Wx F p.g pa Dn (m ρ p)
structure PMs (X : Cx) (En : Ent) (Wx : WX) (st : Stmt) (m : C) : Prop where
  ps : PS X st (TC X.K X.mg En Wx m)
structure PMss (X : Cx) (En : Ent) (Wx : WX) (st : List Stmt) (m : C) : Prop where
  ps : PSs X st (TC X.K X.mg En Wx m)
theorem _root_.L2.PS.imp {X : Cx} {e : Stmt} {t t' : TS} (h : PS X e t) (f : ∀ D σ H, t' D σ H → t D σ H) : PS X e t' := ⟨fun pins s σ H D I q => h.run pins s σ H D I (f D σ H q)⟩
theorem _root_.L2.PSs.imp {X : Cx} {e : List Stmt} {t t' : TS} (h : PSs X e t) (f : ∀ D σ H, t' D σ H → t D σ H) : PSs X e t' := ⟨fun pins s σ H D I q => h.run pins s σ H D I (f D σ H q)⟩
section
variable {K : PySem.W.Frag} {mg : Str → Option Value} {En : Ent} {Wx : WX} {F H F' H' : Hp} {g g' : Nat} {pa pa' : Option Addr} {p p' : Pst} {σ : L2.St} {ρ : Sl} {Dn : Ends}
theorem SOut.later {r : SRes} (h : SOut K mg En Wx F g pa Dn r) (z : Fz F g pa F' g' pa') : SOut K mg En Wx F' g' pa' Dn r := by
  cases r with
  | nx ρ p => exact fun σ F2 H2 pa2 f s => h σ F2 H2 pa2 (z.trans f) s
  | bk ρ p => exact fun σ F2 H2 pa2 f s => h σ F2 H2 pa2 (z.trans f) s
  | ct ρ p => exact fun σ F2 H2 pa2 f s => h σ F2 H2 pa2 (z.trans f) s
  | rt d fr p => exact fun v F2 H2 pa2 f => h v F2 H2 pa2 (z.trans f)
  | exc x ρ p => exact fun cls dd σ F2 H2 pa2 f => h cls dd σ F2 H2 pa2 (z.trans f)
  | stuck => exact h
theorem SS.grow (s : SS K En F H pa p σ ρ) (gr : Gr F H p.g pa F' H' p'.g pa') (gs : GS F' H' pa' p') : SS K En F' H' pa' p' σ ρ := ⟨s.gr.trans gr, gs, s.sr.grow gr, s.nw⟩
end

/-! ### blocks -/
def cskip : C := fun ρ p => .nx ρ p
def cseq (a b : C) : C := fun ρ p => match a ρ p with
  | .nx ρ' p' => b ρ' p'
  | r => r
def cbrk : C := fun ρ p => .bk ρ p
def ccnt : C := fun ρ p => .ct ρ p
def cstuck : C := fun _ _ => .stuck
section
variable {X : Cx} {En : Ent} {Wx : WX} {st : Stmt} {sts : List Stmt} {m m' : C} {ms mi : M (List D)} {e a b : Expr} {me ma mb : M D} {mo : M (List D)} {mt : M Bool} {pos : Pos} {i : Nat} {x : Str}
theorem cs_nil : PMss X En Wx [] cskip := ⟨pss_nil.imp fun Dn σ H ⟨F, pa, p, ρ, s, o⟩ => o σ F H pa .refl s⟩
theorem cs_pass : PMs X En Wx (.Pass pos) cskip := ⟨ps_pass.imp fun Dn σ H ⟨F, pa, p, ρ, s, o⟩ => o σ F H pa .refl s⟩
theorem cs_break : PMs X En Wx (.Break pos) cbrk := ⟨ps_break.imp fun Dn σ H ⟨F, pa, p, ρ, s, o⟩ => o σ F H pa .refl s⟩
theorem cs_cont : PMs X En Wx (.Continue pos) ccnt := ⟨ps_continue.imp fun Dn σ H ⟨F, pa, p, ρ, s, o⟩ => o σ F H pa .refl s⟩
theorem cs_never : PMs X En Wx st cstuck := ⟨ps_never.imp fun Dn σ H ⟨F, pa, p, ρ, s, o⟩ => o⟩
theorem cs_one (h : PMs X En Wx st m) : PMss X En Wx [st] m := ⟨pss_one h.ps⟩
theorem cs_cons (h1 : PMs X En Wx st m) (h2 : PMss X En Wx sts m') : PMss X En Wx (st :: sts) (cseq m m') := ⟨(pss_cons h1.ps h2.ps).imp fun Dn σ H ⟨F, pa, p, ρ, s, o⟩ => by
  refine ⟨F, pa, p, ρ, s, ?_⟩
  unfold cseq at o
  cases q : m ρ p with
  | nx ρ1 p1 =>
    rw [q] at o
    exact fun σ1 F1 H1 pa1 f s1 => ⟨F1, pa1, p1, ρ1, s1, o.later f⟩
  | bk ρ1 p1 => rw [q] at o; exact o
  | ct ρ1 p1 => rw [q] at o; exact o
  | rt d fr p1 => rw [q] at o; exact o
  | exc y ρ1 p1 => rw [q] at o; exact o
  | stuck => rw [q] at o; exact o⟩

/-! ### an expression within a statement -/
def eout {α : Type} (m : M α) (k : α → C) : C := fun ρ p => match m ρ p with
  | .ok a p' => k a ρ p'
  | .exc x p' => .exc x ρ p'
  | .stuck => .stuck
theorem SOut.expr {α : Type} {K : PySem.W.Frag} {mg : Str → Option Value} {F H : Hp} {pa : Option Addr} {p : Pst} {σ : L2.St} {ρ : Sl} {Dn : Ends} {me : M α} {k : α → C} (s : SS K En F H pa p σ ρ) (o : SOut K mg En Wx F p.g pa Dn (eout me k ρ p)) :
    Out K mg Wx σ F H p.g pa (fun d p' F' H' pa' => SS K En F' H' pa' p' σ ρ ∧ SOut K mg En Wx F' p'.g pa' Dn (k d ρ p')) (me ρ p) := by
  unfold eout at o
  cases q : me ρ p with
  | ok d p' =>
    rw [q] at o
    exact fun F' H' pa' gr gs => ⟨s.grow gr gs, o.later gr.fz⟩
  | exc x p' =>
    rw [q] at o
    exact fun cls dd F' H' pa' gr gs r => o cls dd σ F' H' pa' gr.fz (s.grow gr gs) r
  | stuck => rw [q] at o; exact o
theorem tm_s {K : PySem.W.Frag} {mg : Str → Option Value} {F H : Hp} {pa : Option Addr} {p : Pst} {σ : L2.St} {ρ : Sl} {Dn : Ends} {k : D → C} {Q : VK} (s : SS K En F H pa p σ ρ) (o : SOut K mg En Wx F p.g pa Dn (eout me k ρ p))
    (h : ∀ v d p' F' H' pa', SS K En F' H' pa' p' σ ρ → Fz F p.g pa F' p'.g pa' → Rep K F' p'.g pa' v d → SOut K mg En Wx F' p'.g pa' Dn (k d ρ p') → Q v H') : TM K mg Wx me σ H Q :=
  ⟨F, pa, p, ρ, s.gs, s.sr, (o.expr s).mono fun d p' F' H' pa' gr gs ⟨s', o'⟩ v r => h v d p' F' H' pa' s' gr.fz r o'⟩
def cexpr (me : M D) : C := eout me fun _ => cskip
theorem cs_expr (he : PM X Wx e me) (hs : swapsWith e none pos.line X.env = pure false := by rfl) : PMs X En Wx (.Expr e pos) (cexpr me) := ⟨(ps_expr he.pe hs).imp fun Dn σ H ⟨F, pa, p, ρ, s, o⟩ => by
  exact tm_s s o fun v d p' F' H' pa' s' _ r o' => o' σ F' H' pa' .refl s'⟩
/-- return e -/
def cret (me : M D) : C := eout me fun d _ p => .rt d false p
theorem cs_ret (he : PM X Wx e me) : PMs X En Wx (.Return (some e) pos) (cret me) := ⟨(ps_ret he.pe).imp fun Dn σ H ⟨F, pa, p, ρ, s, o⟩ => by
  exact tm_s s o fun v d p' F' H' pa' s' _ r o' => o' v F' H' pa' .refl s'.gr s'.gs r⟩
def cretN : C := fun _ p => .rt .non false p
theorem cs_retN : PMs X En Wx (.Return none pos) cretN := ⟨ps_retN.imp fun Dn σ H ⟨F, pa, p, ρ, s, o⟩ => o _ F H pa .refl s.gr s.gs (show Rep _ _ _ _ _ _ from .non)⟩
/-- return a fresh list -/
def creto (mo : M (List D)) : C := eout mo fun ds _ p => .rt (.lst ds) true p
theorem Gr.enter {En : Ent} {F H : Hp} {g : Nat} {pa : Option Addr} {a : Addr} (x : Gr En.F En.H En.g En.pa F H g pa) (h : H a = none) : En.H a = none := x.free0 h
theorem tmo_s {K : PySem.W.Frag} {mg : Str → Option Value} {F H : Hp} {pa : Option Addr} {p : Pst} {σ : L2.St} {ρ : Sl} {Dn : Ends} {k : List D → C} {Q : VK} (s : SS K En F H pa p σ ρ) (o : SOut K mg En Wx F p.g pa Dn (eout mo k ρ p))
    (h : ∀ a vs ds p' F' H' pa', SS K En F' H' pa' p' σ ρ → Fz F p.g pa F' p'.g pa' → H a = none → H' a = some (.lst vs) → F' a = none → pa' ≠ some a → ds.length ≤ sizeLine → Reps K F' p'.g pa' vs ds → SOut K mg En Wx F' p'.g pa' Dn (k ds ρ p') → Q (.ref a) H') : TMo K mg Wx mo σ H Q :=
  ⟨F, pa, p, ρ, s.gs, s.sr, (o.expr s).mono fun d p' F' H' pa' gr gs ⟨s', o'⟩ a vs h1 h2 h3 h4 h5 h6 => h a vs d p' F' H' pa' s' gr.fz h1 h2 h3 h4 h5 h6 o'⟩
theorem cs_reto (he : PMo X Wx e mo) : PMs X En Wx (.Return (some e) pos) (creto mo) := ⟨(ps_ret he.pe).imp fun Dn σ H ⟨F, pa, p, ρ, s, o⟩ => by
  exact tmo_s s o fun a vs ds p' F' H' pa' s' _ h1 h2 h3 h4 h5 h6 o' => o' _ F' H' pa' .refl s'.gr s'.gs ⟨a, vs, ds, rfl, rfl, s.gr.enter h1, h2, h3, h4, h5, h6⟩⟩
/-- return x, x an own list -/
def cretown (i : Nat) : C := fun ρ p => match ρ[i]? with
  | some (some (.own xs)) => .rt (.lst xs) true p
  | _ => .stuck
theorem cs_retown (h : PE X (.Name x pos) (tVar i)) {pos'} : PMs X En Wx (.Return (some (.Name x pos)) pos') (cretown i) := ⟨(ps_ret h).imp fun Dn σ H ⟨F, pa, p, ρ, s, o⟩ => by
  unfold cretown at o
  cases q : ρ[i]? with
  | none => rw [q] at o; exact o.elim
  | some w =>
    rw [q] at o
    cases w with
    | none => exact o.elim
    | some w =>
      cases w with
      | val d => exact o.elim
      | own xs =>
        obtain ⟨v, e1, a, vs, rfl, h2, h3, h4, h5, h6⟩ := s.sr.rep i _ q
        exact ⟨_, e1, o _ F H pa .refl s.gr s.gs ⟨a, vs, xs, rfl, rfl, s.nw i xs _ q e1 a rfl, h2, h3, h4, h5, h6⟩⟩⟩
/-- if -/
def cif (t : M Bool) (a b : C) : C := eout t fun k => if k = true then a else b
theorem cs_if {c : Expr} {sa sb : List Stmt} {ca cb : C} (hc : PMt X Wx c mt) (ha : PMss X En Wx sa ca) (hb : PMss X En Wx sb cb) : PMs X En Wx (.If c sa sb pos) (cif mt ca cb) := ⟨(ps_if hc.pt ha.ps hb.ps).imp fun Dn σ H ⟨F, pa, p, ρ, s, o⟩ => by
  refine ⟨F, pa, p, ρ, s.gs, s.sr, (o.expr s).mono fun k p' F' H' pa' gr gs ⟨s', o'⟩ => ?_⟩
  cases k with
  | true => simp only [if_true] at o' ⊢; exact ⟨F', pa', p', ρ, s', o'⟩
  | false => simp only [Bool.false_eq_true, if_false] at o' ⊢; exact ⟨F', pa', p', ρ, s', o'⟩⟩

/-! ### stores -/
theorem SS.set {K : PySem.W.Frag} {F H : Hp} {pa : Option Addr} {p : Pst} {σ : L2.St} {ρ : Sl} (s : SS K En F H pa p σ ρ) {v : V} {d : D} (r : Rep K F p.g pa v d) (i : Nat) : SS K En F H pa p (σ.set i (some v)) (ρ.set i (some (.val d))) := by
  refine ⟨s.gr, s.gs, s.sr.set r i, fun j xs w h1 h2 => ?_⟩
  rw [List.getElem?_set] at h1 h2
  by_cases e : i = j
  · subst e
    simp only [if_true] at h1
    split at h1 <;> cases h1
  · rw [if_neg e] at h1 h2
    exact s.nw j xs w h1 h2
/-- a fresh list, into slot i -/
theorem SS.setO {K : PySem.W.Frag} {F H H0 : Hp} {pa : Option Addr} {p : Pst} {σ : L2.St} {ρ : Sl} (s : SS K En F H pa p σ ρ) {a : Addr} {vs : List V} {ds : List D} (i : Nat) (hE : En.H a = none) (hO : ∀ (j : Nat) ys, ρ[j]? = some (some (.own ys)) → σ[j]? ≠ some (some (.ref a))) (h2 : H a = some (.lst vs)) (h3 : F a = none) (h4 : pa ≠ some a) (h5 : ds.length ≤ sizeLine) (h6 : Reps K F p.g pa vs ds) :
    SS K En F H pa p (σ.set i (some (.ref a))) (ρ.set i (some (.own ds))) := by
  refine ⟨s.gr, s.gs, ⟨by simp [s.sr.len], fun j w h => ?_, fun j k xs ys v q1 q2 q3 q4 => ?_⟩, fun j xs w q1 q2 b hb => ?_⟩
  · rw [List.getElem?_set] at h ⊢
    by_cases e : i = j
    · subst e
      simp only [if_true] at h ⊢
      by_cases hi : i < ρ.length
      · rw [if_pos hi] at h
        rw [if_pos (by rw [← s.sr.len]; exact hi)]
        cases h
        exact ⟨_, rfl, a, vs, rfl, h2, h3, h4, h5, h6⟩
      · rw [if_neg hi] at h; cases h
    · rw [if_neg e] at h ⊢
      exact s.sr.rep j w h
  · rw [List.getElem?_set] at q1 q2 q3 q4
    by_cases e : i = j
    · by_cases e2 : i = k
      · omega
      · rw [if_pos e] at q1 q3
        rw [if_neg e2] at q2 q4
        split at q3
        · cases q3
          exact absurd q4 (hO k _ q2)
        · cases q3
    · by_cases e2 : i = k
      · rw [if_neg e] at q1 q3
        rw [if_pos e2] at q2 q4
        split at q4
        · cases q4
          exact absurd q3 (hO j _ q1)
        · cases q4
      · rw [if_neg e] at q1 q3
        rw [if_neg e2] at q2 q4
        exact s.sr.apart j k xs ys v q1 q2 q3 q4
  · rw [List.getElem?_set] at q1 q2
    by_cases e : i = j
    · rw [if_pos e] at q2
      split at q2
      · cases q2; cases hb; exact hE
      · cases q2
    · rw [if_neg e] at q1 q2
      exact s.nw j xs w q1 q2 b hb
def casg (i : Nat) (me : M D) : C := eout me fun d ρ p => .nx (ρ.set i (some (.val d))) p
def caso (i : Nat) (mo : M (List D)) : C := eout mo fun ds ρ p => .nx (ρ.set i (some (.own ds))) p
/-- what is stored is told by its transformer -/
theorem asg_tm : ∀ D σ H, TC X.K X.mg En Wx (casg i me) D σ H → tAsg (TM X.K X.mg Wx me) (gName i) D σ H := fun Dn σ H ⟨F, pa, p, ρ, s, o⟩ =>
  tm_s s o fun v d p' F' H' pa' s' _ r o' => o' _ F' H' pa' .refl (s'.set r i)
theorem fresh_ne {K : PySem.W.Frag} {F H : Hp} {pa : Option Addr} {p : Pst} {σ : L2.St} {ρ : Sl} (s : SS K En F H pa p σ ρ) {a : Addr} (h : H a = none) : ∀ (j : Nat) ys, ρ[j]? = some (some (.own ys)) → σ[j]? ≠ some (some (.ref a)) := fun j ys q e => by
  obtain ⟨v, e1, b, vs, rfl, h2, _⟩ := s.sr.rep j _ q
  rw [e] at e1
  cases e1
  rw [h] at h2; cases h2
theorem aso_tm : ∀ D σ H, TC X.K X.mg En Wx (caso i mo) D σ H → tAsg (TMo X.K X.mg Wx mo) (gName i) D σ H := fun Dn σ H ⟨F, pa, p, ρ, s, o⟩ =>
  tmo_s s o fun a vs ds p' F' H' pa' s' _ h1 h2 h3 h4 h5 h6 o' => o' _ F' H' pa' .refl (s'.setO (H0 := H) i (s.gr.enter h1) (fresh_ne s h1) h2 h3 h4 h5 h6)
theorem cs_set {pos' : Pos} (hN : X.N.Nodup) (hi : X.N[i]? = some x) (hx : Loc X.env.scope x) (he : PM X Wx e me) (hs : swapsWith e (some (.Name x pos')) pos.line X.env = pure false := by rfl) (hf : X.fn x = true ∨ X.env.scope.names.lookup x = some .local := by first | exact .inl rfl | exact .inr rfl) :
    PMs X En Wx (.Assign [.Name x pos'] e pos) (casg i me) := ⟨(ps_set hN hi hx he.pe hs hf).imp asg_tm⟩
theorem cs_seto {pos' : Pos} (hN : X.N.Nodup) (hi : X.N[i]? = some x) (hx : Loc X.env.scope x) (he : PMo X Wx e mo) (hs : swapsWith e (some (.Name x pos')) pos.line X.env = pure false := by rfl) (hf : X.fn x = true ∨ X.env.scope.names.lookup x = some .local := by first | exact .inl rfl | exact .inr rfl) :
    PMs X En Wx (.Assign [.Name x pos'] e pos) (caso i mo) := ⟨(ps_set hN hi hx he.pe hs hf).imp aso_tm⟩
/-- y = [..], on one line, y a plain local -/
theorem cs_setlc_gen {f : D → Sl → Option Sl} {tt : M Bool} {el : M D} {g : TG} {elt iter tg : Expr} {ifs : List Expr} {scope : Scope} {own : List (Str × Nat)} {py spos : Pos} (hc : X.calm = true) (hN : X.N.Nodup) (hy : X.N[i]? = some x) (hyl : X.env.scope.names.lookup x = some .local)
    (hsw : swapsWith (.ListComp elt [⟨tg, iter, ifs, 0⟩] scope pos) (some (.Name x py)) spos.line X.env = pure true) (hi : PMi X Wx tg iter mi) (ok : BlkOk X.N X.env.scope scope own)
    (hg : ∀ (s : Shared) (H : Hp) (C : Addr) (cl : List (Str × Addr)) (fp : List Addr), PG (X.blk s H scope (compEnvC scope cl C X.env) fp) tg g) (hf : GOk X.K (own.map (·.2)) g f)
    (ht : ∀ (s : Shared) (H : Hp) (C : Addr) (cl : List (Str × Addr)) (fp : List Addr), PMts (X.blk s H scope (compEnvC scope cl C X.env) fp) W0 ifs tt)
    (he : ∀ (s : Shared) (H : Hp) (C : Addr) (cl : List (Str × Addr)) (fp : List Addr), PM (X.blk s H scope (compEnvC scope cl C X.env) fp) W0 elt el) (hs : ∀ x, foldedSetIterable iter X.env x = pure x := by intro _; rfl) :
    PS X (.Assign [.Name x py] (.ListComp elt [⟨tg, iter, ifs, 0⟩] scope pos) spos) (tAsg (TMo X.K X.mg Wx (mLc (own.map (·.2)) mi f tt el)) (gName i)) :=
  (ps_setLc hc hN hy hyl hsw hi.pi ok hg (fun s H C cl fp => (ht s H C cl fp).pt) (fun s H C cl fp => (he s H C cl fp).pe) hs).imp fun D σ H h => lc_out hf σ H _ h
theorem cs_lco {st : Stmt} (h : PS X st (tAsg (TMo X.K X.mg Wx mo) (gName i))) : PMs X En Wx st (caso i mo) := ⟨h.imp aso_tm⟩
theorem mo_m : ∀ σ H Q, TM X.K X.mg Wx (mfrz mo) σ H Q → TMo X.K X.mg Wx mo σ H Q := fun σ H Q ⟨F, pa, p, ρ, gs, s, o⟩ => by
  refine ⟨F, pa, p, ρ, gs, s, ?_⟩
  unfold mfrz mbind at o
  cases q : mo ρ p with
  | stuck => rw [q] at o; exact o
  | exc x p' => rw [q] at o; exact o
  | ok ds p' =>
    rw [q] at o
    intro F1 H1 pa1 gr1 gs1 a vs ha hH hF hp hz rs
    have fz : Fz F1 p'.g pa1 (upd F1 a (.lst vs)) p'.g pa1 := Fz.upd hF
    exact o _ H1 pa1 (gr1.freeze ha hF) (gs1.freeze hH hp) _ (Rep.lst' upd_same hz (rs.mono fz))
theorem cs_lcv {st : Stmt} (h : PS X st (tAsg (TMo X.K X.mg Wx mo) (gName i))) : PMs X En Wx st (casg i (mfrz mo)) := ⟨h.imp fun D σ H q => mo_m σ H _ (asg_tm D σ H q)⟩
/-- an own list becomes a value -/
def cfrz (i : Nat) : C := fun ρ p => match ρ[i]? with
  | some (some (.own xs)) => .nx (ρ.set i (some (.val (.lst xs)))) p
  | some (some (.val _)) => .nx ρ p
  | _ => .stuck
theorem SS.freeze {K : PySem.W.Frag} {F H : Hp} {pa : Option Addr} {p : Pst} {σ : L2.St} {ρ : Sl} {xs : List D} (s : SS K En F H pa p σ ρ) (q : ρ[i]? = some (some (.own xs))) : ∃ F', Fz F p.g pa F' p.g pa ∧ SS K En F' H pa p σ (ρ.set i (some (.val (.lst xs)))) := by
  obtain ⟨v, e1, a, vs, rfl, h2, h3, h4, h5, h6⟩ := s.sr.rep i _ q
  have hE := s.nw i xs _ q e1 a rfl
  have fz : Fz F p.g pa (upd F a (.lst vs)) p.g pa := Fz.upd h3
  refine ⟨upd F a (.lst vs), fz, ⟨s.gr.freeze hE h3, s.gs.freeze h2 h4, ⟨by simp [s.sr.len], fun j w h => ?_, fun j k ys zs v q1 q2 q3 q4 => ?_⟩, fun j ys w q1 q2 => ?_⟩⟩
  · rw [List.getElem?_set] at h
    by_cases e : i = j
    · subst e
      rw [if_pos rfl] at h
      split at h
      · cases h
        exact ⟨_, e1, Rep.lst' upd_same h5 (h6.mono fz)⟩
      · cases h
    · rw [if_neg e] at h
      obtain ⟨v2, e2, r2⟩ := s.sr.rep j w h
      refine ⟨v2, e2, ?_⟩
      cases w with
      | val d => exact Rep.mono r2 fz
      | own ys =>
        obtain ⟨b, ws, z1, z2, z3, z4, z5, z6⟩ := r2
        refine ⟨b, ws, z1, z2, ?_, z4, z5, z6.mono fz⟩
        rw [upd_ne fun z => ?_]; exact z3
        subst z1 z
        exact e (s.sr.apart i j xs ys _ q h e1 e2)
  · rw [List.getElem?_set] at q1 q2
    by_cases e : i = j
    · rw [if_pos e] at q1
      split at q1 <;> cases q1
    · by_cases e2 : i = k
      · rw [if_pos e2] at q2
        split at q2 <;> cases q2
      · rw [if_neg e] at q1
        rw [if_neg e2] at q2
        exact s.sr.apart j k ys zs v q1 q2 q3 q4
  · rw [List.getElem?_set] at q1
    by_cases e : i = j
    · rw [if_pos e] at q1
      split at q1 <;> cases q1
    · rw [if_neg e] at q1
      exact s.nw j ys w q1 q2
theorem cs_frz (h : PMss X En Wx sts m) : PMss X En Wx sts (cseq (cfrz i) m) := ⟨h.ps.imp fun Dn σ H ⟨F, pa, p, ρ, s, o⟩ => by
  unfold cseq cfrz at o
  cases q : ρ[i]? with
  | none => rw [q] at o; exact o.elim
  | some w =>
    rw [q] at o
    cases w with
    | none => exact o.elim
    | some w =>
      cases w with
      | val d => exact ⟨F, pa, p, ρ, s, o⟩
      | own xs =>
        obtain ⟨F', fz, s'⟩ := s.freeze q
        exact ⟨F', pa, p, _, s', o.later fz⟩⟩
end
end PF

namespace PF
open PySem PySem.Spec PyProof.Rows L2

section
variable {X : Cx} {En : Ent} {Wx : WX} {st : Stmt} {sts : List Stmt} {m m' : C} {ms mi : M (List D)} {e a b : Expr} {me ma mb : M D} {mo : M (List D)} {mt : M Bool} {pos : Pos} {i : Nat} {x : Str}
/-! ### own lists change -/
theorem SS.upd {K : PySem.W.Frag} {F H : Hp} {pa : Option Addr} {p : Pst} {σ : L2.St} {ρ : Sl} (s : SS K En F H pa p σ ρ) {xs ys : List D} {a : Addr} {vs : List V} (q : ρ[i]? = some (some (.own xs))) (e : σ[i]? = some (some (.ref a))) (hz : ys.length ≤ sizeLine) (rs : Reps K F p.g pa vs ys) :
    SS K En F (L2.upd H a (.lst vs)) pa p σ (ρ.set i (some (.own ys))) := by
  obtain ⟨v, e1, b, ws, rfl, h2, h3, h4, h5, h6⟩ := s.sr.rep i _ q
  rw [e] at e1
  cases e1
  have hE := s.nw i xs _ q e a rfl
  refine ⟨⟨s.gr.fz, s.gr.new, fun b o z1 z2 => ?_, fun b o z1 => ?_, s.gr.pot⟩, ⟨fun b o z => ?_, fun b z => ?_⟩, ⟨by simp [s.sr.len], fun j w h => ?_, fun j k xs' ys' v q1 q2 q3 q4 => ?_⟩, fun j ys' w q1 q2 b hb => ?_⟩
  · rw [upd_ne (ne_of_none z1 hE)]; exact s.gr.keep b o z1 z2
  · rw [upd_ne (ne_of_none z1 hE)]; exact s.gr.there b o z1
  · rw [upd_ne fun t => ?_]; exact s.gs.sub b o z
    subst t; rw [h3] at z; cases z
  · have hb : b ≠ a := fun t => h4 (by rw [← t]; exact z)
    rw [upd_ne hb]; exact s.gs.pot b z
  · rw [List.getElem?_set] at h
    by_cases ej : i = j
    · subst ej
      rw [if_pos rfl] at h
      split at h
      · cases h
        exact ⟨_, e, a, vs, rfl, upd_same, h3, h4, hz, rs⟩
      · cases h
    · rw [if_neg ej] at h
      obtain ⟨v2, e2, r2⟩ := s.sr.rep j w h
      refine ⟨v2, e2, ?_⟩
      cases w with
      | val d => exact r2
      | own zs =>
        obtain ⟨b, ws2, z1, z2, z3, z4, z5, z6⟩ := r2
        refine ⟨b, ws2, z1, ?_, z3, z4, z5, z6⟩
        rw [upd_ne fun t => ?_]; exact z2
        subst z1 t
        exact ej (s.sr.apart i j xs zs _ q h e e2)
  · rw [List.getElem?_set] at q1 q2
    by_cases e1 : i = j
    · by_cases e2 : i = k
      · omega
      · rw [if_neg e2] at q2
        subst e1
        exact s.sr.apart i k xs ys' v q q2 q3 q4
    · by_cases e2 : i = k
      · rw [if_neg e1] at q1
        subst e2
        exact s.sr.apart j i xs' xs v q1 q q3 q4
      · rw [if_neg e1] at q1
        rw [if_neg e2] at q2
        exact s.sr.apart j k xs' ys' v q1 q2 q3 q4
  · rw [List.getElem?_set] at q1
    by_cases e1 : i = j
    · subst e1
      exact s.nw i xs w q q2 b hb
    · rw [if_neg e1] at q1
      exact s.nw j ys' w q1 q2 b hb
theorem SS.own {K : PySem.W.Frag} {F H : Hp} {pa : Option Addr} {p : Pst} {σ : L2.St} {ρ : Sl} (s : SS K En F H pa p σ ρ) {xs : List D} (q : ρ[i]? = some (some (.own xs))) : ∃ a vs, σ[i]? = some (some (.ref a)) ∧ H a = some (.lst vs) ∧ xs.length ≤ sizeLine ∧ Reps K F p.g pa vs xs := by
  obtain ⟨v, e1, b, ws, rfl, h2, h3, h4, h5, h6⟩ := s.sr.rep i _ q
  exact ⟨b, ws, e1, h2, h5, h6⟩
def capp (i : Nat) (me : M D) : C := fun ρ p => match ρ[i]? with
  | some (some (.own xs)) => eout me (fun d ρ p => if xs.length < 16000000 then .nx (ρ.set i (some (.own (xs ++ [d])))) p else .stuck) ρ p
  | _ => .stuck
theorem cs_append (h : PE X e (tBM X.K "list" rAppend (tVar i) (tCons (TM X.K X.mg Wx me) tNil))) (hs : swapsWith e none pos.line X.env = pure false := by rfl) : PMs X En Wx (.Expr e pos) (capp i me) := ⟨(ps_expr h hs).imp fun Dn σ H ⟨F, pa, p, ρ, s, o⟩ => by
  unfold capp at o
  cases q : ρ[i]? with
  | none => rw [q] at o; exact o.elim
  | some w =>
    rw [q] at o
    cases w with
    | none => exact o.elim
    | some w =>
      cases w with
      | val d => exact o.elim
      | own xs =>
        obtain ⟨a, vs, e1, h1, _, _⟩ := s.own q
        refine ⟨_, e1, .inl ⟨rfl, _, SqL.of h1⟩, ?_⟩
        refine tm_s s o fun v d p' F' H' pa' s' _ r o' => ?_
        obtain ⟨a', vs', e2, h2, h3, rs⟩ := s'.own q
        rw [e1] at e2
        cases e2
        by_cases hc : xs.length < 16000000
        · rw [if_pos hc] at o'
          refine ⟨a, vs', v, rfl, rfl, h2, by rw [rs.1, sizeLine_eq]; omega, ?_⟩
          exact o' σ F' _ pa' .refl (s'.upd q e1 (by rw [List.length_append, sizeLine_eq]; simp; omega) (rs.append (.cons r .nil)))
        · rw [if_neg hc] at o'; exact o'.elim⟩
def cext (i : Nat) (me : M D) : C := fun ρ p => match ρ[i]? with
  | some (some (.own xs)) => eout me (fun d ρ p => match d with
    | .lst ys => if xs.length + ys.length ≤ 16000000 then .nx (ρ.set i (some (.own (xs ++ ys)))) p else .stuck
    | _ => .stuck) ρ p
  | _ => .stuck
theorem cs_extend (h : PE X e (tBM X.K "list" rExtend (tVar i) (tCons (TM X.K X.mg Wx me) tNil))) (hs : swapsWith e none pos.line X.env = pure false := by rfl) : PMs X En Wx (.Expr e pos) (cext i me) := ⟨(ps_expr h hs).imp fun Dn σ H ⟨F, pa, p, ρ, s, o⟩ => by
  unfold cext at o
  cases q : ρ[i]? with
  | none => rw [q] at o; exact o.elim
  | some w =>
    rw [q] at o
    cases w with
    | none => exact o.elim
    | some w =>
      cases w with
      | val d => exact o.elim
      | own xs =>
        obtain ⟨a, vs, e1, h1, _, _⟩ := s.own q
        refine ⟨_, e1, .inl ⟨rfl, _, SqL.of h1⟩, ?_⟩
        refine tm_s s o fun v d p' F' H' pa' s' _ r o' => ?_
        obtain ⟨a', vs', e2, h2, h3, rs⟩ := s'.own q
        rw [e1] at e2
        cases e2
        cases d <;> first | exact o'.elim | skip
        rename_i ys
        simp only at o'
        by_cases hc : xs.length + ys.length ≤ 16000000
        · rw [if_pos hc] at o'
          obtain ⟨b, ws, rfl, hb, hz, rb⟩ := r.lstH s'.gs
          refine ⟨a, b, vs', ws, rfl, rfl, h2, hb, by rw [rs.1, rb.1, sizeLine_eq]; omega, ?_⟩
          exact o' σ F' _ pa' .refl (s'.upd q e1 (by rw [List.length_append, sizeLine_eq]; omega) (rs.append rb))
        · rw [if_neg hc] at o'; exact o'.elim⟩
theorem getLast_rep {K : PySem.W.Frag} {F : Hp} {g : Nat} {pa : Option Addr} {vs : List V} {xs : List D} (rs : Reps K F g pa vs xs) {d : D} (h : xs[xs.length - 1]? = some d) : ∃ v, vs[vs.length - 1]? = some v ∧ Rep K F g pa v d := by
  rw [rs.1]; exact rs.get h
theorem dropLast_rep {K : PySem.W.Frag} {F : Hp} {g : Nat} {pa : Option Addr} {vs : List V} {xs : List D} (rs : Reps K F g pa vs xs) : Reps K F g pa vs.dropLast xs.dropLast := by
  rw [List.dropLast_eq_take, List.dropLast_eq_take, rs.1]
  exact rs.take _
def cpop (i : Nat) : C := fun ρ p => match ρ[i]? with
  | some (some (.own xs)) => if xs = [] then .stuck else .nx (ρ.set i (some (.own xs.dropLast))) p
  | _ => .stuck
theorem cs_pop (h : PE X e (tBM0 X.K "list" rPop (tVar i))) (hs : swapsWith e none pos.line X.env = pure false := by rfl) : PMs X En Wx (.Expr e pos) (cpop i) := ⟨(ps_expr h hs).imp fun Dn σ H ⟨F, pa, p, ρ, s, o⟩ => by
  unfold cpop at o
  cases q : ρ[i]? with
  | none => rw [q] at o; exact o.elim
  | some w =>
    rw [q] at o
    cases w with
    | none => exact o.elim
    | some w =>
      cases w with
      | val d => exact o.elim
      | own xs =>
        simp only at o
        by_cases hc : xs = []
        · rw [if_pos hc] at o; exact o.elim
        · rw [if_neg hc] at o
          obtain ⟨a, vs, e1, h1, hz, rs⟩ := s.own q
          have hl : xs.length - 1 < xs.length := by have := List.length_pos_iff.mpr hc; omega
          obtain ⟨v, hv, _⟩ := getLast_rep rs (d := xs[xs.length - 1]) (by simp [hl])
          refine ⟨_, e1, .inl ⟨rfl, _, SqL.of h1⟩, a, vs, v, rfl, rfl, h1, hv, ?_⟩
          exact o σ F _ pa .refl (s.upd q e1 (by rw [List.length_dropLast]; omega) (dropLast_rep rs))⟩
/-- y = x.pop() -/
def casgpop (j i : Nat) : C := fun ρ p => match ρ[i]? with
  | some (some (.own xs)) => (match xs[xs.length - 1]? with
    | some d => .nx ((ρ.set i (some (.own xs.dropLast))).set j (some (.val d))) p
    | none => .stuck)
  | _ => .stuck
theorem cs_asgpop {j : Nat} {y : Str} {pos' : Pos} (h : PE X e (tBM0 X.K "list" rPop (tVar i))) (hN : X.N.Nodup) (hj : X.N[j]? = some y) (hx : Loc X.env.scope y) (hs : swapsWith e (some (.Name y pos')) pos.line X.env = pure false := by rfl) (hf : X.fn y = true ∨ X.env.scope.names.lookup y = some .local := by first | exact .inl rfl | exact .inr rfl) :
    PMs X En Wx (.Assign [.Name y pos'] e pos) (casgpop j i) := ⟨(ps_set hN hj hx h hs hf).imp fun Dn σ H ⟨F, pa, p, ρ, s, o⟩ => by
  unfold casgpop at o
  cases q : ρ[i]? with
  | none => rw [q] at o; exact o.elim
  | some w =>
    rw [q] at o
    cases w with
    | none => exact o.elim
    | some w =>
      cases w with
      | val d => exact o.elim
      | own xs =>
        simp only at o
        cases q2 : xs[xs.length - 1]? with
        | none => rw [q2] at o; exact o.elim
        | some d =>
          rw [q2] at o
          obtain ⟨a, vs, e1, h1, hz, rs⟩ := s.own q
          obtain ⟨v, hv, rv⟩ := getLast_rep rs q2
          refine ⟨_, e1, .inl ⟨rfl, _, SqL.of h1⟩, a, vs, v, rfl, rfl, h1, hv, ?_⟩
          have s2 := s.upd q e1 (by rw [List.length_dropLast]; omega) (dropLast_rep rs)
          exact o _ F _ pa .refl (s2.set rv j)⟩
/-- a fresh list to which an item is put, then dropped -/
def cdropapp (mo : M (List D)) (me : M D) : C := eout mo fun ds => eout me fun _ => if ds.length < 16000000 then cskip else cstuck
theorem cs_dropapp (h : PE X e (tBM X.K "list" rAppend (TMo X.K X.mg Wx mo) (tCons (TM X.K X.mg Wx me) tNil))) (hs : swapsWith e none pos.line X.env = pure false := by rfl) : PMs X En Wx (.Expr e pos) (cdropapp mo me) := ⟨(ps_expr h hs).imp fun Dn σ H ⟨F, pa, p, ρ, s, o⟩ => by
  unfold tDrop tBM
  refine tmo_s s o fun a vs ds p' F' H' pa' s' _ h1 h2 h3 h4 h5 h6 o' => ⟨.inl ⟨rfl, _, SqL.of h2⟩, ?_⟩
  refine ⟨F', pa', p', ρ, s'.gs, s'.sr, (o'.expr s').mono fun d p2 F2 H2 pa2 gr2 gs2 ⟨s2, o2⟩ v r => ?_⟩
  by_cases hc : ds.length < 16000000
  · rw [if_pos hc] at o2
    have h7 := gr2.keep _ _ h2 h4
    refine ⟨a, vs, v, rfl, rfl, h7, by rw [h6.1, sizeLine_eq]; omega, ?_⟩
    have hE := s.gr.enter h1
    have hF2 : F2 a = none := by
      cases q : F2 a with
      | none => rfl
      | some u =>
        rcases gr2.new _ _ q with z | z
        · rw [h3] at z; cases z
        · rw [h2] at z; cases z
    have hp2 : pa2 ≠ some a := fun z => by
      rcases gr2.pot with z2 | ⟨b, z2, hb⟩
      · exact h4 (by rw [← z2]; exact z)
      · rw [z2] at z; cases z; rw [h2] at hb; cases hb
    refine o2 σ F2 _ pa2 .refl ⟨⟨s2.gr.fz, s2.gr.new, fun b o z1 z2 => ?_, fun b o z1 => ?_, s2.gr.pot⟩, ⟨fun b o z => ?_, fun b z => ?_⟩, ⟨s2.sr.len, fun j w h => ?_, s2.sr.apart⟩, s2.nw⟩
    · rw [upd_ne (ne_of_none z1 hE)]; exact s2.gr.keep b o z1 z2
    · rw [upd_ne (ne_of_none z1 hE)]; exact s2.gr.there b o z1
    · rw [upd_ne fun t => ?_]; exact s2.gs.sub b o z
      subst t; rw [hF2] at z; cases z
    · have hb : b ≠ a := fun t => hp2 (by rw [← t]; exact z)
      rw [upd_ne hb]; exact s2.gs.pot b z
    · obtain ⟨v2, e2, r2⟩ := s2.sr.rep j w h
      refine ⟨v2, e2, ?_⟩
      cases w with
      | val d => exact r2
      | own zs =>
        obtain ⟨b, ws2, z1, z2, z3, z4, z5, z6⟩ := r2
        refine ⟨b, ws2, z1, ?_, z3, z4, z5, z6⟩
        rw [upd_ne fun t => ?_]; exact z2
        subst z1 t
        exact fresh_ne s h1 j zs h e2
  · rw [if_neg hc] at o2; exact o2.elim⟩

/-! ### targets of statements -/
def TgOk (K : PySem.W.Frag) (mg : Str → Option Value) (En : Ent) (Wx : WX) (g : TG) (G : D → Sl → Pst → Option (Sl × Pst)) : Prop := ∀ (F H : Hp) (pa : Option Addr) (p : Pst) (x : V) (d : D) (σ : L2.St) (ρ ρ' : Sl) (p' : Pst) (Q : L2.St → Hp → Prop), SS K En F H pa p σ ρ → Rep K F p.g pa x d → G d ρ p = some (ρ', p') →
  (∀ σ' F' H' pa', Fz F p.g pa F' p'.g pa' → SS K En F' H' pa' p' σ' ρ' → Q σ' H') → g x σ H Q
def tgName (i : Nat) : D → Sl → Pst → Option (Sl × Pst) := fun d ρ p => some (ρ.set i (some (.val d)), p)
theorem tg_name {K : PySem.W.Frag} {mg : Str → Option Value} : TgOk K mg En Wx (gName i) (tgName i) := by
  intro F H pa p x d σ ρ ρ' p' Q s r e k
  cases e
  exact k _ F H pa .refl (s.set r i)
def TgsOk (K : PySem.W.Frag) (mg : Str → Option Value) (En : Ent) (Wx : WX) (g : TGs) (G : List D → Sl → Pst → Option (Sl × Pst)) : Prop := ∀ (F H : Hp) (pa : Option Addr) (p : Pst) (xs : List V) (ds : List D) (σ : L2.St) (ρ ρ' : Sl) (p' : Pst) (Q : L2.St → Hp → Prop), SS K En F H pa p σ ρ → Reps K F p.g pa xs ds → G ds ρ p = some (ρ', p') →
  (∀ σ' F' H' pa', Fz F p.g pa F' p'.g pa' → SS K En F' H' pa' p' σ' ρ' → Q σ' H') → g xs σ H Q
def tgNil : List D → Sl → Pst → Option (Sl × Pst) := fun ds ρ p => match ds with
  | [] => some (ρ, p)
  | _ => none
def tgCons (f : D → Sl → Pst → Option (Sl × Pst)) (fs : List D → Sl → Pst → Option (Sl × Pst)) : List D → Sl → Pst → Option (Sl × Pst) := fun ds ρ p => match ds with
  | d :: r => (match f d ρ p with
    | some (ρ1, p1) => fs r ρ1 p1
    | none => none)
  | [] => none
theorem tgs_nil {K : PySem.W.Frag} {mg : Str → Option Value} : TgsOk K mg En Wx gNil tgNil := by
  intro F H pa p xs ds σ ρ ρ' p' Q s r e k
  cases ds with
  | nil =>
    have hx := List.eq_nil_of_length_eq_zero r.1
    cases e
    exact ⟨hx, k σ F H pa .refl s⟩
  | cons d ds => cases e
theorem tgs_cons {K : PySem.W.Frag} {mg : Str → Option Value} {g : TG} {gs : TGs} {f : D → Sl → Pst → Option (Sl × Pst)} {fs : List D → Sl → Pst → Option (Sl × Pst)} (h1 : TgOk K mg En Wx g f) (h2 : TgsOk K mg En Wx gs fs) : TgsOk K mg En Wx (gCons g gs) (tgCons f fs) := by
  intro F H pa p xs ds σ ρ ρ' p' Q s r e k
  cases ds with
  | nil => cases e
  | cons d ds =>
    rcases r.cases with ⟨_, z⟩ | ⟨x, y, xs', ys', rfl, z, r1, r2⟩
    · cases z
    · cases z
      simp only [tgCons] at e
      cases q : f d ρ p with
      | none => rw [q] at e; cases e
      | some w =>
        obtain ⟨ρ1, p1⟩ := w
        rw [q] at e
        refine ⟨x, xs', rfl, h1 F H pa p x d σ ρ ρ1 p1 _ s r1 q fun σ1 F1 H1 pa1 fz1 s1 => ?_⟩
        exact h2 F1 H1 pa1 p1 xs' ds σ1 ρ1 ρ' p' Q s1 (Reps.mono r2 fz1) e fun σ2 F2 H2 pa2 fz2 s2 => k σ2 F2 H2 pa2 (fz1.trans fz2) s2
def tgTup (n : Nat) (fs : List D → Sl → Pst → Option (Sl × Pst)) : D → Sl → Pst → Option (Sl × Pst) := fun d ρ p => match d with
  | .tup xs => if xs.length = n then fs xs ρ p else none
  | _ => none
theorem tg_tup {K : PySem.W.Frag} {mg : Str → Option Value} {n : Nat} {g : TGs} {fs : List D → Sl → Pst → Option (Sl × Pst)} (h : TgsOk K mg En Wx g fs) : TgOk K mg En Wx (gTup K n g) (tgTup n fs) := by
  intro F H pa p x d σ ρ ρ' p' Q s r e k
  cases d <;> first | (simp [tgTup] at e; done) | skip
  simp only [tgTup] at e
  split at e
  · rename_i hn
    obtain ⟨a, ws, rfl, h1, hz, rs⟩ := r.tupH s.gs
    exact ⟨a, ws, rfl, SqT.of h1, by rw [rs.1]; exact hn, h F H pa p ws _ σ ρ ρ' p' Q s rs e k⟩
  · cases e
/-- x[i] = d: an own list, or the pot -/
def setPot (p : Pst) : D → D → Option Pst
  | .int 0, .int n => some { p with a := n }
  | .int 1, .int n => some { p with b := n }
  | _, _ => none
def tgSub (r : Nat) (mi : M D) : D → Sl → Pst → Option (Sl × Pst) := fun d ρ p => match mi ρ p with
  | .ok k p1 => (match ρ[r]? with
    | some (some (.own xs)) => (match k with
      | .int k => (match ixN xs.length k with
        | some j => some (ρ.set r (some (.own (xs.set j d))), p1)
        | none => none)
      | _ => none)
    | some (some (.val (.pot g))) => if g = p1.g then (setPot p1 k d).map fun p2 => (ρ, p2) else none
    | _ => none)
  | _ => none
theorem SS.pot {K : PySem.W.Frag} {F H : Hp} {pa : Option Addr} {p p' : Pst} {σ : L2.St} {ρ : Sl} {a : Addr} (s : SS K En F H pa p σ ρ) (ha : pa = some a) (hg : p'.g = p.g) : SS K En F (L2.upd H a (.lst [.int p'.a, .int p'.b])) pa p' σ ρ := by
  obtain ⟨h1, h2⟩ := s.gs.pot a ha
  refine ⟨⟨by rw [hg]; exact s.gr.fz, s.gr.new, fun b o z1 z2 => ?_, fun b o z1 => ?_, s.gr.pot⟩, ⟨fun b o z => ?_, fun b z => ?_⟩, ⟨s.sr.len, fun j w h => ?_, s.sr.apart⟩, s.nw⟩
  · have hb : b ≠ a := fun t => by
      subst t
      rcases s.gr.pot with z | ⟨c, z, hc⟩
      · exact z2 (by rw [← z]; exact ha)
      · rw [ha] at z; cases z; rw [z1] at hc; cases hc
    rw [upd_ne hb]; exact s.gr.keep b o z1 z2
  · by_cases hb : b = a
    · exact ⟨_, by rw [hb]; exact upd_same⟩
    · rw [upd_ne hb]; exact s.gr.there b o z1
  · rw [upd_ne fun t => ?_]; exact s.gs.sub b o z
    subst t; rw [h2] at z; cases z
  · rw [ha] at z
    cases z
    exact ⟨upd_same, h2⟩
  · obtain ⟨v2, e2, r2⟩ := s.sr.rep j w h
    refine ⟨v2, e2, ?_⟩
    cases w with
    | val d => rw [hg]; exact r2
    | own zs =>
      obtain ⟨b, ws2, z1, z2, z3, z4, z5, z6⟩ := r2
      refine ⟨b, ws2, z1, ?_, z3, z4, z5, by rw [hg]; exact z6⟩
      rw [upd_ne fun t => ?_]; exact z2
      subst t
      exact z4 ha
theorem setPot_g {p p' : Pst} {k d : D} (h : setPot p k d = some p') : p'.g = p.g := by
  unfold setPot at h
  split at h <;> first | (cases h; rfl) | cases h
theorem tg_sub {r : Nat} {mi : M D} : TgOk X.K X.mg En Wx (gSub (tVar r) (TM X.K X.mg Wx mi) rSetL) (tgSub r mi) := by
  intro F H pa p x d σ ρ ρ' p' Q s rx e k
  unfold tgSub at e
  cases q0 : mi ρ p with
  | stuck => rw [q0] at e; cases e
  | exc y p1 => rw [q0] at e; cases e
  | ok kd p1 =>
    rw [q0] at e
    simp only at e
    have tm : ∀ (R : VK), (∀ v F' H' pa', Gr F H p.g pa F' H' p1.g pa' → GS F' H' pa' p1 → Rep X.K F' p1.g pa' v kd → R v H') → TM X.K X.mg Wx mi σ H R := fun R hR =>
      ⟨F, pa, p, ρ, s.gs, s.sr, by rw [q0]; exact fun F' H' pa' gr gs v r => hR v F' H' pa' gr gs r⟩
    split at e
    · rename_i xs q
      obtain ⟨a, vs, e1, _⟩ := s.own q
      refine ⟨_, e1, tm _ fun v F' H' pa' gr gs rk => ?_⟩
      have s' := s.grow gr gs
      obtain ⟨a', vs', e2, h2, hz, rs⟩ := s'.own q
      rw [e1] at e2
      cases e2
      split at e
      · rename_i kk
        cases rk
        split at e
        · rename_i j qj
          cases e
          refine ⟨a, vs', kk, j, rfl, rfl, h2, by rw [rs.1]; exact qj, ?_⟩
          exact k σ F' _ pa' gr.fz (s'.upd q e1 (by simpa using hz) (rs.set (rx.mono gr.fz) j))
        · cases e
      · cases e
    · rename_i g q
      split at e
      · rename_i hg
        cases q2 : setPot p1 kd d with
        | none => rw [q2] at e; cases e
        | some p2 =>
          rw [q2] at e
          cases e
          obtain ⟨v0, e1, r0⟩ := s.sr.rep r _ q
          refine ⟨_, e1, tm _ fun v F' H' pa' gr gs rk => ?_⟩
          have s' := s.grow gr gs
          have r0' : Rep X.K F' p1.g pa' v0 (.pot g) := Rep.mono r0 gr.fz
          cases r0' with
          | pot h1 h2 =>
            obtain ⟨a, ha, rfl⟩ := h2 hg
            obtain ⟨h3, _⟩ := gs.pot a ha
            have rx' := rx.mono gr.fz
            have hg2 := setPot_g q2
            have s2 := s'.pot ha hg2
            unfold setPot at q2
            split at q2 <;> first | (cases q2; done) | skip
            · cases rk; cases rx'
              cases q2
              exact ⟨a, _, 0, 0, rfl, rfl, h3, rfl, k σ F' _ pa' gr.fz s2⟩
            · cases rk; cases rx'
              cases q2
              exact ⟨a, _, 1, 1, rfl, rfl, h3, rfl, k σ F' _ pa' gr.fz s2⟩
      · cases e
    · cases e
def casgT (G : D → Sl → Pst → Option (Sl × Pst)) (me : M D) : C := eout me fun d ρ p => match G d ρ p with
  | some (ρ', p') => .nx ρ' p'
  | none => .stuck
theorem cs_asgT {g : TG} {G : D → Sl → Pst → Option (Sl × Pst)} {st : Stmt} (h : PS X st (tAsg (TM X.K X.mg Wx me) g)) (hG : TgOk X.K X.mg En Wx g G) : PMs X En Wx st (casgT G me) := ⟨h.imp fun Dn σ H ⟨F, pa, p, ρ, s, o⟩ => by
  refine tm_s s o fun v d p' F' H' pa' s' _ r o' => ?_
  cases q : G d ρ p' with
  | none => rw [q] at o'; exact o'.elim
  | some w =>
    obtain ⟨ρ1, p1⟩ := w
    rw [q] at o'
    exact hG F' H' pa' p' v d σ ρ ρ1 p1 _ s' r q fun σ2 F2 H2 pa2 fz2 s2 => o' σ2 F2 H2 pa2 fz2 s2⟩
end
end PF

namespace PF
open PySem PySem.Spec PyProof.Rows L2

section
variable {X : Cx} {En : Ent} {Wx : WX} {st : Stmt} {sts : List Stmt} {m m' : C} {ms mi : M (List D)} {e a b : Expr} {me ma mb : M D} {mo : M (List D)} {mt : M Bool} {pos : Pos} {i : Nat} {x : Str} {es : List Expr}
/-! ### loops -/
def cforGo (G : D → Sl → Pst → Option (Sl × Pst)) (body : C) : List D → C
  | [] => cskip
  | d :: ds => fun ρ p => match G d ρ p with
    | none => .stuck
    | some (ρ1, p1) => (match body ρ1 p1 with
      | .nx ρ' p' => cforGo G body ds ρ' p'
      | .ct ρ' p' => cforGo G body ds ρ' p'
      | .bk ρ' p' => .nx ρ' p'
      | r => r)
def cfor (mi : M (List D)) (G : D → Sl → Pst → Option (Sl × Pst)) (body : C) : C := eout mi fun items => cforGo G body items
theorem cs_for {iter tg : Expr} {body : List Stmt} {g : TG} {G : D → Sl → Pst → Option (Sl × Pst)} {cb : C} (hp : PassesOwn (model X.prog X.w) X.A X.env X.xe) (hc : X.calm = true) (hi : PMi X Wx tg iter mi) (hg : PG X tg g) (hG : TgOk X.K X.mg En Wx g G) (hb : PMss X En Wx body cb)
    (hs : ∀ x, foldedSetIterable iter X.env x = pure x := by intro _; rfl) : PMs X En Wx (.For tg iter body [] pos) (cfor mi G cb) := ⟨(ps_for hp hc hi.pi hg hb.ps hs).imp fun Dn σ H ⟨F, pa, p, ρ, s, o⟩ => by
  refine ⟨F, pa, p, ρ, s.gs, s.sr, (o.expr s).mono fun items p1 F1 H1 pa1 gr1 gs1 ⟨s1, o1⟩ J hJ hz => ?_⟩
  refine ⟨fun i m σ' H' => m = items.length - i ∧ i ≤ items.length ∧ ∃ F' pa' p' ρ', Fz F1 p1.g pa1 F' p'.g pa' ∧ SS X.K En F' H' pa' p' σ' ρ' ∧ SOut X.K X.mg En Wx F' p'.g pa' Dn (cforGo G cb (items.drop i) ρ' p'), ⟨_, rfl, Nat.zero_le _, F1, pa1, p1, ρ, .refl, s1, by simpa using o1⟩, ?_⟩
  rintro i m σ2 H2 ⟨rfl, hi, F2, pa2, p2, ρ2, fz2, s2, o2⟩
  obtain ⟨hst, hgo⟩ := hJ i F2 H2 pa2 p2 fz2 s2.gs
  by_cases hlt : i < items.length
  · obtain ⟨hg1, hy⟩ := hgo items[i] (by simp [hlt])
    rw [List.drop_eq_getElem_cons hlt] at o2
    simp only [cforGo] at o2
    cases q : G items[i] ρ2 p2 with
    | none => rw [q] at o2; exact o2.elim
    | some w =>
      obtain ⟨ρ3, p3⟩ := w
      rw [q] at o2
      simp only at o2
      refine .inr ⟨hg1, fun σ' H' => (i + 1 ≤ items.length ∧ ∃ F' pa' p' ρ', Fz F1 p1.g pa1 F' p'.g pa' ∧ SS X.K En F' H' pa' p' σ' ρ' ∧ SOut X.K X.mg En Wx F' p'.g pa' Dn (cforGo G cb (items.drop (i + 1)) ρ' p')), fun σ' H' ⟨h1, h2⟩ => ⟨_, by omega, rfl, h1, h2⟩, fun x H' yl => ?_⟩
      obtain ⟨F', gr', gs', rx⟩ := hy x H' yl
      have s' := s2.grow gr' gs'
      refine hG F' H' pa2 p2 x _ σ2 ρ2 ρ3 p3 _ s' rx q fun σ4 F4 H4 pa4 fz4 s4 => ?_
      refine ⟨F4, pa4, p3, ρ3, s4, ?_⟩
      have fzA : Fz F1 p1.g pa1 F4 p3.g pa4 := (fz2.trans gr'.fz).trans fz4
      have o4 := o2.later (gr'.fz.trans fz4)
      cases q5 : cb ρ3 p3 with
      | nx ρ5 p5 =>
        rw [q5] at o4
        exact fun σ5 F5 H5 pa5 fz5 s5 => ⟨hlt, F5, pa5, p5, ρ5, fzA.trans fz5, s5, o4.later fz5⟩
      | ct ρ5 p5 =>
        rw [q5] at o4
        exact fun σ5 F5 H5 pa5 fz5 s5 => ⟨hlt, F5, pa5, p5, ρ5, fzA.trans fz5, s5, o4.later fz5⟩
      | bk ρ5 p5 =>
        rw [q5] at o4
        exact fun σ5 F5 H5 pa5 fz5 s5 => o4 σ5 F5 H5 pa5 fz5 s5
      | rt d fr p5 => rw [q5] at o4; exact o4
      | exc y ρ5 p5 => rw [q5] at o4; exact o4
      | stuck => rw [q5] at o4; exact o4.elim
  · have hi2 : items.length ≤ i := by omega
    rw [List.drop_eq_nil_of_le hi2] at o2
    exact .inl ⟨hst hi2, o2 σ2 F2 H2 pa2 .refl s2⟩⟩
def cwhile (mt : M Bool) (body : C) : Nat → C
  | 0 => cstuck
  | n + 1 => eout mt fun k => if k = true then (fun ρ p => match body ρ p with
    | .nx ρ' p' => cwhile mt body n ρ' p'
    | .ct ρ' p' => cwhile mt body n ρ' p'
    | .bk ρ' p' => .nx ρ' p'
    | r => r) else cskip
theorem cs_while {c : Expr} {body : List Stmt} {cb : C} (n : Nat) (hp : PassesOwn (model X.prog X.w) X.A X.env X.xe) (hc : PMt X Wx c mt) (hb : PMss X En Wx body cb) : PMs X En Wx (.While c body [] pos) (cwhile mt cb n) := ⟨(ps_while hp hc.pt hb.ps).imp fun Dn σ H ⟨F, pa, p, ρ, s, o⟩ => by
  refine ⟨fun m σ' H' => ∃ F' pa' p' ρ', SS X.K En F' H' pa' p' σ' ρ' ∧ SOut X.K X.mg En Wx F' p'.g pa' Dn (cwhile mt cb m ρ' p'), ⟨n, F, pa, p, ρ, s, o⟩, ?_⟩
  rintro m σ1 H1 ⟨F1, pa1, p1, ρ1, s1, o1⟩
  cases m with
  | zero => exact o1.elim
  | succ m =>
    refine ⟨F1, pa1, p1, ρ1, s1.gs, s1.sr, (o1.expr s1).mono fun k p2 F2 H2 pa2 gr2 gs2 ⟨s2, o2⟩ => ?_⟩
    cases k with
    | false =>
      simp only [Bool.false_eq_true, if_false] at o2 ⊢
      exact o2 σ1 F2 H2 pa2 .refl s2
    | true =>
      simp only [if_true] at o2 ⊢
      refine ⟨fun σ' H' => ∃ F' pa' p' ρ', SS X.K En F' H' pa' p' σ' ρ' ∧ SOut X.K X.mg En Wx F' p'.g pa' Dn (cwhile mt cb m ρ' p'), fun σ' H' h => ⟨m, Nat.lt_succ_self m, h⟩, F2, pa2, p2, ρ1, s2, ?_⟩
      cases q5 : cb ρ1 p2 with
      | nx ρ5 p5 =>
        rw [q5] at o2
        exact fun σ5 F5 H5 pa5 fz5 s5 => ⟨F5, pa5, p5, ρ5, s5, o2.later fz5⟩
      | ct ρ5 p5 =>
        rw [q5] at o2
        exact fun σ5 F5 H5 pa5 fz5 s5 => ⟨F5, pa5, p5, ρ5, s5, o2.later fz5⟩
      | bk ρ5 p5 =>
        rw [q5] at o2
        exact fun σ5 F5 H5 pa5 fz5 s5 => o2 σ5 F5 H5 pa5 fz5 s5
      | rt d fr p5 => rw [q5] at o2; exact o2
      | exc y ρ5 p5 => rw [q5] at o2; exact o2
      | stuck => rw [q5] at o2; exact o2.elim⟩

/-! ### own lists are read -/
def mIxO (i : Nat) (mb : M D) : M D := fun ρ p => match ρ[i]? with
  | some (some (.own xs)) => mbind mb (fun y => mopt (match y with
    | .int k => atI xs k
    | _ => none)) ρ p
  | _ => .stuck
theorem pm_ixo (ha : PE X (.Name x pos) (tVar i)) (hb : PM X Wx b mb) {pos'} (hs : PlainIx b := by exact fun _ _ => rfl) : PM X Wx (.Subscript (.Name x pos) b pos') (mIxO i mb) := ⟨(pe_ix ix_seq ha hb.pe hs).imp fun σ H Q ⟨F, pa, p, ρ, gs, s, o⟩ => by
  unfold mIxO at o
  split at o <;> first | exact o.elim | skip
  rename_i xs q
  obtain ⟨v, e1, a, vs, rfl, h2, h3, h4, h5, h6⟩ := s.rep i _ q
  refine ⟨_, e1, TM.of gs s (o.bind.mono fun y p1 F1 H1 pa1 gr1 gs1 o1 s1 v1 r1 => ?_)⟩
  obtain ⟨z, ez, o2⟩ := o1.opt
  split at ez <;> first | (cases ez; done) | skip
  cases r1
  have h6' := h6.mono gr1.fz
  obtain ⟨v2, e2, r2⟩ := atI_rep h6' ez
  exact .inl ⟨a, vs, _, v2, rfl, rfl, SqL.of (gr1.keep _ _ h2 h4), e2, o2.ret gs1 _ r2⟩⟩
/-- the own lists stand as values, for a while -/
def thaw (ρ : Sl) : Sl := ρ.map fun o => o.map fun w => match w with
  | .own xs => .val (.lst xs)
  | .val d => .val d
theorem thaw_get {ρ : Sl} {i : Nat} {w : W} (h : (thaw ρ)[i]? = some (some w)) : ∃ w0, ρ[i]? = some (some w0) ∧ ((∃ xs, w0 = .own xs ∧ w = .val (.lst xs)) ∨ ∃ d, w0 = .val d ∧ w = .val d) := by
  unfold thaw at h
  rw [List.getElem?_map] at h
  cases q : ρ[i]? with
  | none => rw [q] at h; cases h
  | some o =>
    rw [q] at h
    cases o with
    | none => cases h
    | some w0 =>
      refine ⟨w0, rfl, ?_⟩
      cases w0 with
      | own xs => simp at h; exact .inl ⟨xs, rfl, h.symm⟩
      | val d => simp at h; exact .inr ⟨d, rfl, h.symm⟩
open Classical in
theorem thaw_state {K : PySem.W.Frag} {F H : Hp} {pa : Option Addr} {p : Pst} {σ : L2.St} {ρ : Sl} (gs : GS F H pa p) (s : SRel K F H p.g pa σ ρ) : ∃ F', Fz F p.g pa F' p.g pa ∧ GS F' H pa p ∧ SRel K F' H p.g pa σ (thaw ρ) := by
  let own : Addr → Prop := fun a => ∃ (i : Nat) (xs : List D), ρ[i]? = some (some (W.own xs)) ∧ σ[i]? = some (some (V.ref a))
  have hown : ∀ a, own a → F a = none ∧ pa ≠ some a ∧ ∃ o, H a = some o := fun a ⟨i, xs, h1, h2⟩ => by
    obtain ⟨v, e1, b, vs, rfl, z2, z3, z4, _⟩ := s.rep i _ h1
    rw [h2] at e1
    cases e1
    exact ⟨z3, z4, _, z2⟩
  have fz : Fz F p.g pa (fun a => if own a then H a else F a) p.g pa := ⟨fun a o h => by
    by_cases c : own a
    · rw [(hown a c).1] at h; cases h
    · simp only [c, if_false]; exact h, Nat.le_refl _, fun _ => rfl⟩
  refine ⟨_, fz, ⟨fun a o h => ?_, fun a h => ⟨(gs.pot a h).1, ?_⟩⟩, ⟨by rw [thaw, List.length_map]; exact s.len, fun i w h => ?_, fun i j xs ys v h1 => ?_⟩⟩
  · by_cases c : own a
    · simp only [c, if_true] at h; exact h
    · simp only [c, if_false] at h; exact gs.sub a o h
  · by_cases c : own a
    · exact absurd h (hown a c).2.1
    · simp only [c, if_false]; exact (gs.pot a h).2
  · obtain ⟨w0, h0, h⟩ := thaw_get h
    obtain ⟨v, e1, r⟩ := s.rep i _ h0
    refine ⟨v, e1, ?_⟩
    rcases h with ⟨xs, rfl, rfl⟩ | ⟨d, rfl, rfl⟩
    · obtain ⟨a, vs, rfl, h2, h3, h4, h5, h6⟩ := r
      have c : own a := ⟨i, xs, h0, e1⟩
      exact Rep.lst' (by simp only [c, if_true]; exact h2) h5 (h6.mono fz)
    · exact Rep.mono r fz
  · obtain ⟨w0, h0, h⟩ := thaw_get h1
    rcases h with ⟨_, _, z⟩ | ⟨_, _, z⟩ <;> cases z
def scal : D → Bool
  | .non | .bl _ | .int _ | .str _ => true
  | _ => false
theorem scal_rep {K : PySem.W.Frag} {F F' : Hp} {g g' : Nat} {pa pa' : Option Addr} {v : V} {d : D} (h : scal d = true) (r : Rep K F g pa v d) : Rep K F' g' pa' v d := by
  cases r <;> first | (cases h; done) | constructor
def mscal (m : M D) : M D := fun ρ p => match m (thaw ρ) p with
  | .ok d p' => if scal d = true then .ok d p' else .stuck
  | _ => .stuck
def mscalt (m : M Bool) : M Bool := fun ρ p => match m (thaw ρ) p with
  | .ok d p' => .ok d p'
  | _ => .stuck
theorem thaw_back {F F1 H F' H' : Hp} {g : Nat} {pa pa' : Option Addr} {p' : Pst} (fz : Fz F g pa F1 g pa) (gr : Gr F1 H g pa F' H' p'.g pa') (gs : GS F' H' pa' p') : Gr F H g pa F H' p'.g pa' ∧ GS F H' pa' p' :=
  ⟨⟨⟨fun _ _ h => h, gr.fz.gle, gr.fz.same⟩, fun a o h => .inl h, gr.keep, gr.there, gr.pot⟩, ⟨fun a o h => gs.sub a o (gr.fz.sub a o (fz.sub a o h)), fun a h => ⟨(gs.pot a h).1, by
    cases q : F a with
    | none => rfl
    | some o =>
      have z := (gs.pot a h).2
      rw [gr.fz.sub a o (fz.sub a o q)] at z
      cases z⟩⟩⟩
theorem pm_scal (h : PM X Wx e me) : PM X Wx e (mscal me) := ⟨h.pe.imp fun σ H Q ⟨F, pa, p, ρ, gs, s, o⟩ => by
  obtain ⟨F1, fz, gs1, s1⟩ := thaw_state gs s
  refine ⟨F1, pa, p, thaw ρ, gs1, s1, ?_⟩
  unfold mscal at o
  cases q : me (thaw ρ) p with
  | stuck => rw [q] at o; exact o
  | exc y p' => rw [q] at o; exact o.elim
  | ok d p' =>
    rw [q] at o
    simp only at o
    by_cases hd : scal d = true
    · rw [if_pos hd] at o
      intro F' H' pa' gr gs' v r
      obtain ⟨gr2, gs2⟩ := thaw_back fz gr gs'
      exact o F H' pa' gr2 gs2 v (scal_rep hd r)
    · rw [if_neg hd] at o; exact o.elim⟩
theorem pmt_scal (h : PMt X Wx e mt) : PMt X Wx e (mscalt mt) := ⟨h.pt.imp fun σ H Q ⟨F, pa, p, ρ, gs, s, o⟩ => by
  obtain ⟨F1, fz, gs1, s1⟩ := thaw_state gs s
  refine ⟨F1, pa, p, thaw ρ, gs1, s1, ?_⟩
  unfold mscalt at o
  cases q : mt (thaw ρ) p with
  | stuck => rw [q] at o; exact o
  | exc y p' => rw [q] at o; exact o.elim
  | ok d p' =>
    rw [q] at o
    intro F' H' pa' gr gs'
    obtain ⟨gr2, gs2⟩ := thaw_back fz gr gs'
    exact o F H' pa' gr2 gs2⟩

/-! ### several stores at once -/
def WF (K : PySem.W.Frag) (F H0 H : Hp) (g : Nat) (pa : Option Addr) (v : V) : W → Prop
  | .val d => Rep K F g pa v d
  | .own xs => ∃ a vs, v = .ref a ∧ H0 a = none ∧ H a = some (.lst vs) ∧ F a = none ∧ pa ≠ some a ∧ xs.length ≤ sizeLine ∧ Reps K F g pa vs xs
structure WReps (K : PySem.W.Frag) (F H0 H : Hp) (g : Nat) (pa : Option Addr) (vs : List V) (ws : List W) : Prop where
  rep : AllR (WF K F H0 H g pa) vs ws
  ne : ∀ (i j : Nat) xs ys v, ws[i]? = some (.own xs) → ws[j]? = some (.own ys) → vs[i]? = some v → vs[j]? = some v → i = j
def TMu (K : PySem.W.Frag) (mg : Str → Option Value) (Wx : WX) (m : M (List W)) : TA := fun σ H Q => At K mg Wx m σ H fun _ _ ws p' F' H' pa' => ∀ vs, WReps K F' H H' p'.g pa' vs ws → Q vs H'
structure PMu (X : Cx) (Wx : WX) (es : List Expr) (m : M (List W)) : Prop where
  pa : PA X es (TMu X.K X.mg Wx m)
theorem pmu_nil : PMu X Wx [] (mret []) := ⟨pa_nil.imp fun σ H Q ⟨F, pa, p, ρ, gs, s, o⟩ => o.ret gs _ ⟨.nil, fun i j xs ys v h => by cases h⟩⟩
def muV (ma : M D) (ms : M (List W)) : M (List W) := mbind ma fun d => mbind ms fun ws => mret (.val d :: ws)
def muO (ma : M (List D)) (ms : M (List W)) : M (List W) := mbind ma fun d => mbind ms fun ws => mret (.own d :: ws)
theorem WF.older {K : PySem.W.Frag} {F H0 H1 H : Hp} {g : Nat} {pa : Option Addr} {v : V} {w : W} (h : WF K F H1 H g pa v w) (t : ∀ a, H1 a = none → H0 a = none) : WF K F H0 H g pa v w := by
  cases w with
  | val d => exact h
  | own xs =>
    obtain ⟨a, vs, e, h0, r⟩ := h
    exact ⟨a, vs, e, t a h0, r⟩
theorem pmu_val {mu : M (List W)} (ha : PM X Wx e ma) (hr : PMu X Wx es mu) (hs : starEach (e :: es) X.env = (false, eval e X.env) :: starEach es X.env := by rfl) : PMu X Wx (e :: es) (muV ma mu) := ⟨(pa_cons ha.pe hr.pa hs).imp fun σ H Q ⟨F, pa, p, ρ, gs, s, o⟩ => by
  refine TM.of gs s (o.bind.mono fun d p1 F1 H1 pa1 gr1 gs1 o1 s1 v1 r1 => ?_)
  refine ⟨F1, pa1, p1, ρ, gs1, s1, o1.bind.mono fun ws p2 F2 H2 pa2 gr2 gs2 o2 vs rs => ?_⟩
  refine o2.ret gs2 _ ⟨.cons (show WF _ _ _ _ _ _ _ (.val d) from r1.mono gr2.fz) (rs.rep.mono fun v w h => h.older fun a z => gr1.free0 z), fun i j xs ys v h1 h2 h3 h4 => ?_⟩
  cases i with
  | zero => simp at h1
  | succ i =>
    cases j with
    | zero => simp at h2
    | succ j => simp at h1 h2 h3 h4; rw [rs.ne i j xs ys v h1 h2 h3 h4]⟩
theorem pmu_own {mu : M (List W)} (ha : PMo X Wx e mo) (hr : PMu X Wx es mu) (hs : starEach (e :: es) X.env = (false, eval e X.env) :: starEach es X.env := by rfl) : PMu X Wx (e :: es) (muO mo mu) := ⟨(pa_cons ha.pe hr.pa hs).imp fun σ H Q ⟨F, pa, p, ρ, gs, s, o⟩ => by
  refine ⟨F, pa, p, ρ, gs, s, o.bind.mono fun ds p1 F1 H1 pa1 gr1 gs1 o1 a vs0 h1 h2 h3 h4 h5 h6 => ?_⟩
  refine ⟨F1, pa1, p1, ρ, gs1, s.grow gr1, o1.bind.mono fun ws p2 F2 H2 pa2 gr2 gs2 o2 vs rs => ?_⟩
  have hF2 : F2 a = none := by
    cases q : F2 a with
    | none => rfl
    | some u =>
      rcases gr2.new _ _ q with z | z
      · rw [h3] at z; cases z
      · rw [h2] at z; cases z
  have hp2 : pa2 ≠ some a := fun z => by
    rcases gr2.pot with z2 | ⟨b, z2, hb⟩
    · exact h4 (by rw [← z2]; exact z)
    · rw [z2] at z; cases z; rw [h2] at hb; cases hb
  have later : ∀ (j : Nat) ys, ws[j]? = some (.own ys) → vs[j]? ≠ some (.ref a) := fun j ys q z => by
    obtain ⟨b, _, e, hb, _⟩ := rs.rep.2 j _ _ z q
    cases e
    rw [h2] at hb; cases hb
  refine o2.ret gs2 _ ⟨.cons (show WF _ _ _ _ _ _ _ (.own ds) from ⟨a, vs0, rfl, h1, gr2.keep _ _ h2 h4, hF2, hp2, h5, h6.mono gr2.fz⟩) (rs.rep.mono fun v w h => h.older fun a z => gr1.free0 z), fun i j xs ys v q1 q2 q3 q4 => ?_⟩
  cases i with
  | zero =>
    cases j with
    | zero => rfl
    | succ j => simp at q1 q2 q3 q4; subst q3; exact absurd q4 (later j ys q2)
  | succ i =>
    cases j with
    | zero => simp at q1 q2 q3 q4; subst q4; exact absurd q3 (later i xs q1)
    | succ j => simp at q1 q2 q3 q4; rw [rs.ne i j xs ys v q1 q2 q3 q4]⟩
def setsS : List Nat → List W → Sl → Sl
  | i :: is, w :: ws, ρ => setsS is ws (ρ.set i (some w))
  | _, _, ρ => ρ
def setsV : List Nat → List V → L2.St → L2.St
  | i :: is, v :: vs, σ => setsV is vs (σ.set i (some v))
  | _, _, σ => σ
def WFr (K : PySem.W.Frag) (En : Ent) (F H : Hp) (g : Nat) (pa : Option Addr) (v : V) : W → Prop
  | .val d => Rep K F g pa v d
  | .own xs => ∃ a vs, v = .ref a ∧ En.H a = none ∧ H a = some (.lst vs) ∧ F a = none ∧ pa ≠ some a ∧ xs.length ≤ sizeLine ∧ Reps K F g pa vs xs
theorem SS.sets {K : PySem.W.Frag} {F H : Hp} {pa : Option Addr} {p : Pst} : ∀ (is : List Nat) (vs : List V) (ws : List W) (σ : L2.St) (ρ : Sl), SS K En F H pa p σ ρ → AllR (WFr K En F H p.g pa) vs ws →
    (∀ (i j : Nat) xs ys v, ws[i]? = some (.own xs) → ws[j]? = some (.own ys) → vs[i]? = some v → vs[j]? = some v → i = j) →
    (∀ (k j : Nat) xs ys v, ws[k]? = some (.own xs) → vs[k]? = some v → ρ[j]? = some (some (.own ys)) → σ[j]? ≠ some (some v)) → SS K En F H pa p (setsV is vs σ) (setsS is ws ρ) := by
  intro is
  induction is with
  | nil => intro vs ws σ ρ s _ _ _; cases vs <;> cases ws <;> exact s
  | cons i is ih =>
    intro vs ws σ ρ s r hne hfr
    rcases r.cases with ⟨rfl, rfl⟩ | ⟨v, w, vs', ws', rfl, rfl, r1, r2⟩
    · exact s
    · simp only [setsV, setsS]
      have hne' : ∀ (a b : Nat) xs ys u, ws'[a]? = some (.own xs) → ws'[b]? = some (.own ys) → vs'[a]? = some u → vs'[b]? = some u → a = b := fun a b xs ys u h1 h2 h3 h4 => by
        have := hne (a + 1) (b + 1) xs ys u (by simpa using h1) (by simpa using h2) (by simpa using h3) (by simpa using h4)
        omega
      have hfr' : ∀ (k j : Nat) xs ys u, ws'[k]? = some (.own xs) → vs'[k]? = some u → (ρ.set i (some w))[j]? = some (some (.own ys)) → (σ.set i (some v))[j]? ≠ some (some u) := fun k j xs ys u h1 h2 h3 h4 => by
        rw [List.getElem?_set] at h3 h4
        by_cases e : i = j
        · rw [if_pos e] at h3 h4
          split at h3
          · split at h4
            · cases h3; cases h4
              have := hne 0 (k + 1) ys xs v rfl (by simpa using h1) rfl (by simpa using h2)
              omega
            · cases h4
          · cases h3
        · rw [if_neg e] at h3 h4
          exact hfr (k + 1) j xs ys u (by simpa using h1) (by simpa using h2) h3 h4
      refine ih vs' ws' _ _ ?_ r2 hne' hfr'
      cases w with
      | val d => exact s.set r1 i
      | own xs =>
        obtain ⟨a, us, rfl, h1, h2, h3, h4, h5, h6⟩ := r1
        exact s.setO (H0 := H) i h1 (fun j ys q => hfr 0 j xs ys _ rfl rfl q) h2 h3 h4 h5 h6
def casgW (is : List Nat) (mu : M (List W)) : C := eout mu fun ws ρ p => if ws.length = is.length then .nx (setsS is ws ρ) p else .stuck
theorem tmu_s {K : PySem.W.Frag} {mg : Str → Option Value} {F H : Hp} {pa : Option Addr} {p : Pst} {σ : L2.St} {ρ : Sl} {Dn : Ends} {is : List Nat} {mu : M (List W)} {Q : List V → Hp → Prop} (s : SS K En F H pa p σ ρ) (o : SOut K mg En Wx F p.g pa Dn (casgW is mu ρ p))
    (h : ∀ vs ws p' F' H' pa', SS K En F' H' pa' p' σ ρ → Fz F p.g pa F' p'.g pa' → vs.length = is.length → SS K En F' H' pa' p' (setsV is vs σ) (setsS is ws ρ) → SOut K mg En Wx F' p'.g pa' Dn (.nx (setsS is ws ρ) p') → Q vs H') : TMu K mg Wx mu σ H Q :=
  ⟨F, pa, p, ρ, s.gs, s.sr, (o.expr s).mono fun ws p' F' H' pa' gr gs ⟨s', o'⟩ vs r => by
    by_cases hc : ws.length = is.length
    · rw [if_pos hc] at o'
      refine h vs ws p' F' H' pa' s' gr.fz (by rw [r.rep.1]; exact hc) (SS.sets is vs ws σ ρ s' (r.rep.mono fun v w q => ?_) r.ne fun k j xs ys v h1 h2 h3 h4 => ?_) o'
      · cases w with
        | val d => exact q
        | own xs =>
          obtain ⟨a, us, rfl, z1, z⟩ := q
          exact ⟨a, us, rfl, s.gr.enter z1, z⟩
      · obtain ⟨a, us, rfl, z1, z⟩ := r.rep.2 k _ _ h2 h1
        exact fresh_ne s z1 j ys h3 h4
    · rw [if_neg hc] at o'; exact o'.elim⟩
theorem cs_par {i j : Nat} {mu : M (List W)} (h : PS X st (tPar i j (TMu X.K X.mg Wx mu))) : PMs X En Wx st (casgW [i, j] mu) := ⟨h.imp fun Dn σ H ⟨F, pa, p, ρ, s, o⟩ => tmu_s s o fun vs ws p' F' H' pa' s' fz hl s2 o2 => by
  match vs, hl with
  | [v, w], _ => exact ⟨v, w, rfl, o2 _ F' H' pa' .refl s2⟩⟩
theorem cs_par3 {i j l : Nat} {mu : M (List W)} (h : PS X st (tPar3 i j l (TMu X.K X.mg Wx mu))) : PMs X En Wx st (casgW [i, j, l] mu) := ⟨h.imp fun Dn σ H ⟨F, pa, p, ρ, s, o⟩ => tmu_s s o fun vs ws p' F' H' pa' s' fz hl s2 o2 => by
  match vs, hl with
  | [v, w, u], _ => exact ⟨v, w, u, rfl, o2 _ F' H' pa' .refl s2⟩⟩
def gNs : List Nat → TGs
  | [] => gNil
  | i :: is => gCons (gName i) (gNs is)
theorem gNs_of : ∀ (is : List Nat) (vs : List V) (σ : L2.St) (H : Hp) (Q : L2.St → Hp → Prop), vs.length = is.length → Q (setsV is vs σ) H → gNs is vs σ H Q
  | [], [], σ, H, Q, _, h => ⟨rfl, h⟩
  | i :: is, v :: vs, σ, H, Q, hl, h => ⟨v, vs, rfl, gNs_of is vs _ H Q (by simpa using hl) h⟩
theorem cs_parT {is : List Nat} {n : Nat} {mu : M (List W)} (hn : is.length = n) (hz : n ≤ 4096) (h : PS X st (tAsg (tTup (TMu X.K X.mg Wx mu)) (gTup X.K n (gNs is)))) : PMs X En Wx st (casgW is mu) := ⟨h.imp fun Dn σ H ⟨F, pa, p, ρ, s, o⟩ => tmu_s s o fun vs ws p' F' H' pa' s' fz hl s2 o2 => by
  refine ⟨by rw [hl, hn]; exact lim_size hz, fun q hq => ⟨q, vs, rfl, SqT.of upd_same, by rw [hl, hn], gNs_of is vs σ _ _ hl ?_⟩⟩
  exact o2 _ F' _ pa' .refl (s2.grow (Gr.allocO hq) (s2.gs.allocO hq))⟩
end
end PF

namespace PF
open PySem PySem.Spec PyProof.Rows L2

section
variable {X : Cx} {En : Ent} {Wx : WX} {st : Stmt} {sts : List Stmt} {m m' : C} {ms mi : M (List D)} {e a b c : Expr} {me ma mb : M D} {mo mo' : M (List D)} {mt : M Bool} {pos : Pos} {i : Nat} {x : Str} {es : List Expr}
/-! ### fresh lists by operators -/
def OpSo (X : Cx) (r : R2) (op : D → D → Option (List D)) : Prop := ∀ (x y : V) (d e : D) (z : List D) (F H : Hp) (p : Pst) (pa : Option Addr) (Q : VK), GS F H pa p → Rep X.K F p.g pa x d → Rep X.K F p.g pa y e → op d e = some z →
  (∀ q vs, H q = none → z.length ≤ sizeLine → Reps X.K F p.g pa vs z → Q (.ref q) (upd H q (.lst vs))) → r x y H Q
def mOpo (op : D → D → Option (List D)) (ma mb : M D) : M (List D) := mbind ma fun x => mbind mb fun y => mopt (op x y)
theorem pmo_op {op : Operator} {r : R2} {f : D → D → Option (List D)} (ho : OpR X (binaryOp op) r) (hs : OpSo X r f) (ha : PM X Wx a ma) (hb : PM X Wx b mb) : PMo X Wx (.BinOp a op b pos) (mOpo f ma mb) := ⟨(pe_op ho ha.pe hb.pe).imp fun σ H Q ⟨F, pa, p, ρ, gs, s, o⟩ => by
  refine TM.of gs s ((Out.bindS .refl o).mono fun d p1 F1 H1 pa1 gr1' gs1 ⟨gr1, o1⟩ s1 v1 r1 => ?_)
  refine TM.of gs1 s1 ((Out.bindS gr1 o1).mono fun y p2 F2 H2 pa2 gr2' gs2 ⟨gr2, o2⟩ s2 v2 r2 => ?_)
  obtain ⟨z, ez, o3⟩ := o2.opt
  refine hs v1 v2 d y z F2 H2 p2 pa2 Q gs2 (r1.mono gr2'.fz) r2 ez fun q vs hq hz rs => ?_
  exact o3 F2 _ pa2 (gr2.trans (Gr.allocO hq)) (gs2.allocO hq) q vs (gr2.free0 hq) upd_same (gs2.fnone hq) (gs2.pne hq) hz rs⟩
def dAddO : D → D → Option (List D)
  | .lst xs, .lst ys => if xs.length + ys.length ≤ sizeLine then some (xs ++ ys) else none
  | _, _ => none
theorem opso_cat : OpSo X rCat dAddO := by
  intro x y d e z F H p pa Q gs rx ry ez k
  cases d <;> cases e <;> first | (simp [dAddO] at ez; done) | skip
  simp only [dAddO] at ez
  split at ez
  · rename_i hc
    simp only [Option.some.injEq] at ez
    subst ez
    obtain ⟨l, xs, rfl, hl, hz1, r1⟩ := rx.lstH gs
    obtain ⟨m, ys, rfl, hm, hz2, r2⟩ := ry.lstH gs
    refine ⟨l, m, xs, ys, rfl, rfl, hl, hm, by rw [r1.1, r2.1]; exact hc, fun q hq => ?_⟩
    exact k _ _ hq (by rw [List.length_append]; exact hc) (AllR.append r1 r2)
  · cases ez
theorem pmo_add (ha : PM X Wx a ma) (hb : PM X Wx b mb) : PMo X Wx (.BinOp a .Add b pos) (mOpo dAddO ma mb) := pmo_op op_cat opso_cat ha hb
def dRepO : D → D → Option (List D)
  | .lst xs, .int k => if -(2 ^ 63) ≤ k ∧ k < 2 ^ 63 ∧ xs.length * k.toNat ≤ sizeLine then some (List.replicate k.toNat xs).flatten else none
  | _, _ => none
theorem opso_rep : OpSo X rRep dRepO := by
  intro x y d e z F H p pa Q gs rx ry ez k
  cases d <;> cases e <;> first | (simp [dRepO] at ez; done) | skip
  simp only [dRepO] at ez
  split at ez
  · rename_i hc
    simp only [Option.some.injEq] at ez
    subst ez
    cases ry
    obtain ⟨l, xs, rfl, hl, hz1, r1⟩ := rx.lstH gs
    refine ⟨l, _, xs, rfl, rfl, hl, hc.1, hc.2.1, by rw [r1.1]; exact hc.2.2, fun q hq => ?_⟩
    exact k _ _ hq (by simpa [Nat.mul_comm] using hc.2.2) (AllR.rep r1 _)
  · cases ez
theorem pmo_mul (ha : PM X Wx a ma) (hb : PM X Wx b mb) : PMo X Wx (.BinOp a .Mult b pos) (mOpo dRepO ma mb) := pmo_op op_rep opso_rep ha hb
theorem pmo_if (hc : PMt X Wx c mt) (ha : PMo X Wx a mo) (hb : PMo X Wx b mo') : PMo X Wx (.IfExp c a b pos) (mIf mt mo mo') := ⟨(pe_ifExp hc.pt ha.pe hb.pe).imp fun σ H Q ⟨F, pa, p, ρ, gs, s, o⟩ => by
  refine ⟨F, pa, p, ρ, gs, s, o.bind.mono fun k p1 F1 H1 pa1 gr1 gs1 o1 => ?_⟩
  cases k with
  | true =>
    simp only [if_true] at o1 ⊢
    refine ⟨F1, pa1, p1, ρ, gs1, s.grow gr1, Out.mono o1 fun ds p2 F2 H2 pa2 gr2 gs2 h a vs h1 => h a vs (gr1.free0 h1)⟩
  | false =>
    simp only [Bool.false_eq_true, if_false] at o1 ⊢
    refine ⟨F1, pa1, p1, ρ, gs1, s.grow gr1, Out.mono o1 fun ds p2 F2 H2 pa2 gr2 gs2 h a vs h1 => h a vs (gr1.free0 h1)⟩⟩

/-! ### the pot is made -/
def cretpot (ms : M (List D)) : C := eout ms fun ds _ p => match ds with
  | [.int a, .int b] => .rt (.pot (p.g + 1)) false ⟨p.g + 1, a, b⟩
  | _ => .stuck
theorem cs_retpot {lp : Pos} (h : PMa X Wx es ms) : PMs X En Wx (.Return (some (.List es lp)) pos) (cretpot ms) := ⟨(ps_ret (pe_lst h.pa)).imp fun Dn σ H ⟨F, pa, p, ρ, s, o⟩ => by
  refine ⟨F, pa, p, ρ, s.gs, s.sr, (o.expr s).mono fun ds p' F' H' pa' gr gs ⟨s', o'⟩ vs rs => ?_⟩
  split at o' <;> first | exact o'.elim | skip
  obtain ⟨v, w, rfl, r1, r2⟩ := reps2 rs
  cases r1; cases r2
  refine ⟨by show 2 ≤ sizeLine; exact two_line, fun q hq => ?_⟩
  have gs2 := s'.gs
  have hF : F' q = none := gs2.fnone hq
  have hz : ∀ a o, F' a = some o → a ≠ q := fun a o h e => by rw [e, hF] at h; cases h
  refine o' _ F' _ (some q) ⟨fun _ _ h => h, Nat.le_succ _, fun z => absurd z (Nat.ne_of_lt (Nat.lt_succ_self _))⟩ ?_ ⟨fun a o h => ?_, fun a h => ?_⟩ (show Rep _ _ _ _ _ _ from .pot (Nat.le_refl _) fun _ => ⟨q, rfl, rfl⟩)
  · have gr0 := s'.gr
    refine Gr.trans gr0 ⟨⟨fun _ _ h => h, Nat.le_succ _, fun z => absurd z (Nat.ne_of_lt (Nat.lt_succ_self _))⟩, fun a o h => .inl h, fun a o h _ => ?_, fun a o h => ?_, .inr ⟨q, rfl, hq⟩⟩
    · rw [upd_ne (ne_of_none h hq)]; exact h
    · exact ⟨o, by rw [upd_ne (ne_of_none h hq)]; exact h⟩
  · rw [upd_ne (hz a o h)]; exact gs2.sub a o h
  · cases h
    exact ⟨upd_same, hF⟩⟩
end

/-! ### the def -/
def sres (r : SRes) : FRes := match r with
  | .nx _ p => .ok .non false p
  | .rt d fr p => .ok d fr p
  | .exc x _ p => .exc x p
  | _ => .stuck
/-- what a def with n slots and k parameters does -/
def fres (n k : Nat) (c : C) : Fn := fun ds p => if ds.length = k then sres (c (ds.map (fun d => some (W.val d)) ++ List.replicate (n - k) none) p) else .stuck
abbrev EX (E : XK) : WX := fun cls d _ H => E cls d H
/-- the body within its context -/
def BodyOk (P : Program) (w : World) (K : PySem.W.Frag) (mg : Str → Option Value) (base : Heap) (k : Nat) (qual : Str) (body : List Stmt) (scope : Scope) (N : List Str) (c : C) : Prop :=
  ∀ (f : Addr) (cdv : Value) (A : Around) (outer : List Env) (s : Shared) (H : Hp) (E : XK) (En : Ent), Room k (A.deeper (envOfC qual scope s.heap.objs.size f cdv)) → (A.deeper (envOfC qual scope s.heap.objs.size f cdv)).guards = some [] →
    PMss (cxOf (L2.CX P w) P w K mg base N qual scope f cdv A outer s H E) En (EX E) body c
theorem srel_start {K : PySem.W.Frag} {F H : Hp} {g : Nat} {pa : Option Addr} {vs : List V} {ds : List D} {N : List Str} {k : Nat} (r : Reps K F g pa vs ds) (hk : ds.length = k) : SRel K F H g pa (L2.start N vs) (ds.map (fun d => some (W.val d)) ++ List.replicate (N.length - k) none) := by
  have hl : vs.length = ds.length := r.1
  unfold L2.start
  have key : ∀ (i : Nat) w, (ds.map (fun d => some (W.val d)) ++ List.replicate (N.length - k) none)[i]? = some (some w) → ∃ d, ds[i]? = some d ∧ w = .val d := fun i w h => by
    by_cases hi : i < ds.length
    · rw [List.getElem?_append_left (by simpa using hi), List.getElem?_map] at h
      cases q : ds[i]? with
      | none => rw [q] at h; cases h
      | some d => rw [q] at h; cases h; exact ⟨d, rfl, rfl⟩
    · rw [List.getElem?_append_right (by simpa using hi), List.getElem?_replicate] at h
      split at h <;> cases h
  refine ⟨by simp [hl, hk], fun i w h => ?_, fun i j xs ys v h => ?_⟩
  · obtain ⟨d, hd, rfl⟩ := key i w h
    obtain ⟨v, hv, rv⟩ := r.get hd
    refine ⟨v, ?_, rv⟩
    rw [List.getElem?_append_left (by have := (List.getElem?_eq_some_iff.mp hv).1; simpa using this), List.getElem?_map, hv]
    rfl
  · obtain ⟨d, hd, e⟩ := key i _ h
    cases e
theorem fnx {P : Program} {w : World} {K : PySem.W.Frag} {mg : Str → Option Value} {base : Heap} {x : Str} {params : Arguments} {body : List Stmt} {scope : Scope} {f : Addr} {fd : FuncData} {N ps : List Str} {k : Nat} {c : C}
    (F : FunD K x x params body scope [] [] f fd) (hm : mg x = some (.ref f)) (S : FnScope N ps scope) (hb : BodyOk P w K mg base k x body scope N c) : FnX P w K mg base x params (k + 1) ps (fres N.length ps.length c) := by
  obtain ⟨oc, od, dV, kV, doc, pm, an, cdv, ct, osl, rfl, lk, hcd, hD, _⟩ := F.ex
  obtain rfl : dV = .none := by
    rcases hD with ⟨_, h⟩ | ⟨h, _⟩
    · exact h
    · exact absurd rfl h
  refine ⟨f, _, hm, F.kp, ⟨body, scope, kV, doc, pm, an, cdv, ct, rfl⟩, ⟨fun ds p h => ?_, fun A outer s H args us vs ds Fz0 pa p Q E hr hgd e0 hbt rv gs rs o => ?_⟩⟩
  · unfold fres at h
    by_cases hc : ds.length = ps.length
    · exact hc
    · rw [if_neg hc] at h; exact absurd rfl h
  · have hc : ds.length = ps.length := by
      by_cases hc : ds.length = ps.length
      · exact hc
      · unfold fres at o; rw [if_neg hc] at o; exact o.elim
    unfold fres at o
    rw [if_pos hc] at o
    refine LamX.run_ofS (N := N) lk hcd S hr e0 hbt rv (by rw [rs.1]; exact hc) fun hr' => ?_
    let En : Ent := ⟨Fz0, H, p.g, pa⟩
    refine ⟨_, (hb f cdv A outer s H E En hr' (by show A.guards = some []; exact hgd)).ps, Fz0, pa, p, _, ⟨.refl, gs, srel_start rs hc, fun i xs v h => ?_⟩, ?_⟩
    · have := (srel_start (H := H) rs hc).rep i _ h
      exfalso
      have key : ∀ (i : Nat) w, (ds.map (fun d => some (W.val d)) ++ List.replicate (N.length - ps.length) none)[i]? = some (some w) → ∃ d, w = .val d := fun i w h => by
        by_cases hi : i < ds.length
        · rw [List.getElem?_append_left (by simpa using hi), List.getElem?_map] at h
          cases q : ds[i]? with
          | none => rw [q] at h; cases h
          | some d => rw [q] at h; cases h; exact ⟨d, rfl⟩
        · rw [List.getElem?_append_right (by simpa using hi), List.getElem?_replicate] at h
          split at h <;> cases h
      obtain ⟨d, e⟩ := key i _ h
      cases e
    · cases q : c (ds.map (fun d => some (W.val d)) ++ List.replicate (N.length - ps.length) none) p with
      | nx ρ' p' =>
        rw [q] at o
        exact fun σ' F' H' pa' fz s' => o .non F' H' pa' s'.gr s'.gs (show Rep _ _ _ _ _ _ from .non)
      | rt d fr p' =>
        rw [q] at o
        exact fun v F' H' pa' fz gr gs' r => o v F' H' pa' gr gs' r
      | exc y ρ' p' =>
        rw [q] at o
        exact fun cls dd σ' F' H' pa' fz s' r => o cls dd F' H' pa' s'.gr s'.gs r
      | bk ρ' p' => rw [q] at o; exact o.elim
      | ct ρ' p' => rw [q] at o; exact o.elim
      | stuck => rw [q] at o; exact o.elim
end PF

namespace PF
open PySem PySem.Spec PyProof.Rows L2

mutual
theorem noDict_pl : ∀ d : D, pl d = true → (toPy d).hasDict = false
  | .non, _ => by simp [toPy, PyData.hasDict]
  | .bl _, _ => by simp [toPy, PyData.hasDict]
  | .int _, _ => by simp [toPy, PyData.hasDict]
  | .str _, _ => by simp [toPy, PyData.hasDict]
  | .lst xs, h => by simp only [toPy, PyData.hasDict]; exact noDict_pls xs (by simpa [pl] using h)
  | .tup xs, h => by simp only [toPy, PyData.hasDict]; exact noDict_pls xs (by simpa [pl] using h)
  | .scr _, h => by simp [pl] at h
  | .pot _, h => by simp [pl] at h
  | .emp, h => by simp [pl] at h
theorem noDict_pls : ∀ ds : List D, pls ds = true → PyData.hasDictAll (toPys ds) = false
  | [], _ => by simp [toPys, PyData.hasDictAll]
  | x :: xs, h => by
    simp only [pls, Bool.and_eq_true] at h
    simp only [toPys, PyData.hasDictAll, Bool.or_eq_false_iff]
    exact ⟨noDict_pl x h.1, noDict_pls xs h.2⟩
end
def okRepr (d : D) : Bool := pl d && (toPy d).showable && decide ((toPy d).shown.length ≤ sizeLine) && decide (dep d ≤ 60)
theorem okRepr_iff {d : D} : okRepr d = true ↔ pl d = true ∧ (toPy d).showable = true ∧ (toPy d).shown.length ≤ sizeLine ∧ dep d ≤ 60 := by
  unfold okRepr
  simp only [Bool.and_eq_true, decide_eq_true_eq, and_assoc]
def rtext (d : D) : Str := (toPy d).shown
def dReprF : List D → Option D
  | [d] => if okRepr d = true then some (.str (rtext d)) else none
  | _ => none
def rReprD (X : Cx) : List V → Hp → VK → Prop := fun xs H Q => ∃ v d, xs = [v] ∧ okRepr d = true ∧ Dp X.K H v (toPy d) ∧ Q (.str (rtext d)) H
section
variable {X : Cx} {Wx : WX} {e : Expr} {m : M D}
theorem call_reprD (hu : Un X) (hg : X.A.guards = some []) : CallR X (.builtin "repr") (rReprD X) := by
  intro pins s σ H xs us Q I r h
  obtain ⟨v, d, rfl, hd, dp, q⟩ := h
  obtain ⟨h1, h2, h3, h4⟩ := okRepr_iff.mp hd
  have hu' : X.A.units + 65 < cLine := hu
  obtain ⟨u, rfl, ru⟩ : ∃ u, us = [u] ∧ L2.RelV v u := by
    cases r with
    | cons r r2 => cases r2; exact ⟨_, rfl, r⟩
  cases d with
  | non =>
    simp only [toPy] at dp
    cases dp
    cases ru
    exact PySem.P.repr_of_none ⟨.str (rtext .non), H, I.tok _, ⟨_, rfl⟩, q⟩
  | bl b =>
    simp only [toPy] at dp
    cases dp
    cases ru
    exact PySem.P.repr_of_bool ⟨.str (rtext (.bl b)), H, I.tok _, ⟨_, by cases b <;> rfl⟩, q⟩
  | int i =>
    simp only [toPy] at dp
    cases dp
    obtain ⟨t, rfl⟩ := ru
    have h5 : i.natAbs.log2 < 1920 := by simpa [toPy, PyData.showable] using h2
    exact PySem.P.repr_of_int h5 ⟨.str (rtext (.int i)), H, I.tok _, ⟨_, rfl⟩, q⟩
  | str x =>
    simp only [toPy] at dp
    cases dp
    obtain ⟨t, rfl⟩ := ru
    exact PySem.P.repr_of_str ⟨.str (rtext (.str x)), H, I.tok _, ⟨_, rfl⟩, q⟩ (by simpa [toPy, PyData.shown] using h3)
  | scr ns => simp [pl] at h1
  | pot k => simp [pl] at h1
  | emp => simp [pl] at h1
  | lst xs =>
    obtain ⟨as, rd⟩ := Dp.reads I _ v u dp ru
    simp only [toPy] at dp
    cases dp
    cases ru
    refine PySem.repr_of_reads' rd h2 (fun z => ?_) hg ?_ (fun _ _ z => z) (fun h' u' tk hk => ⟨.str (rtext _), H, I.kept (h' := h') (t' := tk) hk, ⟨u', rfl⟩, q⟩) h3
    · rw [noDict_pl _ h1] at z; cases z
    · rw [depth_dep _ h1]; omega
  | tup xs =>
    obtain ⟨as, rd⟩ := Dp.reads I _ v u dp ru
    simp only [toPy] at dp
    cases dp
    cases ru
    refine PySem.repr_of_reads' rd h2 (fun z => ?_) hg ?_ (fun _ _ z => z) (fun h' u' tk hk => ⟨.str (rtext _), H, I.kept (h' := h') (t' := tk) hk, ⟨u', rfl⟩, q⟩) h3
    · rw [noDict_pl _ h1] at z; cases z
    · rw [depth_dep _ h1]; omega
theorem calls_repr : CallS X (rReprD X) dReprF := by
  intro xs ds z F H p pa Q gs rs ez k
  unfold dReprF at ez
  split at ez <;> first | (cases ez; done) | skip
  split at ez <;> first | (cases ez; done) | skip
  rename_i d hd
  obtain ⟨v, rfl, r⟩ := reps1 rs
  simp only [Option.some.injEq] at ez
  subst ez
  exact ⟨v, d, rfl, hd, r.dp gs.sub (okRepr_iff.mp hd).1, k _ _ _ .refl gs (.str _)⟩
end
end PF

namespace PF
open PySem PySem.Spec PyProof.Rows L2

/-! ### the law's own call -/
section
variable {P : Program} {w : World} {K : PySem.W.Frag} {mg mb : Str → Option Value} {k : Nat} {fa a : Addr} {s₁ : Shared} {vs : List Value} {ns : List Int} {params : Arguments} {G : Fn} {x y : Str}
/-- at a heap H that tracks the script alone (or nothing) -/
theorem law_at {H : Hp} (hns : s₁.heap.Ns mainGlobals mg) (hb : s₁.heap.Ns builtinsNs mb) (hbb : ∀ x : Str, x ≠ "__name__" → mb x = bootBuiltins x) (hlim : s₁.heap.NoLimit) (hg : s₁.gens = #[])
    (ha : s₁.heap.get? a = some { cls := .type "list", data := .seq vs.toArray }) (KX : K.In s₁.heap) (hr : Room k callerA) (F : ∀ base : Heap, K.In base → base.Ns mainGlobals mg → FnX P w K mg base y params k [x] G) (hmg : mg y = some (.ref fa)) (hbd : Bd y params [x] 1 [] [0])
    (hG : ∃ p', G [.scr ns] ⟨0, 0, 0⟩ = .ok (.bl true) false p') (hS : SqL K H a (ns.map V.int)) (hok : HOk P w H s₁.heap) (only : ∀ b u, H b = some u → b = a ∧ K.lookup a = none ∧ ∃ o xs, u = .frz o (.lst xs)) :
    codeAny (model P w) callerA (.call (.ref fa) ⟨[.ref a], []⟩) (fun r s' => r = .ok (.ret (.bool true)) ∧ OldK s₁.heap s'.heap ∧ s'.os = s₁.os ∧ AllBare s'.gens) s₁ := by
  have free : ∀ {b : Addr} {o : Obj}, s₁.heap.get? b = some o → o ≠ { cls := .type "list", data := .seq vs.toArray } → H b = none := fun {b o} e hne => by
    cases q : H b with
    | none => rfl
    | some u =>
      obtain ⟨rfl, _⟩ := only b u q
      rw [ha] at e
      exact absurd (Option.some.inj e).symm hne
  have ns2 : ∀ {b : Addr} {m : Str → Option Value}, s₁.heap.Ns b m → (hidT s₁.heap H).Ns b m := fun {b m} ⟨o, es, ep, e, d, r⟩ =>
    ⟨o, es, ep, hidT_get e (free e fun z => by rw [z] at d; exact nomatch d), d, r⟩
  have kin : K.In (hidT s₁.heap H) := fun b o e => hidT_get (KX b o e) (by
    cases q : H b with
    | none => rfl
    | some u =>
      obtain ⟨rfl, z, _⟩ := only b u q
      rw [z] at e; exact nomatch e)
  obtain ⟨mc, hc1, hc2⟩ := hlim
  have e0 : Env0 P w K mg (hidT s₁.heap H) callerA [] s₁ H :=
    { frames := rfl, mod := ⟨kin, ns2 hns, ⟨mb, ns2 hb, hbb⟩, ⟨mc, ns2 hc1, hc2⟩⟩, bs := fun b o e => of_hidT e, bsz := Nat.le_of_eq (hidT_size _ _), funs := trivial, frf := fun b hb => (nomatch (show b ∈ ([] : List Addr) from hb)), hok := hok, bare := .of_eq hg }
  obtain ⟨f, fd, hm, hk, ⟨body, scope, kV, doc, pm, an, cdv, ct, rfl⟩, Fm⟩ := (F _ kin (ns2 hns)).ex
  rw [hmg] at hm
  cases hm
  obtain ⟨p', hp⟩ := hG
  have hbt : BindsTo s₁ (PySem.W.fnOf y y params body scope .none kV doc pm an cdv ct) ⟨[.ref a], []⟩ ([x].zip [.ref a]) := .of_eq (hbd _ _ _ _ _ _ _ _ [.ref a] [] rfl rfl)
  refine codeAny_mono (Fm.run callerA [] s₁ H _ [.ref a] [.ref a] [.scr ns] H none ⟨0, 0, 0⟩ (fun v _ => v = .bl true) (fun _ _ _ => False) hr rfl e0 hbt (.cons rfl .nil) ⟨fun _ _ h => h, fun _ h => nomatch h⟩ (.cons (.scr hS) .nil) ?_) fun r s' h => ?_
  · rw [hp]
    intro v F' H' pa' _ _ r
    cases (show Rep _ _ _ _ v (.bl true) from r)
    rfl
  · match r, h with
    | .error e, h =>
      obtain ⟨_, _, _, _, _, _, _, _, _, _, _, _, h⟩ := h
      exact h.elim
    | .ok .next, h => exact False.elim h
    | .ok .brk, h => exact False.elim h
    | .ok .cont, h => exact False.elim h
    | .ok (.ret u), h =>
      obtain ⟨v, H', os, bare, un, hok', r', q⟩ := h
      obtain rfl : v = .bl true := q
      obtain rfl : u = Value.bool true := r'
      refine ⟨rfl, OldK.of_keep fun b o e => ?_, os, bare⟩
      cases q : H b with
      | none => exact un.keep b o e q (fun z => nomatch (show b ∈ ([] : List Addr) from z)) (fun z => nomatch z)
      | some u =>
        obtain ⟨rfl, _, ob, xs, rfl⟩ := only b u q
        obtain ⟨e1, _⟩ := hok _ _ q
        obtain ⟨e2, _⟩ := hok' _ _ (un.frzs _ _ _ q)
        rw [e] at e1
        cases e1
        exact e2
theorem law_run (hns : s₁.heap.Ns mainGlobals mg) (hb : s₁.heap.Ns builtinsNs mb) (hbb : ∀ x : Str, x ≠ "__name__" → mb x = bootBuiltins x) (hlim : s₁.heap.NoLimit) (hg : s₁.gens = #[])
    (ha : s₁.heap.get? a = some { cls := .type "list", data := .seq vs.toArray }) (hi : IntsAre vs ns) (hl : ns.length ≤ sizeLine) (KX : K.In s₁.heap) (hr : Room k callerA) (F : ∀ base : Heap, K.In base → base.Ns mainGlobals mg → FnX P w K mg base y params k [x] G) (hmg : mg y = some (.ref fa)) (hbd : Bd y params [x] 1 [] [0])
    (hG : ∃ p', G [.scr ns] ⟨0, 0, 0⟩ = .ok (.bl true) false p') :
    codeAny (model P w) callerA (.call (.ref fa) ⟨[.ref a], []⟩) (fun r s' => r = .ok (.ret (.bool true)) ∧ OldK s₁.heap s'.heap ∧ s'.os = s₁.os ∧ AllBare s'.gens) s₁ := by
  have rv := vals_ints hi
  cases hk : K.lookup a with
  | some o =>
    have e := KX a o hk
    rw [ha] at e
    cases e
    exact law_at (H := fun _ => none) hns hb hbb hlim hg ha KX hr F hmg hbd hG (.inr ⟨_, vs.toArray, _, hk, rfl, rfl, rfl, by rw [List.size_toArray, hi.length]; exact hl, by simpa using rv⟩) (fun b u z => nomatch z) fun b u z => nomatch z
  | none =>
    refine law_at (H := upd (fun _ => none) a (.frz { cls := .type "list", data := .seq vs.toArray } (.lst (ns.map V.int)))) hns hb hbb hlim hg ha KX hr F hmg hbd hG (.inl (.inr ⟨_, upd_same⟩)) (fun b u z => ?_) fun b u z => ?_
    · by_cases hb : b = a
      · subst hb
        rw [upd_same] at z
        cases z
        exact ⟨ha, by rw [List.length_map]; exact hl, vs, _, rv, ha⟩
      · rw [upd_ne hb] at z; cases z
    · by_cases hb : b = a
      · subst hb
        rw [upd_same] at z
        cases z
        exact ⟨rfl, hk, _, _, rfl⟩
      · rw [upd_ne hb] at z; cases z
end
/-- the goal that the head leaves -/
theorem law_walk {l : PySem.W.OpenLaw} {n k : Nat} {q : Program} {loose : List Str} {XP : (Str → Option Value) → Heap → Prop} {YP : World → Heap → Prop} {d : DefRec} {x : Str} {params : Arguments} {G : Fn}
    (hn : l.most = some n) (hn2 : n ≤ sizeLine) (hdf : d.params.defaults = []) (hr : Room k callerA) (hbd : Bd d.name params [x] 1 [] [0])
    (F : ∀ (w : World) (mg : Str → Option Value) (fa : Addr) (h : Heap), YP w h → h.Ns mainGlobals mg → mg d.name = some (.ref fa) →
      ∃ K : PySem.W.Frag, K.In h ∧ ∀ base : Heap, K.In base → base.Ns mainGlobals mg → FnX l.prog w K mg base d.name params k [x] G)
    (hG : ∀ ns : List Int, ns.length ≤ n → ∃ p', G [.scr ns] ⟨0, 0, 0⟩ = .ok (.bl true) false p') :
    PySem.W.WalkO q loose XP YP l.row.toRowW d [] (fun f vs => PySem.call f vs) := by
  refine Att.attach_call hn hdf fun w s₀ s₁ mg mb fa o pm cd doc a vs ns G' Y ho hd hcd hmg hobj hints hlen hg => ?_
  obtain ⟨K, KX, hF⟩ := F w mg fa _ Y G'.T.g hmg
  exact law_run G'.T.g G'.T.b G'.T.builtins G'.T.nolimit hg hobj hints (Nat.le_trans hlen hn2) KX hr hF hmg hbd (hG ns hlen)
end PF

namespace PF
open PySem PySem.Spec PyProof.Rows L2
section
variable {X : Cx} {En : Ent} {Wx : WX} {e a b c : Expr} {me ma mb m : M D} {ms : M (List D)} {pos p : Pos} {es : List Expr}
theorem b_len (hm : X.mg "len" = none) (ha : PMa X Wx (e :: es) ms) (hg : Gl X "len" := by rfl) (he : starEach (e :: es) X.env = (false, eval e X.env) :: starEach es X.env := by rfl) (hpl : (backTo pos (starEach es X.env)).any (·.1) = false := by rfl) : PM X Wx (.Call (.Name "len" p) (e :: es) [] pos) (mCall dLen ms) := pm_callB call_len calls_len hg hm PySem.boot_len ha (by decide) (by decide) he hpl
theorem b_abs (hm : X.mg "abs" = none) (ha : PMa X Wx (e :: es) ms) (hg : Gl X "abs" := by rfl) (he : starEach (e :: es) X.env = (false, eval e X.env) :: starEach es X.env := by rfl) (hpl : (backTo pos (starEach es X.env)).any (·.1) = false := by rfl) : PM X Wx (.Call (.Name "abs" p) (e :: es) [] pos) (mCall dAbs ms) := pm_callB call_abs calls_abs hg hm boot_abs ha (by decide) (by decide) he hpl
theorem b_int (hm : X.mg "int" = none) (ha : PMa X Wx (e :: es) ms) (hg : Gl X "int" := by rfl) (he : starEach (e :: es) X.env = (false, eval e X.env) :: starEach es X.env := by rfl) (hpl : (backTo pos (starEach es X.env)).any (·.1) = false := by rfl) : PM X Wx (.Call (.Name "int" p) (e :: es) [] pos) (mCall dInt ms) := pm_callTy call_int1 calls_int hg hm boot_int ha (by decide) (by decide) he hpl
theorem b_divmod (hm : X.mg "divmod" = none) (ha : PMa X Wx (e :: es) ms) (hg : Gl X "divmod" := by rfl) (he : starEach (e :: es) X.env = (false, eval e X.env) :: starEach es X.env := by rfl) (hpl : (backTo pos (starEach es X.env)).any (·.1) = false := by rfl) : PM X Wx (.Call (.Name "divmod" p) (e :: es) [] pos) (mCall dDivmod ms) := pm_callB call_divmod calls_divmod hg hm boot_divmod ha (by decide) (by decide) he hpl
theorem b_sum (hc : X.calm = true) (hm : X.mg "sum" = none) (ha : PMa X Wx (e :: es) ms) (hg : Gl X "sum" := by rfl) (he : starEach (e :: es) X.env = (false, eval e X.env) :: starEach es X.env := by rfl) (hpl : (backTo pos (starEach es X.env)).any (·.1) = false := by rfl) : PM X Wx (.Call (.Name "sum" p) (e :: es) [] pos) (mCall dSum ms) := pm_callB (cr_sum hc) calls_sum hg hm boot_sum ha (by decide) (by decide) he hpl
theorem b_all (hc : X.calm = true) (hm : X.mg "all" = none) (ha : PMa X Wx (e :: es) ms) (hg : Gl X "all" := by rfl) (he : starEach (e :: es) X.env = (false, eval e X.env) :: starEach es X.env := by rfl) (hpl : (backTo pos (starEach es X.env)).any (·.1) = false := by rfl) : PM X Wx (.Call (.Name "all" p) (e :: es) [] pos) (mCall dAll ms) := pm_callB (cr_all hc) calls_all hg hm boot_all ha (by decide) (by decide) he hpl
theorem b_any (hc : X.calm = true) (hm : X.mg "any" = none) (ha : PMa X Wx (e :: es) ms) (hg : Gl X "any" := by rfl) (he : starEach (e :: es) X.env = (false, eval e X.env) :: starEach es X.env := by rfl) (hpl : (backTo pos (starEach es X.env)).any (·.1) = false := by rfl) : PM X Wx (.Call (.Name "any" p) (e :: es) [] pos) (mCall dAny ms) := pm_callB (cr_any hc) calls_any hg hm boot_any ha (by decide) (by decide) he hpl
theorem b_max1 (hc : X.calm = true) (hm : X.mg "max" = none) (ha : PMa X Wx (e :: es) ms) (hg : Gl X "max" := by rfl) (he : starEach (e :: es) X.env = (false, eval e X.env) :: starEach es X.env := by rfl) (hpl : (backTo pos (starEach es X.env)).any (·.1) = false := by rfl) : PM X Wx (.Call (.Name "max" p) (e :: es) [] pos) (mCall dMax1 ms) := pm_callB (cr_max hc) calls_max1 hg hm boot_max ha (by decide) (by decide) he hpl
theorem b_min1 (hc : X.calm = true) (hm : X.mg "min" = none) (ha : PMa X Wx (e :: es) ms) (hg : Gl X "min" := by rfl) (he : starEach (e :: es) X.env = (false, eval e X.env) :: starEach es X.env := by rfl) (hpl : (backTo pos (starEach es X.env)).any (·.1) = false := by rfl) : PM X Wx (.Call (.Name "min" p) (e :: es) [] pos) (mCall dMin1 ms) := pm_callB (cr_min hc) calls_min1 hg hm boot_min ha (by decide) (by decide) he hpl
theorem b_max2 (hc : X.calm = true) (hm : X.mg "max" = none) (ha : PMa X Wx (e :: es) ms) (hg : Gl X "max" := by rfl) (he : starEach (e :: es) X.env = (false, eval e X.env) :: starEach es X.env := by rfl) (hpl : (backTo pos (starEach es X.env)).any (·.1) = false := by rfl) : PM X Wx (.Call (.Name "max" p) (e :: es) [] pos) (mCall dMax2 ms) := pm_callB (call_max2 hc) calls_max2 hg hm boot_max ha (by decide) (by decide) he hpl
theorem b_min2 (hc : X.calm = true) (hm : X.mg "min" = none) (ha : PMa X Wx (e :: es) ms) (hg : Gl X "min" := by rfl) (he : starEach (e :: es) X.env = (false, eval e X.env) :: starEach es X.env := by rfl) (hpl : (backTo pos (starEach es X.env)).any (·.1) = false := by rfl) : PM X Wx (.Call (.Name "min" p) (e :: es) [] pos) (mCall dMin2 ms) := pm_callB (call_min2 hc) calls_min2 hg hm boot_min ha (by decide) (by decide) he hpl
theorem b_tuple (hm : X.mg "tuple" = none) (ha : PMa X Wx (e :: es) ms) (hg : Gl X "tuple" := by rfl) (he : starEach (e :: es) X.env = (false, eval e X.env) :: starEach es X.env := by rfl) (hpl : (backTo pos (starEach es X.env)).any (·.1) = false := by rfl) : PM X Wx (.Call (.Name "tuple" p) (e :: es) [] pos) (mCall dTuple ms) := pm_callTy call_tuple_of calls_tuple hg hm boot_tuple ha (by decide) (by decide) he hpl
theorem b_list (hm : X.mg "list" = none) (ha : PMa X Wx (e :: es) ms) (hg : Gl X "list" := by rfl) (he : starEach (e :: es) X.env = (false, eval e X.env) :: starEach es X.env := by rfl) (hpl : (backTo pos (starEach es X.env)).any (·.1) = false := by rfl) : PMo X Wx (.Call (.Name "list" p) (e :: es) [] pos) (mLst dList ms) := pmo_callTy call_list_of calls_list hg hm boot_list ha (by decide) (by decide) he hpl
theorem b_sorted (hm : X.mg "sorted" = none) (ha : PMa X Wx (e :: es) ms) (hg : Gl X "sorted" := by rfl) (he : starEach (e :: es) X.env = (false, eval e X.env) :: starEach es X.env := by rfl) (hpl : (backTo pos (starEach es X.env)).any (·.1) = false := by rfl) : PMo X Wx (.Call (.Name "sorted" p) (e :: es) [] pos) (mLst dSorted ms) := pmo_callB cr_sortedI calls_sorted hg hm boot_sorted ha (by decide) (by decide) he hpl
theorem b_repr (hu : Un X) (hgd : X.A.guards = some []) (hm : X.mg "repr" = none) (ha : PMa X Wx (e :: es) ms) (hg : Gl X "repr" := by rfl) (he : starEach (e :: es) X.env = (false, eval e X.env) :: starEach es X.env := by rfl) (hpl : (backTo pos (starEach es X.env)).any (·.1) = false := by rfl) : PM X Wx (.Call (.Name "repr" p) (e :: es) [] pos) (mCall dReprF ms) := pm_callB (call_reprD hu hgd) calls_repr hg hm boot_repr ha (by decide) (by decide) he hpl
/-- an item of what is no pot -/
theorem pm_ixd (ha : PM X Wx a ma) (hb : PM X Wx b mb) (hs : PlainIx b := by exact fun _ _ => rfl) : PM X Wx (.Subscript a b pos) (mOp dIx ma mb) := ⟨(pe_ix ix_seq ha.pe hb.pe hs).imp (tm_op ops_ix)⟩
/-- the types' names, for isinstance -/
theorem ty_int : bootBuiltins "int" = some (.type Ty.int.name) := boot_int
theorem ty_bool : bootBuiltins "bool" = some (.type Ty.bool.name) := boot_bool
theorem ty_str : bootBuiltins "str" = some (.type Ty.str.name) := boot_str
theorem ty_list : bootBuiltins "list" = some (.type Ty.list.name) := boot_list
theorem ty_tuple : bootBuiltins "tuple" = some (.type Ty.tuple.name) := boot_tuple
theorem ty_dict : bootBuiltins "dict" = some (.type Ty.dict.name) := boot_dict
def dI (k : Nat) : D := .int (k : Int)
theorem pm_nat {k : Nat} {j} : PM X Wx (.Constant (.int (k : Int)) j pos) (mret (dI k)) := pm_int
theorem pm_gnat {x : Str} {k : Nat} (hg : Gl X x) (hm : ∃ t, X.mg x = some (.int (k : Int) t)) (hd : (x == ("__debug__" : Str)) = false := by decide) : PM X Wx (.Name x pos) (mret (dI k)) := pm_gint hg hm hd
theorem un_of {k : Nat} (hr : Room k X.A) : Un X := by have := hr.un; show X.A.units + 65 < cLine; omega
theorem takes_w0 {X : Cx} : Takes X W0 := fun u s' ⟨_, _, _, _, _, _, _, _, _, _, _, _, _, _, _, _, h⟩ => h.elim
theorem loc_of {sc : Scope} {x : Str} (h : sc.names.lookup x = some .local) : Loc sc x := .inl h
end
end PF

namespace PF
open PySem PySem.Spec PyProof.Rows L2
/-! ### evaluation: printed by gen14.py -/
def Res.andThen {α β : Type} (r : Res α) (k : α → Pst → Res β) : Res β := match r with
  | .ok a p => k a p
  | .exc x p => .exc x p
  | .stuck => .stuck
def Res.andS {α : Type} (r : Res α) (ρ : Sl) (k : α → Pst → SRes) : SRes := match r with
  | .ok a p => k a p
  | .exc x p => .exc x ρ p
  | .stuck => .stuck
def SRes.andC (r : SRes) (b : C) : SRes := match r with
  | .nx ρ p => b ρ p
  | r => r
def blK {α : Type} (d : D) (k : Bool → M α) : M α := match d with
  | .bl b => k b
  | _ => mstuck
def inK {α : Type} (d : D) (k : Int → M α) : M α := match d with
  | .int b => k b
  | _ => mstuck
def rdO (o : Option (Option W)) (p : Pst) : Res D := match o with
  | some (some (.val d)) => .ok d p
  | _ => .stuck
def kM {α β : Type} (k : α → M β) (ρ : Sl) (a : α) (p : Pst) : Res β := k a ρ p
def kC {α : Type} (k : α → C) (ρ : Sl) (a : α) (p : Pst) : SRes := k a ρ p
@[simp] theorem kM_ap {α β : Type} (k : α → M β) (ρ : Sl) (a : α) (p : Pst) : kM k ρ a p = k a ρ p := rfl
@[simp] theorem kC_ap {α : Type} (k : α → C) (ρ : Sl) (a : α) (p : Pst) : kC k ρ a p = k a ρ p := rfl
@[simp] theorem andThen_ok {α β : Type} (a : α) (p : Pst) (k : α → Pst → Res β) : (Res.ok a p).andThen k = k a p := rfl
@[simp] theorem andS_ok {α : Type} (a : α) (p : Pst) (ρ : Sl) (k : α → Pst → SRes) : (Res.ok a p).andS ρ k = k a p := rfl
@[simp] theorem andC_nx (ρ : Sl) (p : Pst) (b : C) : (SRes.nx ρ p).andC b = b ρ p := rfl
@[simp] theorem andC_rt (d : D) (fr : Bool) (p : Pst) (b : C) : (SRes.rt d fr p).andC b = .rt d fr p := rfl
@[simp] theorem andC_bk (ρ : Sl) (p : Pst) (b : C) : (SRes.bk ρ p).andC b = .bk ρ p := rfl
@[simp] theorem andC_ct (ρ : Sl) (p : Pst) (b : C) : (SRes.ct ρ p).andC b = .ct ρ p := rfl
@[simp] theorem blK_bl {α : Type} (b : Bool) (k : Bool → M α) : blK (.bl b) k = k b := rfl
@[simp] theorem inK_int {α : Type} (b : Int) (k : Int → M α) : inK (.int b) k = k b := rfl
@[simp] theorem rdO_val (d : D) (p : Pst) : rdO (some (some (.val d))) p = .ok d p := rfl
section
variable {ρ : Sl} {p : Pst}
@[simp] theorem ev_mret {α : Type} (a : α) : mret a ρ p = Res.ok a p := by cases p; first | rfl | (unfold mret; rfl) | (unfold mret; exact congrFun (congrFun (congrArg _ (funext fun d => by cases d <;> rfl)) _) _)
@[simp] theorem ev_mstuck {α : Type} : (mstuck : M α) ρ p = (Res.stuck : Res α) := by cases p; first | rfl | (unfold mstuck; rfl) | (unfold mstuck; exact congrFun (congrFun (congrArg _ (funext fun d => by cases d <;> rfl)) _) _)
@[simp] theorem ev_mopt_some {α : Type} (a : α) : mopt (some a) ρ p = Res.ok a p := by cases p; first | rfl | (unfold mopt; rfl) | (unfold mopt; exact congrFun (congrFun (congrArg _ (funext fun d => by cases d <;> rfl)) _) _)
@[simp] theorem ev_mopt_none {α : Type} : mopt (none : Option α) ρ p = (Res.stuck : Res α) := by cases p; first | rfl | (unfold mopt; rfl) | (unfold mopt; exact congrFun (congrFun (congrArg _ (funext fun d => by cases d <;> rfl)) _) _)
@[simp] theorem ev_mbind {α β : Type} (m : M α) (k : α → M β) : mbind m k ρ p = (m ρ p).andThen (kM k ρ) := by cases p; first | rfl | (unfold mbind; rfl) | (unfold mbind; exact congrFun (congrFun (congrArg _ (funext fun d => by cases d <;> rfl)) _) _)
@[simp] theorem ev_mOp (f) (ma mb : M D) : mOp f ma mb ρ p = mbind ma (fun x => mbind mb fun y => mopt (f x y)) ρ p := by cases p; first | rfl | (unfold mOp; rfl) | (unfold mOp; exact congrFun (congrFun (congrArg _ (funext fun d => by cases d <;> rfl)) _) _)
@[simp] theorem ev_mOpo (f) (ma mb : M D) : mOpo f ma mb ρ p = mbind ma (fun x => mbind mb fun y => mopt (f x y)) ρ p := by cases p; first | rfl | (unfold mOpo; rfl) | (unfold mOpo; exact congrFun (congrFun (congrArg _ (funext fun d => by cases d <;> rfl)) _) _)
@[simp] theorem ev_mCmp (f) (ma mb : M D) : mCmp f ma mb ρ p = mbind ma (fun x => mbind mb fun y => mopt (f x y)) ρ p := by cases p; first | rfl | (unfold mCmp; rfl) | (unfold mCmp; exact congrFun (congrFun (congrArg _ (funext fun d => by cases d <;> rfl)) _) _)
@[simp] theorem ev_mB (m : M Bool) : mB m ρ p = mbind m (fun b => mret (.bl b)) ρ p := by cases p; first | rfl | (unfold mB; rfl) | (unfold mB; exact congrFun (congrFun (congrArg _ (funext fun d => by cases d <;> rfl)) _) _)
@[simp] theorem ev_mUn (f) (ma : M D) : mUn f ma ρ p = mbind ma (fun x => mopt (f x)) ρ p := by cases p; first | rfl | (unfold mUn; rfl) | (unfold mUn; exact congrFun (congrFun (congrArg _ (funext fun d => by cases d <;> rfl)) _) _)
@[simp] theorem ev_mAnd (t u : M Bool) : mAnd t u ρ p = mbind t (fun k => if k = true then u else mret false) ρ p := by cases p; first | rfl | (unfold mAnd; rfl) | (unfold mAnd; exact congrFun (congrFun (congrArg _ (funext fun d => by cases d <;> rfl)) _) _)
@[simp] theorem ev_mOr (t u : M Bool) : mOr t u ρ p = mbind t (fun k => if k = true then mret true else u) ρ p := by cases p; first | rfl | (unfold mOr; rfl) | (unfold mOr; exact congrFun (congrFun (congrArg _ (funext fun d => by cases d <;> rfl)) _) _)
@[simp] theorem ev_mNot (t : M Bool) : mNot t ρ p = mbind t (fun k => mret (!k)) ρ p := by cases p; first | rfl | (unfold mNot; rfl) | (unfold mNot; exact congrFun (congrFun (congrArg _ (funext fun d => by cases d <;> rfl)) _) _)
@[simp] theorem ev_mIf {α : Type} (t : M Bool) (ma mb : M α) : mIf t ma mb ρ p = mbind t (fun k => if k = true then ma else mb) ρ p := by cases p; first | rfl | (unfold mIf; rfl) | (unfold mIf; exact congrFun (congrFun (congrArg _ (funext fun d => by cases d <;> rfl)) _) _)
@[simp] theorem ev_mfrz (mo) : mfrz mo ρ p = mbind mo (fun ds => mret (.lst ds)) ρ p := by cases p; first | rfl | (unfold mfrz; rfl) | (unfold mfrz; exact congrFun (congrFun (congrArg _ (funext fun d => by cases d <;> rfl)) _) _)
@[simp] theorem ev_mcons (ma) (ms) : mcons ma ms ρ p = mbind ma (fun d => mbind ms fun ds => mret (d :: ds)) ρ p := by cases p; first | rfl | (unfold mcons; rfl) | (unfold mcons; exact congrFun (congrFun (congrArg _ (funext fun d => by cases d <;> rfl)) _) _)
@[simp] theorem ev_mlim (ms) : mlim ms ρ p = mbind ms (fun ds => if ds.length ≤ 4096 then mret ds else mstuck) ρ p := by cases p; first | rfl | (unfold mlim; rfl) | (unfold mlim; exact congrFun (congrFun (congrArg _ (funext fun d => by cases d <;> rfl)) _) _)
@[simp] theorem ev_mtup (ms) : mtup ms ρ p = mbind ms (fun ds => if ds.length ≤ 4096 then mret (.tup ds) else mstuck) ρ p := by cases p; first | rfl | (unfold mtup; rfl) | (unfold mtup; exact congrFun (congrFun (congrArg _ (funext fun d => by cases d <;> rfl)) _) _)
@[simp] theorem ev_mIx (ma mb) : mIx ma mb ρ p = mbind ma (fun x => mbind mb fun y => ixAny x y) ρ p := by cases p; first | rfl | (unfold mIx; rfl) | (unfold mIx; exact congrFun (congrFun (congrArg _ (funext fun d => by cases d <;> rfl)) _) _)
@[simp] theorem ev_mSl (me ml mh) : mSl me ml mh ρ p = mbind me (fun d => mbind ml fun lo => mbind mh fun hi => mopt (dSl d lo hi)) ρ p := by cases p; first | rfl | (unfold mSl; rfl) | (unfold mSl; exact congrFun (congrFun (congrArg _ (funext fun d => by cases d <;> rfl)) _) _)
@[simp] theorem ev_mCall (f) (ms) : mCall f ms ρ p = mbind ms (fun ds => mopt (f ds)) ρ p := by cases p; first | rfl | (unfold mCall; rfl) | (unfold mCall; exact congrFun (congrFun (congrArg _ (funext fun d => by cases d <;> rfl)) _) _)
@[simp] theorem ev_mLst (f) (ms) : mLst f ms ρ p = mbind ms (fun ds => mopt (f ds)) ρ p := by cases p; first | rfl | (unfold mLst; rfl) | (unfold mLst; exact congrFun (congrFun (congrArg _ (funext fun d => by cases d <;> rfl)) _) _)
@[simp] theorem ev_mIsi (t) (m) : mIsi t m ρ p = mbind m (fun d => if noPot d = true then mret (.bl (isTy t d)) else mstuck) ρ p := by cases p; first | rfl | (unfold mIsi; rfl) | (unfold mIsi; exact congrFun (congrFun (congrArg _ (funext fun d => by cases d <;> rfl)) _) _)
@[simp] theorem ev_mIsis (t) (m) : mIsis t m ρ p = mbind m (fun d => if noPot d = true then mret (.bl (isTys t d)) else mstuck) ρ p := by cases p; first | rfl | (unfold mIsis; rfl) | (unfold mIsis; exact congrFun (congrFun (congrArg _ (funext fun d => by cases d <;> rfl)) _) _)
@[simp] theorem ev_mIsN (m) : mIsN m ρ p = mbind m (fun x => if noPot x = true then mret (isNon x) else mstuck) ρ p := by cases p; first | rfl | (unfold mIsN; rfl) | (unfold mIsN; exact congrFun (congrFun (congrArg _ (funext fun d => by cases d <;> rfl)) _) _)
@[simp] theorem ev_mNotN (m) : mNotN m ρ p = mbind m (fun x => if noPot x = true then mret (!isNon x) else mstuck) ρ p := by cases p; first | rfl | (unfold mNotN; rfl) | (unfold mNotN; exact congrFun (congrFun (congrArg _ (funext fun d => by cases d <;> rfl)) _) _)
@[simp] theorem ev_mChain (f g) (ma mb mc) : mChain f g ma mb mc ρ p = mbind ma (fun x => mbind mb fun y => mbind (mopt (dI2b f x y)) fun k => if k = true then mbind mc fun z => mopt (dI2b g y z) else mret false) ρ p := by cases p; first | rfl | (unfold mChain; rfl) | (unfold mChain; exact congrFun (congrFun (congrArg _ (funext fun d => by cases d <;> rfl)) _) _)
@[simp] theorem ev_mSeq (m) : mSeq m ρ p = mbind m seqD ρ p := by cases p; first | rfl | (unfold mSeq; rfl) | (unfold mSeq; exact congrFun (congrFun (congrArg _ (funext fun d => by cases d <;> rfl)) _) _)
@[simp] theorem ev_mRange1 (ms) : mRange1 ms ρ p = mbind ms (fun ds => mopt (dRange1 ds)) ρ p := by cases p; first | rfl | (unfold mRange1; rfl) | (unfold mRange1; exact congrFun (congrFun (congrArg _ (funext fun d => by cases d <;> rfl)) _) _)
@[simp] theorem ev_mRange2 (ms) : mRange2 ms ρ p = mbind ms (fun ds => mopt (dRange2 ds)) ρ p := by cases p; first | rfl | (unfold mRange2; rfl) | (unfold mRange2; exact congrFun (congrFun (congrArg _ (funext fun d => by cases d <;> rfl)) _) _)
@[simp] theorem ev_muV (ma) (ms) : muV ma ms ρ p = mbind ma (fun d => mbind ms fun ws => mret (.val d :: ws)) ρ p := by cases p; first | rfl | (unfold muV; rfl) | (unfold muV; exact congrFun (congrFun (congrArg _ (funext fun d => by cases d <;> rfl)) _) _)
@[simp] theorem ev_muO (ma) (ms) : muO ma ms ρ p = mbind ma (fun d => mbind ms fun ws => mret (.own d :: ws)) ρ p := by cases p; first | rfl | (unfold muO; rfl) | (unfold muO; exact congrFun (congrFun (congrArg _ (funext fun d => by cases d <;> rfl)) _) _)
@[simp] theorem ev_mFn (G : Fn) (n m : Nat) (ix) (ms mk) : mFn G n m ix ms mk ρ p = mbind ms (fun ds => mbind mk fun es _ p => if ds.length = n ∧ es.length = m then outFn (fun d _ => some d) (G (permL ix (ds ++ es)) p) else .stuck) ρ p := by cases p; first | rfl | (unfold mFn; rfl) | (unfold mFn; exact congrFun (congrFun (congrArg _ (funext fun d => by cases d <;> rfl)) _) _)
@[simp] theorem ev_mFno (G : Fn) (n m : Nat) (ix) (ms mk) : mFno G n m ix ms mk ρ p = mbind ms (fun ds => mbind mk fun es _ p => if ds.length = n ∧ es.length = m then outFn frOf (G (permL ix (ds ++ es)) p) else .stuck) ρ p := by cases p; first | rfl | (unfold mFno; rfl) | (unfold mFno; exact congrFun (congrFun (congrArg _ (funext fun d => by cases d <;> rfl)) _) _)
@[simp] theorem ev_ixAny_lst (xs) (y) : ixAny (.lst xs) y ρ p = mopt (dIx (.lst xs) y) ρ p := by cases p; first | rfl | (unfold ixAny; rfl) | (unfold ixAny; exact congrFun (congrFun (congrArg _ (funext fun d => by cases d <;> rfl)) _) _)
@[simp] theorem ev_ixAny_tup (xs) (y) : ixAny (.tup xs) y ρ p = mopt (dIx (.tup xs) y) ρ p := by cases p; first | rfl | (unfold ixAny; rfl) | (unfold ixAny; exact congrFun (congrFun (congrArg _ (funext fun d => by cases d <;> rfl)) _) _)
@[simp] theorem ev_ixAny_scr (xs) (y) : ixAny (.scr xs) y ρ p = mopt (dIx (.scr xs) y) ρ p := by cases p; first | rfl | (unfold ixAny; rfl) | (unfold ixAny; exact congrFun (congrFun (congrArg _ (funext fun d => by cases d <;> rfl)) _) _)
@[simp] theorem ev_ixAny_str (xs) (y) : ixAny (.str xs) y ρ p = mopt (dIx (.str xs) y) ρ p := by cases p; first | rfl | (unfold ixAny; rfl) | (unfold ixAny; exact congrFun (congrFun (congrArg _ (funext fun d => by cases d <;> rfl)) _) _)
@[simp] theorem ev_seqD_lst (xs) : seqD (.lst xs) ρ p = Res.ok xs p := by cases p; first | rfl | (unfold seqD; rfl) | (unfold seqD; exact congrFun (congrFun (congrArg _ (funext fun d => by cases d <;> rfl)) _) _)
@[simp] theorem ev_seqD_tup (xs) : seqD (.tup xs) ρ p = Res.ok xs p := by cases p; first | rfl | (unfold seqD; rfl) | (unfold seqD; exact congrFun (congrFun (congrArg _ (funext fun d => by cases d <;> rfl)) _) _)
@[simp] theorem ev_mT (m) : mT m ρ p = mbind m (fun d => blK d mret) ρ p := by cases p; first | rfl | (unfold mT; rfl) | (unfold mT; exact congrFun (congrFun (congrArg _ (funext fun d => by cases d <;> rfl)) _) _)
@[simp] theorem ev_mAndV (t u) : mAndV t u ρ p = mbind t (fun d => blK d fun k => if k = true then u else mret (.bl false)) ρ p := by cases p; first | rfl | (unfold mAndV; rfl) | (unfold mAndV; exact congrFun (congrFun (congrArg _ (funext fun d => by cases d <;> rfl)) _) _)
@[simp] theorem ev_mOrV (t u) : mOrV t u ρ p = mbind t (fun d => blK d fun k => if k = true then mret (.bl true) else u) ρ p := by cases p; first | rfl | (unfold mOrV; rfl) | (unfold mOrV; exact congrFun (congrFun (congrArg _ (funext fun d => by cases d <;> rfl)) _) _)
@[simp] theorem ev_mNotV (t) : mNotV t ρ p = mbind t (fun d => blK d fun k => mret (.bl (!k))) ρ p := by cases p; first | rfl | (unfold mNotV; rfl) | (unfold mNotV; exact congrFun (congrFun (congrArg _ (funext fun d => by cases d <;> rfl)) _) _)
@[simp] theorem ev_mPart (t) : mPart t ρ p = mbind t (fun d => inK d fun i => mret (some i)) ρ p := by cases p; first | rfl | (unfold mPart; rfl) | (unfold mPart; exact congrFun (congrFun (congrArg _ (funext fun d => by cases d <;> rfl)) _) _)
@[simp] theorem ev_mYes  : mYes ρ p = Res.ok true p := by cases p; first | rfl | (unfold mYes; rfl) | (unfold mYes; exact congrFun (congrFun (congrArg _ (funext fun d => by cases d <;> rfl)) _) _)
@[simp] theorem ev_cskip  : cskip ρ p = SRes.nx ρ p := by cases p; first | rfl | (unfold cskip; rfl) | (unfold cskip; exact congrFun (congrFun (congrArg _ (funext fun d => by cases d <;> rfl)) _) _)
@[simp] theorem ev_cbrk  : cbrk ρ p = SRes.bk ρ p := by cases p; first | rfl | (unfold cbrk; rfl) | (unfold cbrk; exact congrFun (congrFun (congrArg _ (funext fun d => by cases d <;> rfl)) _) _)
@[simp] theorem ev_ccnt  : ccnt ρ p = SRes.ct ρ p := by cases p; first | rfl | (unfold ccnt; rfl) | (unfold ccnt; exact congrFun (congrFun (congrArg _ (funext fun d => by cases d <;> rfl)) _) _)
@[simp] theorem ev_cstuck  : cstuck ρ p = SRes.stuck := by cases p; first | rfl | (unfold cstuck; rfl) | (unfold cstuck; exact congrFun (congrFun (congrArg _ (funext fun d => by cases d <;> rfl)) _) _)
@[simp] theorem ev_cretN  : cretN ρ p = SRes.rt .non false p := by cases p; first | rfl | (unfold cretN; rfl) | (unfold cretN; exact congrFun (congrFun (congrArg _ (funext fun d => by cases d <;> rfl)) _) _)
@[simp] theorem ev_cseq (a b : C) : cseq a b ρ p = (a ρ p).andC b := by cases p; first | rfl | (unfold cseq; rfl) | (unfold cseq; exact congrFun (congrFun (congrArg _ (funext fun d => by cases d <;> rfl)) _) _)
@[simp] theorem ev_eout {α : Type} (m : M α) (k : α → C) : eout m k ρ p = (m ρ p).andS ρ (kC k ρ) := by cases p; first | rfl | (unfold eout; rfl) | (unfold eout; exact congrFun (congrFun (congrArg _ (funext fun d => by cases d <;> rfl)) _) _)
@[simp] theorem ev_cexpr (m) : cexpr m ρ p = eout m (fun _ => cskip) ρ p := by cases p; first | rfl | (unfold cexpr; rfl) | (unfold cexpr; exact congrFun (congrFun (congrArg _ (funext fun d => by cases d <;> rfl)) _) _)
@[simp] theorem ev_cret (m) : cret m ρ p = eout m (fun d _ p => .rt d false p) ρ p := by cases p; first | rfl | (unfold cret; rfl) | (unfold cret; exact congrFun (congrFun (congrArg _ (funext fun d => by cases d <;> rfl)) _) _)
@[simp] theorem ev_creto (m) : creto m ρ p = eout m (fun d _ p => .rt (.lst d) true p) ρ p := by cases p; first | rfl | (unfold creto; rfl) | (unfold creto; exact congrFun (congrFun (congrArg _ (funext fun d => by cases d <;> rfl)) _) _)
@[simp] theorem ev_cif (t a b) : cif t a b ρ p = eout t (fun k => if k = true then a else b) ρ p := by cases p; first | rfl | (unfold cif; rfl) | (unfold cif; exact congrFun (congrFun (congrArg _ (funext fun d => by cases d <;> rfl)) _) _)
@[simp] theorem ev_casg (i m) : casg i m ρ p = eout m (fun d ρ p => .nx (ρ.set i (some (.val d))) p) ρ p := by cases p; first | rfl | (unfold casg; rfl) | (unfold casg; exact congrFun (congrFun (congrArg _ (funext fun d => by cases d <;> rfl)) _) _)
@[simp] theorem ev_caso (i m) : caso i m ρ p = eout m (fun d ρ p => .nx (ρ.set i (some (.own d))) p) ρ p := by cases p; first | rfl | (unfold caso; rfl) | (unfold caso; exact congrFun (congrFun (congrArg _ (funext fun d => by cases d <;> rfl)) _) _)
@[simp] theorem ev_casgW (is m) : casgW is m ρ p = eout m (fun ws ρ p => if ws.length = is.length then .nx (setsS is ws ρ) p else .stuck) ρ p := by cases p; first | rfl | (unfold casgW; rfl) | (unfold casgW; exact congrFun (congrFun (congrArg _ (funext fun d => by cases d <;> rfl)) _) _)
@[simp] theorem ev_rd (i : Nat) : rd i ρ p = rdO ρ[i]? p := by
  unfold rd rdO
  cases ρ[i]? with
  | none => rfl
  | some o =>
    cases o with
    | none => rfl
    | some w => cases w <;> rfl
@[simp] theorem ev_pot0 : ixAny (.pot p.g) (.int 0) ρ p = .ok (.int p.a) p := by simp [ixAny, ixPot]
@[simp] theorem ev_pot1 : ixAny (.pot p.g) (.int 1) ρ p = .ok (.int p.b) p := by simp [ixAny, ixPot]
@[simp] theorem ev_outFn {α : Type} (f : D → Bool → Option α) (d : D) (fr : Bool) (p : Pst) : outFn f (.ok d fr p) = (match f d fr with | some a => .ok a p | none => .stuck) := rfl
@[simp] theorem ev_permL_nil {α : Type} (l : List α) : permL [] l = [] := rfl
@[simp] theorem ev_permL_cons {α : Type} (i : Nat) (ix : List Nat) (l : List α) : permL (i :: ix) l = (match l[i]? with | some x => x :: permL ix l | none => permL ix l) := by
  unfold permL
  rw [List.filterMap_cons]
  cases l[i]? <;> rfl
@[simp] theorem ev_frOf (ds : List D) : frOf (.lst ds) true = some ds := rfl
@[simp] theorem ev_sets_nil (ws : List W) : setsS [] ws ρ = ρ := by cases ws <;> rfl
@[simp] theorem ev_sets_cons (i : Nat) (is : List Nat) (w : W) (ws : List W) : setsS (i :: is) (w :: ws) ρ = setsS is ws (ρ.set i (some w)) := rfl
theorem ev_fres {n k : Nat} {c : C} {ds : List D} (h : ds.length = k) : fres n k c ds p = sres (c (ds.map (fun d => some (W.val d)) ++ List.replicate (n - k) none) p) := by unfold fres; rw [if_pos h]
@[simp] theorem ev_sres_nx : sres (.nx ρ p) = .ok .non false p := rfl
@[simp] theorem ev_sres_rt (d : D) (fr : Bool) : sres (.rt d fr p) = .ok d fr p := rfl
end
/-! ### operators on data -/
@[simp] theorem dAdd_int (i j : Int) : dAdd (.int i) (.int j) = some (.int (i + j)) := rfl
@[simp] theorem dSub_int (i j : Int) : dSub (.int i) (.int j) = some (.int (i - j)) := rfl
theorem dMul_int {i j : Int} (h : i.natAbs < 2 ^ 64 ∨ j.natAbs < 2 ^ 64) : dMul (.int i) (.int j) = some (.int (i * j)) := by
  have : okMul i j = true := by simpa [okMul] using h
  simp [dMul, dMulI, dI2c, this]
theorem dMod_int {i j : Int} (h : 0 < j) : dMod (.int i) (.int j) = some (.int (i % j)) := by
  have : j ≠ 0 := by omega
  simp [dMod, dI2c, this, Int.fmod_eq_emod_of_nonneg _ (Int.le_of_lt h)]
theorem dDiv_int {i j : Int} (h : 0 < j) (h2 : j < 1073741824) : dDiv (.int i) (.int j) = some (.int (i / j)) := by
  have h3 : j ≠ 0 := by omega
  have h4 : j.natAbs < 1073741824 := by omega
  simp [dDiv, dI2c, okDiv, h3, h4, Int.fdiv_eq_ediv_of_nonneg _ (Int.le_of_lt h)]
theorem dPow_int {i j : Int} (h : 0 ≤ j) (h2 : j ≤ 1000000) (h3 : i.natAbs < 2 ^ 64) : dPow (.int i) (.int j) = some (.int (i ^ j.toNat)) := by
  simp [dPow, dI2c, okPow, h, h2, h3]
@[simp] theorem dNeg_int (i : Int) : dNeg (.int i) = some (.int (-i)) := rfl
@[simp] theorem dLt_int (i j : Int) : dLt (.int i) (.int j) = some (decide (i < j)) := rfl
@[simp] theorem dLe_int (i j : Int) : dLe (.int i) (.int j) = some (decide (i ≤ j)) := rfl
@[simp] theorem dGt_int (i j : Int) : dGt (.int i) (.int j) = some (decide (j < i)) := rfl
@[simp] theorem dGe_int (i j : Int) : dGe (.int i) (.int j) = some (decide (j ≤ i)) := rfl
@[simp] theorem dI2b_int (f : Int → Int → Bool) (i j : Int) : dI2b f (.int i) (.int j) = some (f i j) := rfl
@[simp] theorem dEq_int (i j : Int) : dEq (.int i) (.int j) = some (decide (i = j)) := rfl
@[simp] theorem dNe_int (i j : Int) : dNe (.int i) (.int j) = some (!decide (i = j)) := rfl
@[simp] theorem dEq_str (i j : Str) : dEq (.str i) (.str j) = some (decide (i = j)) := rfl
@[simp] theorem dNe_str (i j : Str) : dNe (.str i) (.str j) = some (!decide (i = j)) := rfl
@[simp] theorem dIsB_bl (i j : Bool) : dIsB (.bl i) (.bl j) = some (decide (i = j)) := rfl
@[simp] theorem dNotB_bl (i j : Bool) : dNotB (.bl i) (.bl j) = some (!decide (i = j)) := rfl
@[simp] theorem dInt_int (i : Int) : dInt [.int i] = some (.int i) := rfl
@[simp] theorem dInt_bl (b : Bool) : dInt [.bl b] = some (.int (if b then 1 else 0)) := rfl
theorem dLen_lst (xs : List D) : dLen [.lst xs] = some (.int xs.length) := rfl
theorem dLen_tup (xs : List D) : dLen [.tup xs] = some (.int xs.length) := rfl
theorem dLen_scr (xs : List Int) : dLen [.scr xs] = some (.int xs.length) := rfl
@[simp] theorem dAbs_int (i : Int) : dAbs [.int i] = some (.int (if i < 0 then -i else i)) := rfl
@[simp] theorem dMax2_int (i j : Int) : dMax2 [.int i, .int j] = some (.int (if j > i then j else i)) := rfl
@[simp] theorem dMin2_int (i j : Int) : dMin2 [.int i, .int j] = some (.int (if j < i then j else i)) := rfl
theorem dDivmod_int {i j : Int} (h : 0 < j) (h2 : j < 1073741824) : dDivmod [.int i, .int j] = some (.tup [.int (i / j), .int (i % j)]) := by simp [dDivmod, h, h2]
theorem dIx_lst {xs : List D} {k : Nat} {d : D} (h : xs[k]? = some d) : dIx (.lst xs) (.int k) = some d := by
  have hk : k < xs.length := (List.getElem?_eq_some_iff.mp h).1
  have h1 : (k : Int) < (xs.length : Int) := by omega
  simp only [dIx, atI, ixN]
  rw [if_pos (by omega), if_pos h1]
  simpa using h
theorem dIx_tup {xs : List D} {k : Nat} {d : D} (h : xs[k]? = some d) : dIx (.tup xs) (.int k) = some d := dIx_lst (xs := xs) h
@[simp] theorem noPot_non : noPot .non = true := by simp [noPot]
@[simp] theorem noPot_bl (b : Bool) : noPot (.bl b) = true := by simp [noPot]
@[simp] theorem noPot_int (b : Int) : noPot (.int b) = true := by simp [noPot]
@[simp] theorem noPot_str (b : Str) : noPot (.str b) = true := by simp [noPot]
@[simp] theorem noPot_lst (b : List D) : noPot (.lst b) = true := by simp [noPot]
@[simp] theorem noPot_tup (b : List D) : noPot (.tup b) = true := by simp [noPot]
@[simp] theorem noPot_scr (b : List Int) : noPot (.scr b) = true := by simp [noPot]
@[simp] theorem noPot_emp : noPot .emp = true := by simp [noPot]
@[simp] theorem isNon_non : isNon .non = true := by simp [isNon]
@[simp] theorem isNon_bl (b : Bool) : isNon (.bl b) = false := by simp [isNon]
@[simp] theorem isNon_int (b : Int) : isNon (.int b) = false := by simp [isNon]
@[simp] theorem isNon_str (b : Str) : isNon (.str b) = false := by simp [isNon]
@[simp] theorem isNon_lst (b : List D) : isNon (.lst b) = false := by simp [isNon]
@[simp] theorem isNon_tup (b : List D) : isNon (.tup b) = false := by simp [isNon]
end PF

namespace PF
open PySem PySem.Spec PyProof.Rows L2

/-! ### rules for loops and comprehensions -/
theorem lcGo_pure {f : D → Sl → Option Sl} {tt : M Bool} {el : M D} {ρ : Sl} {p : Pst} (b : D → Bool) (g : D → D) : ∀ items : List D, (∀ d ∈ items, ∃ ρ1, f d ρ = some ρ1 ∧ tt ρ1 p = .ok (b d) p ∧ (b d = true → el ρ1 p = .ok (g d) p)) → lcGo f tt el items ρ p = .ok ((items.filter b).map g) p
  | [], _ => rfl
  | d :: ds, h => by
    obtain ⟨ρ1, e1, e2, e3⟩ := h d List.mem_cons_self
    have ih := lcGo_pure b g ds fun d hd => h d (List.mem_cons_of_mem _ hd)
    simp only [lcGo, e1, e2]
    cases hb : b d with
    | false => simp [ih, hb]
    | true => simp [ih, hb, e3 hb]
theorem mLc_pure {vs : List Nat} {mi : M (List D)} {f : D → Sl → Option Sl} {tt : M Bool} {el : M D} {ρ : Sl} {p p1 : Pst} {items : List D} (hi : mi ρ p = .ok items p1) (b : D → Bool) (g : D → D)
    (h : ∀ d ∈ items, ∃ ρ1, f d (wipeS ρ vs) = some ρ1 ∧ tt ρ1 p1 = .ok (b d) p1 ∧ (b d = true → el ρ1 p1 = .ok (g d) p1)) : mLc vs mi f tt el ρ p = .ok ((items.filter b).map g) p1 := by
  unfold mLc
  rw [ev_mbind, hi, andThen_ok, kM_ap]
  simp only [lcGo_pure b g items h]
theorem filter_map_rg (lo : Int) (n : Nat) (b : Nat → Bool) (g : Nat → D) (b' : D → Bool) (g' : D → D) (h : ∀ k, k < n → b' (.int (lo + k)) = b k ∧ (b k = true → g' (.int (lo + k)) = g k)) : ((rgL lo n).filter b').map g' = ((List.range n).filter b).map g := by
  unfold rgL
  rw [List.filter_map, List.map_map]
  have e1 : (List.range n).filter (b' ∘ fun (k : Nat) => D.int (lo + k)) = (List.range n).filter b := List.filter_congr fun k hk => (h k (List.mem_range.mp hk)).1
  rw [e1]
  refine List.map_congr_left fun k hk => ?_
  obtain ⟨h1, h2⟩ := List.mem_filter.mp hk
  exact (h k (List.mem_range.mp h1)).2 h2
/-- a comprehension over a range -/
theorem mLc_rng {i n : Nat} {lo : Int} {mi : M (List D)} {tt : M Bool} {el : M D} {ρ : Sl} {p p1 : Pst} (hi : mi ρ p = .ok (rgL lo n) p1) (b : Nat → Bool) (g : Nat → D)
    (h : ∀ k, k < n → tt ((wipeS ρ [i]).set i (some (.val (.int (lo + k))))) p1 = .ok (b k) p1 ∧ (b k = true → el ((wipeS ρ [i]).set i (some (.val (.int (lo + k))))) p1 = .ok (g k) p1)) : mLc [i] mi (fName i) tt el ρ p = .ok (((List.range n).filter b).map g) p1 := by
  unfold mLc
  rw [ev_mbind, hi, andThen_ok, kM_ap]
  have key : ∀ l : List Nat, (∀ k ∈ l, k < n) → lcGo (fName i) tt el (l.map fun (k : Nat) => D.int (lo + k)) (wipeS ρ [i]) p1 = .ok ((l.filter b).map g) p1 := by
    intro l
    induction l with
    | nil => intro _; rfl
    | cons k l ih =>
      intro hl
      obtain ⟨h1, h2⟩ := h k (hl k List.mem_cons_self)
      have ih' := ih fun k hk => hl k (List.mem_cons_of_mem _ hk)
      simp only [List.map_cons, lcGo, fName, h1]
      cases hb : b k with
      | false => simp [ih', hb, fName]
      | true => simp [ih', hb, h2 hb, fName]
  have := key (List.range n) fun k hk => List.mem_range.mp hk
  unfold rgL
  simp only [this]
theorem filter_yes {α : Type} (l : List α) : l.filter (fun _ => true) = l := List.filter_eq_self.mpr fun _ _ => rfl
theorem mLc_rngY {i n : Nat} {lo : Int} {mi : M (List D)} {el : M D} {ρ : Sl} {p p1 : Pst} (hi : mi ρ p = .ok (rgL lo n) p1) (g : Nat → D)
    (h : ∀ k, k < n → el ((wipeS ρ [i]).set i (some (.val (.int (lo + k))))) p1 = .ok (g k) p1) : mLc [i] mi (fName i) mYes el ρ p = .ok ((List.range n).map g) p1 := by
  have := mLc_rng (i := i) (tt := mYes) hi (fun _ => true) g fun k hk => ⟨rfl, fun _ => h k hk⟩
  rwa [filter_yes] at this
/-- a comprehension over a list of data, one name -/
theorem mLc_lst {i : Nat} {mi : M (List D)} {tt : M Bool} {el : M D} {ρ : Sl} {p p1 : Pst} {items : List D} (hi : mi ρ p = .ok items p1) (b : D → Bool) (g : D → D)
    (h : ∀ d ∈ items, tt ((wipeS ρ [i]).set i (some (.val d))) p1 = .ok (b d) p1 ∧ (b d = true → el ((wipeS ρ [i]).set i (some (.val d))) p1 = .ok (g d) p1)) : mLc [i] mi (fName i) tt el ρ p = .ok ((items.filter b).map g) p1 :=
  mLc_pure hi b g fun d hd => ⟨_, rfl, (h d hd).1, (h d hd).2⟩
/-- items of a mapped list -/
theorem mLc_map {α : Type} {i : Nat} {mi : M (List D)} {tt : M Bool} {el : M D} {ρ : Sl} {p p1 : Pst} {xs : List α} {c : α → D} (hi : mi ρ p = .ok (xs.map c) p1) (b : α → Bool) (g : α → D)
    (h : ∀ x ∈ xs, tt ((wipeS ρ [i]).set i (some (.val (c x)))) p1 = .ok (b x) p1 ∧ (b x = true → el ((wipeS ρ [i]).set i (some (.val (c x)))) p1 = .ok (g x) p1)) : mLc [i] mi (fName i) tt el ρ p = .ok ((xs.filter b).map g) p1 := by
  unfold mLc
  rw [ev_mbind, hi, andThen_ok, kM_ap]
  have key : ∀ l : List α, (∀ x ∈ l, x ∈ xs) → lcGo (fName i) tt el (l.map c) (wipeS ρ [i]) p1 = .ok ((l.filter b).map g) p1 := by
    intro l
    induction l with
    | nil => intro _; rfl
    | cons k l ih =>
      intro hl
      obtain ⟨h1, h2⟩ := h k (hl k List.mem_cons_self)
      have ih' := ih fun k hk => hl k (List.mem_cons_of_mem _ hk)
      simp only [List.map_cons, lcGo, fName, h1]
      cases hb : b k with
      | false => simp [ih', hb, fName]
      | true => simp [ih', hb, h2 hb, fName]
  simp only [key xs fun _ h => h]
theorem mLc_mapY {α : Type} {i : Nat} {mi : M (List D)} {el : M D} {ρ : Sl} {p p1 : Pst} {xs : List α} {c : α → D} (hi : mi ρ p = .ok (xs.map c) p1) (g : α → D)
    (h : ∀ x ∈ xs, el ((wipeS ρ [i]).set i (some (.val (c x)))) p1 = .ok (g x) p1) : mLc [i] mi (fName i) mYes el ρ p = .ok (xs.map g) p1 := by
  have := mLc_map (i := i) (tt := mYes) hi (fun _ => true) g fun x hx => ⟨rfl, fun _ => h x hx⟩
  rwa [filter_yes] at this
theorem dRange1_nat (n : Nat) (h : n ≤ 16000000) : dRange1 [.int (n : Int)] = some (rgL 0 n) := by
  show (if _ then _ else _) = _
  rw [if_pos ⟨by omega, by omega⟩, Int.toNat_natCast]
/-- a comprehension whose element draws: an invariant of the pot, a property of each item -/
theorem lcGo_draw {f : D → Sl → Option Sl} {el : M D} {ρ : Sl} (I : Pst → Prop) (R : D → D → Prop) : ∀ (items : List D) (p : Pst), I p → (∀ d ∈ items, ∀ p, I p → ∃ ρ1, f d ρ = some ρ1 ∧ ∃ y p', el ρ1 p = .ok y p' ∧ I p' ∧ R d y) → ∃ ys p', lcGo f mYes el items ρ p = .ok ys p' ∧ I p' ∧ AllR R items ys
  | [], p, hp, _ => ⟨[], p, rfl, hp, .nil⟩
  | d :: ds, p, hp, h => by
    obtain ⟨ρ1, e1, y, p1, e2, hp1, r⟩ := h d List.mem_cons_self p hp
    obtain ⟨ys, p2, e3, hp2, rs⟩ := lcGo_draw I R ds p1 hp1 fun d hd => h d (List.mem_cons_of_mem _ hd)
    refine ⟨y :: ys, p2, ?_, hp2, .cons r rs⟩
    simp only [lcGo, e1, ev_mYes, e2, e3]
theorem mLc_draw {vs : List Nat} {mi : M (List D)} {f : D → Sl → Option Sl} {el : M D} {ρ : Sl} {p p1 : Pst} {items : List D} (hi : mi ρ p = .ok items p1) (I : Pst → Prop) (R : D → D → Prop) (hp : I p1)
    (h : ∀ d ∈ items, ∀ p, I p → ∃ ρ1, f d (wipeS ρ vs) = some ρ1 ∧ ∃ y p', el ρ1 p = .ok y p' ∧ I p' ∧ R d y) : ∃ ys p', mLc vs mi f mYes el ρ p = .ok ys p' ∧ I p' ∧ AllR R items ys := by
  obtain ⟨ys, p2, e, h2, h3⟩ := lcGo_draw I R items p1 hp h
  refine ⟨ys, p2, ?_, h2, h3⟩
  unfold mLc
  rw [ev_mbind, hi, andThen_ok, kM_ap]
  simp only [e]
/-- for -/
theorem cforGo_rule {G : D → Sl → Pst → Option (Sl × Pst)} {body : C} (Q : SRes → Prop) : ∀ (items : List D) (I : Nat → Sl → Pst → Prop) (ρ : Sl) (p : Pst), I 0 ρ p →
    (∀ i d ρ p, items[i]? = some d → I i ρ p → ∃ ρ1 p1, G d ρ p = some (ρ1, p1) ∧ (match body ρ1 p1 with | .nx ρ' p' => I (i + 1) ρ' p' | .ct ρ' p' => I (i + 1) ρ' p' | .bk ρ' p' => Q (.nx ρ' p') | .stuck => False | r => Q r)) →
    (∀ ρ p, I items.length ρ p → Q (.nx ρ p)) → Q (cforGo G body items ρ p)
  | [], I, ρ, p, h0, _, hd => hd ρ p h0
  | d :: ds, I, ρ, p, h0, hs, hd => by
    obtain ⟨ρ1, p1, e, hb⟩ := hs 0 d ρ p rfl h0
    simp only [cforGo, e]
    have again : ∀ ρ' p', I 1 ρ' p' → Q (cforGo G body ds ρ' p') := fun ρ' p' h => cforGo_rule Q ds (fun i => I (i + 1)) ρ' p' h (fun i d ρ p hi hI => hs (i + 1) d ρ p (by simpa using hi) hI) fun ρ p h => hd ρ p h
    cases q : body ρ1 p1 with
    | nx ρ' p' => rw [q] at hb; exact again ρ' p' hb
    | ct ρ' p' => rw [q] at hb; exact again ρ' p' hb
    | bk ρ' p' => rw [q] at hb; exact hb
    | rt d fr p' => rw [q] at hb; exact hb
    | exc x ρ' p' => rw [q] at hb; exact hb
    | stuck => rw [q] at hb; exact hb.elim
/-- while, by a measure -/
theorem cwhile_rule {mt : M Bool} {body : C} (Q : SRes → Prop) (I : Sl → Pst → Prop) (μ : Sl → Pst → Nat)
    (step : ∀ ρ p, I ρ p → ∃ k p1, mt ρ p = .ok k p1 ∧ (k = false → Q (.nx ρ p1)) ∧ (k = true → (match body ρ p1 with | .nx ρ' p' => I ρ' p' ∧ μ ρ' p' < μ ρ p | .ct ρ' p' => I ρ' p' ∧ μ ρ' p' < μ ρ p | .bk ρ' p' => Q (.nx ρ' p') | .stuck => False | r => Q r))) :
    ∀ (n : Nat) (ρ : Sl) (p : Pst), I ρ p → μ ρ p < n → Q (cwhile mt body n ρ p)
  | 0, ρ, p, _, h => absurd h (Nat.not_lt_zero _)
  | n + 1, ρ, p, hI, hm => by
    obtain ⟨k, p1, e, h0, h1⟩ := step ρ p hI
    simp only [cwhile, ev_eout, e, andS_ok, kC_ap]
    cases k with
    | false => simpa using h0 rfl
    | true =>
      have hb := h1 rfl
      simp only [if_true]
      cases q : body ρ p1 with
      | nx ρ' p' =>
        rw [q] at hb
        exact cwhile_rule Q I μ step n ρ' p' hb.1 (by have := hb.2; omega)
      | ct ρ' p' =>
        rw [q] at hb
        exact cwhile_rule Q I μ step n ρ' p' hb.1 (by have := hb.2; omega)
      | bk ρ' p' => rw [q] at hb; exact hb
      | rt d fr p' => rw [q] at hb; exact hb
      | exc x ρ' p' => rw [q] at hb; exact hb
      | stuck => rw [q] at hb; exact hb.elim
/-- while, by the number of turns: s the states turn by turn -/
theorem cwhile_step {mt : M Bool} {body : C} {n : Nat} {ρ ρ' : Sl} {p p1 p' : Pst} (h : mt ρ p = .ok true p1) (h2 : body ρ p1 = .nx ρ' p') : cwhile mt body (n + 1) ρ p = cwhile mt body n ρ' p' := by
  simp [cwhile, h, h2]
theorem cwhile_end {mt : M Bool} {body : C} {n : Nat} {ρ : Sl} {p p1 : Pst} (h : mt ρ p = .ok false p1) : cwhile mt body (n + 1) ρ p = .nx ρ p1 := by
  simp [cwhile, h]

/-! ### the pot -/
structure Good (g : Nat) (p : Pst) : Prop where
  g : p.g = g
  a : 0 ≤ p.a
  b : 0 ≤ p.b
  bl : p.b < 4294967296
/-- _law_draw, with its numbers -/
def drawC (A B M1 M2 S : Int) : C := cseq (cif (mCmp dGt (mIx (rd 0) (mret (.int 0))) (mret (.int 0))) (cseq (casgT (tgTup 2 (tgCons (tgSub 0 (mret (.int 0))) (tgCons (tgName 2) (tgNil)))) (mCall dDivmod (mcons (mIx (rd 0) (mret (.int 0))) (mcons (rd 1) (mret []))))) (cret (rd 2))) (cskip)) (cseq (casgT (tgSub 0 (mret (.int 1))) (mOp dMod (mCall dInt (mcons (mOp dAdd (mOp dMul (mIx (rd 0) (mret (.int 1))) (mret (.int A))) (mret (.int B))) (mret []))) (mret (.int M1)))) (cret (mOp dMod (mCall dInt (mcons (mOp dDiv (mOp dMod (mCall dInt (mcons (mOp dMul (mIx (rd 0) (mret (.int 1))) (mIx (rd 0) (mret (.int 1)))) (mret []))) (mret (.int M2))) (mret (.int S))) (mret []))) (rd 1))))
theorem draw_ok {A B M1 M2 S : Int} (hM1 : 0 < M1) (hM1' : M1 ≤ 4294967296) (hM2 : 0 < M2) (hS : 0 < S) (hS' : S < 1073741824) {g : Nat} {m : Int} {p : Pst} (hm : 0 < m) (hm2 : m < 1073741824) (hp : Good g p) :
    ∃ d p', fres 3 2 (drawC A B M1 M2 S) [.pot g, .int m] p = .ok (.int d) false p' ∧ 0 ≤ d ∧ d < m ∧ Good g p' := by
  obtain ⟨rfl, h1, h2, h3⟩ := hp
  have en : fres 3 2 (drawC A B M1 M2 S) [.pot p.g, .int m] p = sres (drawC A B M1 M2 S [some (.val (.pot p.g)), some (.val (.int m)), none] p) := rfl
  rw [en]
  unfold drawC
  by_cases hc : 0 < p.a
  · refine ⟨p.a % m, ⟨p.g, p.a / m, p.b⟩, ?_, Int.emod_nonneg _ (by omega), Int.emod_lt_of_pos _ hm, rfl, Int.ediv_nonneg h1 (by omega), h2, h3⟩
    simp [hc, casgT, dDivmod_int hm hm2, tgTup, tgCons, tgSub, tgName, tgNil, setPot]
  · have q1 := Int.emod_nonneg (p.b * A + B) (show M1 ≠ 0 by omega)
    have q2 := Int.emod_lt_of_pos (p.b * A + B) hM1
    refine ⟨((p.b * A + B) % M1 * ((p.b * A + B) % M1)) % M2 / S % m, ⟨p.g, p.a, (p.b * A + B) % M1⟩, ?_, Int.emod_nonneg _ (by omega), Int.emod_lt_of_pos _ hm, rfl, h1, q1, (by show (p.b * A + B) % M1 < 4294967296; omega)⟩
    have e1 : dMul (.int p.b) (.int A) = some (.int (p.b * A)) := dMul_int (.inl (by omega))
    have e2 : dMul (.int ((p.b * A + B) % M1)) (.int ((p.b * A + B) % M1)) = some (.int ((p.b * A + B) % M1 * ((p.b * A + B) % M1))) := dMul_int (.inl (by omega))
    have e3 : ∀ (q : Pst) (ρ : Sl), q.g = p.g → ixAny (.pot p.g) (.int 1) ρ q = .ok (.int q.b) q := fun q ρ h => by rw [← h]; exact ev_pot1
    simp [hc, casgT, tgSub, setPot, e1, e2, e3, dMod_int hM1, dMod_int hM2, dMod_int hm, dDiv_int hS hS']
/-- _law_pick -/
def pickC (dr : Fn) : C := cret (mOp dIx (rd 1) (mFn dr 2 0 [0, 1] (mcons (rd 0) (mcons (mCall dLen (mcons (rd 1) (mret []))) (mret []))) (mret [])))
theorem pick_ok {dr : Fn} (hd : ∀ {g : Nat} {m : Int} {p : Pst}, 0 < m → m < 1073741824 → Good g p → ∃ d p', dr [.pot g, .int m] p = .ok (.int d) false p' ∧ 0 ≤ d ∧ d < m ∧ Good g p') {g : Nat} {p : Pst} {xs : List D} (h0 : xs ≠ []) (hl : xs.length < 1073741824) (hp : Good g p) :
    ∃ d p', fres 2 2 (pickC dr) [.pot g, .lst xs] p = .ok d false p' ∧ d ∈ xs ∧ Good g p' := by
  have hpos : 0 < xs.length := List.length_pos_iff.mpr h0
  obtain ⟨i, p', e, h1, h2, h3⟩ := hd (m := (xs.length : Int)) (by omega) (by omega) hp
  have hi : i.toNat < xs.length := by omega
  have hx : xs[i.toNat]? = some xs[i.toNat] := by simp [hi]
  have hix : dIx (.lst xs) (.int i) = some xs[i.toNat] := by
    have := dIx_lst hx
    rwa [Int.toNat_of_nonneg h1] at this
  refine ⟨xs[i.toNat], p', ?_, List.getElem_mem _, h3⟩
  have en : fres 2 2 (pickC dr) [.pot g, .lst xs] p = sres (pickC dr [some (.val (.pot g)), some (.val (.lst xs))] p) := rfl
  rw [en]
  unfold pickC
  simp [dLen_lst, e, hix]
/-- _law_pot, the usual one -/
def potC (A B U V W M1 M2 Z : Int) : C := cseq (casg 2 (mIf (mCmp dLt (rd 1) (mCall dLen (mcons (rd 0) (mret [])))) (mCall dAbs (mcons (mOp dIx (rd 0) (rd 1)) (mret []))) (mOp dAdd (mOp dMul (mret (.int A)) (rd 1)) (mret (.int B))))) (cretpot (mcons (mCall dMax2 (mcons (mret (.int 0)) (mcons (mOp dSub (rd 2) (mOp dPow (mret (.int 10)) (mret (.int 18)))) (mret [])))) (mcons (mOp dAdd (mOp dMod (mCall dInt (mcons (mOp dAdd (mOp dAdd (mOp dMul (mOp dMod (mCall dInt (mcons (rd 2) (mret []))) (mret (.int M1))) (mret (.int U))) (mOp dMul (mret (.int V)) (rd 1))) (mret (.int W))) (mret []))) (mret (.int M2))) (mret (.int Z))) (mret []))))
theorem pot_ok {A B U V W M1 M2 Z : Int} (hM1 : 0 < M1) (hM1' : M1 ≤ 4294967296) (hM2 : 0 < M2) (hM2' : M2 + Z ≤ 4294967296) (hZ : 0 ≤ Z) (hA : A.natAbs < 2 ^ 64) (hV : V.natAbs < 2 ^ 64) {ns : List Int} {k : Nat} {p : Pst} :
    ∃ g p', fres 3 2 (potC A B U V W M1 M2 Z) [.scr ns, .int k] p = .ok (.pot g) false p' ∧ Good g p' := by
  have en : fres 3 2 (potC A B U V W M1 M2 Z) [.scr ns, .int k] p = sres (potC A B U V W M1 M2 Z [some (.val (.scr ns)), some (.val (.int k)), none] p) := rfl
  rw [en]
  obtain ⟨c, hc⟩ : ∃ c : Int, mIf (mCmp dLt (rd 1) (mCall dLen (mcons (rd 0) (mret [])))) (mCall dAbs (mcons (mOp dIx (rd 0) (rd 1)) (mret []))) (mOp dAdd (mOp dMul (mret (.int A)) (rd 1)) (mret (.int B))) [some (.val (.scr ns)), some (.val (.int k)), none] p = .ok (.int c) p := by
    by_cases h : k < ns.length
    · have h1 : (k : Int) < (ns.length : Int) := by omega
      have e : dIx (.scr ns) (.int k) = some (.int ns[k]) := by
        simp only [dIx, atI, ixN]
        rw [if_pos (by omega), if_pos h1]
        simp [h]
      exact ⟨if ns[k] < 0 then -ns[k] else ns[k], by simp [dLen_scr, h, e]⟩
    · exact ⟨A * k + B, by simp [dLen_scr, h, dMul_int (.inl hA)]⟩
  have q1 := Int.emod_nonneg (c % M1 * U + V * k + W) (show M2 ≠ 0 by omega)
  have q2 := Int.emod_lt_of_pos (c % M1 * U + V * k + W) hM2
  have q3 := Int.emod_nonneg c (show M1 ≠ 0 by omega)
  have q4 := Int.emod_lt_of_pos c hM1
  have e1 : dMul (.int (c % M1)) (.int U) = some (.int (c % M1 * U)) := dMul_int (.inl (by omega))
  have e2 : dMul (.int V) (.int k) = some (.int (V * k)) := dMul_int (.inl hV)
  have e3 : dPow (.int 10) (.int 18) = some (.int (10 ^ 18)) := dPow_int (by decide) (by decide) (by decide)
  refine ⟨p.g + 1, ⟨p.g + 1, if 0 < c - 10 ^ 18 then c - 10 ^ 18 else 0, (c % M1 * U + V * k + W) % M2 + Z⟩, ?_, rfl, ?_, ?_, ?_⟩
  · unfold potC
    rw [ev_cseq, ev_casg, ev_eout, hc]
    simp [cretpot, e1, e2, e3, dMod_int hM1, dMod_int hM2]
  · show 0 ≤ (if 0 < c - 10 ^ 18 then c - 10 ^ 18 else 0)
    split <;> omega
  · show 0 ≤ (c % M1 * U + V * k + W) % M2 + Z
    omega
  · show (c % M1 * U + V * k + W) % M2 + Z < 4294967296
    omega
end PF

namespace PF
open PySem PySem.Spec PyProof.Rows L2

/-! ### code that neither looks at the pot nor changes it -/
def Res.at {α : Type} (r : Res α) (q : Pst) : Res α := match r with
  | .ok a _ => .ok a q
  | .exc x _ => .exc x q
  | .stuck => .stuck
def SRes.at (r : SRes) (q : Pst) : SRes := match r with
  | .nx ρ _ => .nx ρ q
  | .rt d fr _ => .rt d fr q
  | .bk ρ _ => .bk ρ q
  | .ct ρ _ => .ct ρ q
  | .exc x ρ _ => .exc x ρ q
  | .stuck => .stuck
def FRes.at (r : FRes) (q : Pst) : FRes := match r with
  | .ok d fr _ => .ok d fr q
  | .exc x _ => .exc x q
  | .stuck => .stuck
def IM {α : Type} (m : M α) : Prop := ∀ ρ p q, m ρ q = (m ρ p).at q
def IC (c : C) : Prop := ∀ ρ p q, c ρ q = (c ρ p).at q
def IF (G : Fn) : Prop := ∀ ds p q, G ds q = (G ds p).at q
section
variable {α β : Type}
theorem im_ret (a : α) : IM (mret a) := fun _ _ _ => rfl
theorem im_stuck : IM (mstuck : M α) := fun _ _ _ => rfl
theorem im_opt (o : Option α) : IM (mopt o) := fun _ _ _ => by cases o <;> rfl
theorem im_bind {m : M α} {k : α → M β} (h : IM m) (hk : ∀ a, IM (k a)) : IM (mbind m k) := fun ρ p q => by
  rw [ev_mbind, ev_mbind, h ρ p q]
  cases e : m ρ p with
  | ok a p' =>
    simp only [Res.at]
    have : p' = p := by
      have := h ρ p p
      rw [e] at this
      simp only [Res.at, Res.ok.injEq] at this
      exact this.2
    subst this
    exact hk a ρ _ q
  | exc x p' => rfl
  | stuck => rfl
theorem im_rd (i : Nat) : IM (rd i) := fun ρ p q => by
  simp only [ev_rd]
  cases ρ[i]? with
  | none => rfl
  | some o =>
    cases o with
    | none => rfl
    | some w => cases w <;> rfl
theorem im_ite {c : Prop} [Decidable c] {m m' : M α} (h : IM m) (h' : IM m') : IM (if c then m else m') := by split <;> assumption
theorem im_op (f) {ma mb : M D} (ha : IM ma) (hb : IM mb) : IM (mOp f ma mb) := im_bind ha fun _ => im_bind hb fun _ => im_opt _
theorem im_opo (f) {ma mb : M D} (ha : IM ma) (hb : IM mb) : IM (mOpo f ma mb) := im_bind ha fun _ => im_bind hb fun _ => im_opt _
theorem im_cmp (f) {ma mb : M D} (ha : IM ma) (hb : IM mb) : IM (mCmp f ma mb) := im_bind ha fun _ => im_bind hb fun _ => im_opt _
theorem im_b {m : M Bool} (h : IM m) : IM (mB m) := im_bind h fun _ => im_ret _
theorem im_un (f) {ma : M D} (ha : IM ma) : IM (mUn f ma) := im_bind ha fun _ => im_opt _
theorem im_and {t u : M Bool} (h : IM t) (h' : IM u) : IM (mAnd t u) := im_bind h fun _ => im_ite h' (im_ret _)
theorem im_or {t u : M Bool} (h : IM t) (h' : IM u) : IM (mOr t u) := im_bind h fun _ => im_ite (im_ret _) h'
theorem im_not {t : M Bool} (h : IM t) : IM (mNot t) := im_bind h fun _ => im_ret _
theorem im_if {t : M Bool} {m m' : M α} (h : IM t) (h1 : IM m) (h2 : IM m') : IM (mIf t m m') := im_bind h fun _ => im_ite h1 h2
theorem im_frz {mo : M (List D)} (h : IM mo) : IM (mfrz mo) := im_bind h fun _ => im_ret _
theorem im_cons {ma : M D} {ms : M (List D)} (h : IM ma) (h' : IM ms) : IM (mcons ma ms) := im_bind h fun _ => im_bind h' fun _ => im_ret _
theorem im_lim {ms : M (List D)} (h : IM ms) : IM (mlim ms) := im_bind h fun _ => im_ite (im_ret _) im_stuck
theorem im_tup {ms : M (List D)} (h : IM ms) : IM (mtup ms) := im_bind h fun _ => im_ite (im_ret _) im_stuck
theorem im_call (f) {ms : M (List D)} (h : IM ms) : IM (mCall f ms) := im_bind h fun _ => im_opt _
theorem im_lst (f) {ms : M (List D)} (h : IM ms) : IM (mLst f ms) := im_bind h fun _ => im_opt _
theorem im_isi (t) {m : M D} (h : IM m) : IM (mIsi t m) := im_bind h fun _ => im_ite (im_ret _) im_stuck
theorem im_isis (t) {m : M D} (h : IM m) : IM (mIsis t m) := im_bind h fun _ => im_ite (im_ret _) im_stuck
theorem im_isN {m : M D} (h : IM m) : IM (mIsN m) := im_bind h fun _ => im_ite (im_ret _) im_stuck
theorem im_notN {m : M D} (h : IM m) : IM (mNotN m) := im_bind h fun _ => im_ite (im_ret _) im_stuck
theorem im_chain (f g) {ma mb mc : M D} (ha : IM ma) (hb : IM mb) (hc : IM mc) : IM (mChain f g ma mb mc) := im_bind ha fun _ => im_bind hb fun _ => im_bind (im_opt _) fun _ => im_ite (im_bind hc fun _ => im_opt _) (im_ret _)
theorem im_seq {m : M D} (h : IM m) : IM (mSeq m) := im_bind h fun d => by
  cases d <;> first | exact im_ret _ | exact im_stuck | (unfold seqD; exact im_ite (im_ret _) im_stuck)
theorem im_range1 {m : M (List D)} (h : IM m) : IM (mRange1 m) := im_bind h fun _ => im_opt _
theorem im_range2 {m : M (List D)} (h : IM m) : IM (mRange2 m) := im_bind h fun _ => im_opt _
theorem im_enum {m : M (List D)} (h : IM m) : IM (mEnum m) := im_bind h fun d => by split <;> first | exact im_ret _ | exact im_stuck
theorem im_zip {m : M (List D)} (h : IM m) : IM (mZip m) := im_bind h fun d => by split <;> first | exact im_ret _ | exact im_stuck
theorem im_t {m : M D} (h : IM m) : IM (mT m) := im_bind h fun d => by cases d <;> first | exact im_ret _ | exact im_stuck
theorem im_notV {m : M D} (h : IM m) : IM (mNotV m) := im_bind h fun d => by cases d <;> first | exact im_ret _ | exact im_stuck
theorem im_andV {t u : M D} (h : IM t) (h' : IM u) : IM (mAndV t u) := im_bind h fun d => by cases d <;> first | exact im_stuck | exact im_ite h' (im_ret _)
theorem im_orV {t u : M D} (h : IM t) (h' : IM u) : IM (mOrV t u) := im_bind h fun d => by cases d <;> first | exact im_stuck | exact im_ite (im_ret _) h'
theorem im_part {m : M D} (h : IM m) : IM (mPart m) := im_bind h fun d => by cases d <;> first | exact im_ret _ | exact im_stuck
theorem im_sl {me : M D} {ml mh : M (Option Int)} (h : IM me) (hl : IM ml) (hh : IM mh) : IM (mSl me ml mh) := im_bind h fun _ => im_bind hl fun _ => im_bind hh fun _ => im_opt _
theorem im_slo {me : M D} {ml mh : M (Option Int)} (h : IM me) (hl : IM ml) (hh : IM mh) : IM (mSlo me ml mh) := im_bind h fun d => im_bind hl fun _ => im_bind hh fun _ => by cases d <;> first | exact im_ret _ | exact im_stuck
theorem im_rev {me : M D} (h : IM me) : IM (mRevo me) := im_bind h fun d => by cases d <;> first | exact im_ret _ | exact im_stuck
theorem im_uV {ma : M D} {ms : M (List W)} (h : IM ma) (h' : IM ms) : IM (muV ma ms) := im_bind h fun _ => im_bind h' fun _ => im_ret _
theorem im_uO {ma : M (List D)} {ms : M (List W)} (h : IM ma) (h' : IM ms) : IM (muO ma ms) := im_bind h fun _ => im_bind h' fun _ => im_ret _
theorem im_outFn {f : D → Bool → Option α} {G : Fn} (h : IF G) (ds : List D) : IM fun _ p => outFn f (G ds p) := fun ρ p q => by
  show outFn f (G ds q) = (outFn f (G ds p)).at q
  rw [h ds p q]
  cases G ds p with
  | ok d fr p' =>
    simp only [FRes.at, ev_outFn]
    cases f d fr <;> rfl
  | exc x p' => rfl
  | stuck => rfl
theorem im_fn {G : Fn} (h : IF G) (n m ix) {ms mk : M (List D)} (hs : IM ms) (hk : IM mk) : IM (mFn G n m ix ms mk) := im_bind hs fun ds => im_bind hk fun es ρ p q => by
  show (if _ then _ else _) = (if _ then _ else _ : Res D).at q
  split
  · exact im_outFn h _ ρ p q
  · rfl
theorem im_fno {G : Fn} (h : IF G) (n m ix) {ms mk : M (List D)} (hs : IM ms) (hk : IM mk) : IM (mFno G n m ix ms mk) := im_bind hs fun ds => im_bind hk fun es ρ p q => by
  show (if _ then _ else _) = (if _ then _ else _ : Res (List D)).at q
  split
  · exact im_outFn h _ ρ p q
  · rfl
/-- items of what is no pot -/
theorem im_ixO (i) {mb : M D} (h : IM mb) : IM (mIxO i mb) := fun ρ p q => by
  unfold mIxO
  split
  · exact im_bind h (fun _ => im_opt _) ρ p q
  · rfl
theorem im_scal {m : M D} (h : IM m) : IM (mscal m) := fun ρ p q => by
  unfold mscal
  rw [h (thaw ρ) p q]
  cases m (thaw ρ) p with
  | ok a p' => simp only [Res.at]; split <;> rfl
  | exc x p' => rfl
  | stuck => rfl
theorem im_scalt {m : M Bool} (h : IM m) : IM (mscalt m) := fun ρ p q => by
  unfold mscalt
  rw [h (thaw ρ) p q]
  cases m (thaw ρ) p with
  | ok a p' => rfl
  | exc x p' => rfl
  | stuck => rfl
theorem im_same {m : M α} (h : IM m) {ρ : Sl} {p p' : Pst} {a : α} (e : m ρ p = .ok a p') : p' = p := by
  have := h ρ p p
  rw [e] at this
  simp only [Res.at, Res.ok.injEq] at this
  exact this.2
theorem im_lcGo {f : D → Sl → Option Sl} {tt : M Bool} {el : M D} (ht : IM tt) (he : IM el) : ∀ items, IM (lcGo f tt el items)
  | [] => im_ret _
  | x :: xs => fun ρ p q => by
    have ih := im_lcGo (f := f) ht he xs
    simp only [lcGo]
    cases f x ρ with
    | none => rfl
    | some ρ1 =>
      simp only
      rw [ht ρ1 p q]
      cases e1 : tt ρ1 p with
      | stuck => rfl
      | exc y p' => rfl
      | ok b p1 =>
        obtain rfl := im_same ht e1
        cases b with
        | false => simp only [Res.at]; exact ih ρ _ q
        | true =>
          simp only [Res.at]
          rw [he ρ1 p1 q]
          cases e2 : el ρ1 p1 with
          | stuck => rfl
          | exc y p' => rfl
          | ok y p2 =>
            obtain rfl := im_same he e2
            simp only [Res.at]
            rw [ih ρ p2 q]
            cases e3 : lcGo f tt el xs ρ p2 <;> rfl
theorem im_lc (vs) {mi : M (List D)} (f) {tt : M Bool} {el : M D} (hi : IM mi) (ht : IM tt) (he : IM el) : IM (mLc vs mi f tt el) := im_bind hi fun items ρ p q => by
  show (match lcGo f tt el items (wipeS ρ vs) q with | .ok ys p' => .ok ys p' | _ => Res.stuck) = Res.at (match lcGo f tt el items (wipeS ρ vs) p with | .ok ys p' => .ok ys p' | _ => Res.stuck) q
  rw [im_lcGo ht he items (wipeS ρ vs) p q]
  cases lcGo f tt el items (wipeS ρ vs) p <;> rfl
theorem im_yes : IM mYes := im_ret _
/-- blocks -/
theorem ic_skip : IC cskip := fun _ _ _ => rfl
theorem ic_brk : IC cbrk := fun _ _ _ => rfl
theorem ic_cnt : IC ccnt := fun _ _ _ => rfl
theorem ic_stuck : IC cstuck := fun _ _ _ => rfl
theorem ic_retN : IC cretN := fun _ _ _ => rfl
theorem ic_seq {a b : C} (ha : IC a) (hb : IC b) : IC (cseq a b) := fun ρ p q => by
  rw [ev_cseq, ev_cseq, ha ρ p q]
  cases e : a ρ p with
  | nx ρ' p' =>
    have := ha ρ p p
    rw [e] at this
    simp only [SRes.at, SRes.nx.injEq, true_and] at this
    subst this
    exact hb ρ' _ q
  | rt d fr p' => rfl
  | bk ρ' p' => rfl
  | ct ρ' p' => rfl
  | exc x ρ' p' => rfl
  | stuck => rfl
theorem ic_eout {m : M α} {k : α → C} (h : IM m) (hk : ∀ a, IC (k a)) : IC (eout m k) := fun ρ p q => by
  rw [ev_eout, ev_eout, h ρ p q]
  cases e : m ρ p with
  | ok a p' =>
    obtain rfl := im_same h e
    exact hk a ρ _ q
  | exc x p' => rfl
  | stuck => rfl
theorem ic_ite {c : Prop} [Decidable c] {m m' : C} (h : IC m) (h' : IC m') : IC (if c then m else m') := by split <;> assumption
theorem ic_expr {m : M D} (h : IM m) : IC (cexpr m) := ic_eout h fun _ => ic_skip
theorem ic_ret {m : M D} (h : IM m) : IC (cret m) := ic_eout h fun _ _ _ _ => rfl
theorem ic_reto {m : M (List D)} (h : IM m) : IC (creto m) := ic_eout h fun _ _ _ _ => rfl
theorem ic_retown (i) : IC (cretown i) := fun ρ p q => by unfold cretown; split <;> rfl
theorem ic_if {t : M Bool} {a b : C} (h : IM t) (ha : IC a) (hb : IC b) : IC (cif t a b) := ic_eout h fun _ => ic_ite ha hb
theorem ic_asg (i) {m : M D} (h : IM m) : IC (casg i m) := ic_eout h fun _ _ _ _ => rfl
theorem ic_aso (i) {m : M (List D)} (h : IM m) : IC (caso i m) := ic_eout h fun _ _ _ _ => rfl
theorem ic_frz (i) : IC (cfrz i) := fun ρ p q => by unfold cfrz; split <;> rfl
theorem ic_asgW (is) {m : M (List W)} (h : IM m) : IC (casgW is m) := ic_eout h fun ws ρ p q => by
  show (if _ then _ else _) = SRes.at (if _ then _ else _) q
  split <;> rfl
theorem ic_app (i) {m : M D} (h : IM m) : IC (capp i m) := fun ρ p q => by
  unfold capp
  split
  · exact ic_eout h (fun a ρ p q => by show (if _ then _ else _) = SRes.at (if _ then _ else _) q; split <;> rfl) ρ p q
  · rfl
theorem ic_pop (i) : IC (cpop i) := fun ρ p q => by
  unfold cpop
  split
  · split <;> rfl
  · rfl
def ITg (G : D → Sl → Pst → Option (Sl × Pst)) : Prop := ∀ d ρ p q, G d ρ q = (G d ρ p).map fun x => (x.1, q)
def ITgs (G : List D → Sl → Pst → Option (Sl × Pst)) : Prop := ∀ d ρ p q, G d ρ q = (G d ρ p).map fun x => (x.1, q)
theorem it_name (i) : ITg (tgName i) := fun _ _ _ _ => rfl
theorem it_nil : ITgs tgNil := fun d ρ p q => by cases d <;> rfl
theorem it_cons {f fs} (h : ITg f) (h' : ITgs fs) : ITgs (tgCons f fs) := fun d ρ p q => by
  cases d with
  | nil => rfl
  | cons d r =>
    simp only [tgCons]
    rw [h d ρ p q]
    cases e : f d ρ p with
    | none => rfl
    | some w =>
      obtain ⟨ρ1, p1⟩ := w
      have := h d ρ p p
      rw [e] at this
      simp only [Option.map_some, Option.some.injEq, Prod.mk.injEq, true_and] at this
      subst this
      exact h' r ρ1 _ q
theorem it_tup (n) {fs} (h : ITgs fs) : ITg (tgTup n fs) := fun d ρ p q => by
  cases d <;> first | rfl | skip
  simp only [tgTup]
  split
  · exact h _ ρ p q
  · rfl
theorem ic_forGo {G} {body : C} (hG : ITg G) (hb : IC body) : ∀ items, IC (cforGo G body items)
  | [] => ic_skip
  | d :: ds => fun ρ p q => by
    have ih := ic_forGo hG hb ds
    simp only [cforGo]
    rw [hG d ρ p q]
    cases e : G d ρ p with
    | none => rfl
    | some w =>
      obtain ⟨ρ1, p1⟩ := w
      have := hG d ρ p p
      rw [e] at this
      simp only [Option.map_some, Option.some.injEq, Prod.mk.injEq, true_and] at this
      subst this
      simp only [Option.map_some]
      rw [hb ρ1 p1 q]
      have same := hb ρ1 p1 p1
      cases e2 : body ρ1 p1 with
      | nx ρ' p' =>
        rw [e2] at same
        simp only [SRes.at, SRes.nx.injEq, true_and] at same
        subst same
        exact ih ρ' _ q
      | ct ρ' p' =>
        rw [e2] at same
        simp only [SRes.at, SRes.ct.injEq, true_and] at same
        subst same
        exact ih ρ' _ q
      | bk ρ' p' => rfl
      | rt d fr p' => rfl
      | exc x ρ' p' => rfl
      | stuck => rfl
theorem ic_for {mi : M (List D)} {G} {body : C} (h : IM mi) (hG : ITg G) (hb : IC body) : IC (cfor mi G body) := ic_eout h fun _ => ic_forGo hG hb _
theorem ic_while {mt : M Bool} {body : C} (h : IM mt) (hb : IC body) : ∀ n, IC (cwhile mt body n)
  | 0 => ic_stuck
  | n + 1 => ic_eout h fun k => ic_ite (fun ρ p q => by
    have ih := ic_while h hb n
    show (match body ρ q with | .nx ρ' p' => cwhile mt body n ρ' p' | .ct ρ' p' => cwhile mt body n ρ' p' | .bk ρ' p' => .nx ρ' p' | r => r) = SRes.at (match body ρ p with | .nx ρ' p' => cwhile mt body n ρ' p' | .ct ρ' p' => cwhile mt body n ρ' p' | .bk ρ' p' => .nx ρ' p' | r => r) q
    rw [hb ρ p q]
    have same := hb ρ p p
    cases e2 : body ρ p with
    | nx ρ' p' =>
      rw [e2] at same
      simp only [SRes.at, SRes.nx.injEq, true_and] at same
      subst same
      exact ih ρ' _ q
    | ct ρ' p' =>
      rw [e2] at same
      simp only [SRes.at, SRes.ct.injEq, true_and] at same
      subst same
      exact ih ρ' _ q
    | bk ρ' p' => rfl
    | rt d fr p' => rfl
    | exc x ρ' p' => rfl
    | stuck => rfl) ic_skip
theorem if_fres (n k) {c : C} (h : IC c) : IF (fres n k c) := fun ds p q => by
  unfold fres
  split
  · rw [h _ p q]
    cases c (ds.map (fun d => some (W.val d)) ++ List.replicate (n - k) none) p <;> rfl
  · rfl
/-- what is seen at one state of the pot holds at all -/
theorem IF.use {G : Fn} (h : IF G) {ds : List D} {p0 p1 : Pst} {d : D} {fr : Bool} (e : G ds p0 = .ok d fr p1) (p : Pst) : G ds p = .ok d fr p := by
  rw [h ds p0 p, e]; rfl
end
/-- a function's own list of ints, looked at -/
def intsR : FRes → Option (List Int)
  | .ok (.lst xs) true _ => intsOf xs
  | _ => none
theorem intsOf_eq : ∀ {ds : List D} {ns : List Int}, intsOf ds = some ns → ds = ns.map .int
  | [], ns, h => by simp [intsOf] at h; subst h; rfl
  | d :: ds, ns, h => by
    cases d <;> simp [intsOf] at h
    obtain ⟨l, h1, rfl⟩ := h
    rw [List.map_cons, ← intsOf_eq h1]
theorem IF.ints {G : Fn} (h : IF G) {ds : List D} {p0 : Pst} {l : List Int} (e : intsR (G ds p0) = some l) (p : Pst) : G ds p = .ok (.lst (l.map .int)) true p := by
  unfold intsR at e
  split at e
  · rename_i xs p1 q
    rw [intsOf_eq e] at q
    exact h.use q p
  · cases e
end PF

namespace PF
open PySem PySem.Spec PyProof.Rows L2

/-! ### texts of data: bounds -/
structure RL (n k : Nat) (d : D) : Prop where
  pl : pl d = true
  sh : (toPy d).showable = true
  len : (toPy d).shown.length ≤ n
  dep : dep d ≤ k
theorem RL.ok {n k : Nat} {d : D} (h : RL n k d) (hn : n ≤ 16000000) (hk : k ≤ 60) : okRepr d = true := okRepr_iff.mpr ⟨h.pl, h.sh, by have := h.len; rw [sizeLine_eq]; omega, Nat.le_trans h.dep hk⟩
theorem RL.mono {n k n' k' : Nat} {d : D} (h : RL n k d) (hn : n ≤ n') (hk : k ≤ k') : RL n' k' d := ⟨h.pl, h.sh, Nat.le_trans h.len hn, Nat.le_trans h.dep hk⟩
theorem rl_non : RL 4 0 .non := ⟨rfl, rfl, by decide, Nat.le_refl _⟩
theorem rl_bl (b : Bool) : RL 5 0 (.bl b) := ⟨rfl, rfl, by cases b <;> decide, Nat.le_refl _⟩
theorem rl_int {i : Int} (h : i.natAbs < 10 ^ 12) : RL 13 0 (.int i) := by
  refine ⟨rfl, ?_, PyData.shown_int_le h, Nat.le_refl _⟩
  simp only [toPy, PyData.showable, decide_eq_true_eq]
  by_cases h0 : i.natAbs = 0
  · rw [h0]; decide
  · have h1 : i.natAbs < 2 ^ 40 := Nat.lt_trans h (by decide)
    have h2 : i.natAbs.log2 < 40 := (Nat.log2_lt h0).mpr h1
    omega
theorem showableAll_map : ∀ xs : List D, (∀ x ∈ xs, (toPy x).showable = true) → PyData.showableAll (toPys xs) = true
  | [], _ => by simp [toPys, PyData.showableAll]
  | x :: xs, h => by
    simp only [toPys, PyData.showableAll, Bool.and_eq_true]
    exact ⟨h x List.mem_cons_self, showableAll_map xs fun y hy => h y (List.mem_cons_of_mem _ hy)⟩
theorem shownAll_sum (n : Nat) : ∀ xs : List D, (∀ x ∈ xs, (toPy x).shown.length ≤ n) → ((PyData.shownAll (toPys xs)).map (·.length)).sum ≤ xs.length * n ∧ (PyData.shownAll (toPys xs)).length = xs.length
  | [], _ => by simp [toPys, PyData.shownAll]
  | x :: xs, h => by
    obtain ⟨h1, h2⟩ := shownAll_sum n xs fun y hy => h y (List.mem_cons_of_mem _ hy)
    have h3 := h x List.mem_cons_self
    simp only [toPys, PyData.shownAll, List.map_cons, List.sum_cons, List.length_cons, h2]
    refine ⟨?_, trivial⟩
    rw [Nat.add_mul]; omega
theorem deps_le (k : Nat) : ∀ xs : List D, (∀ x ∈ xs, dep x ≤ k) → deps xs ≤ k
  | [], _ => by simp [deps]
  | x :: xs, h => by
    simp only [deps]
    exact Nat.max_le.mpr ⟨h x List.mem_cons_self, deps_le k xs fun y hy => h y (List.mem_cons_of_mem _ hy)⟩
theorem rl_lst {n k : Nat} {xs : List D} (h : ∀ x ∈ xs, RL n k x) : RL (xs.length * (n + 2) + 3) (k + 1) (.lst xs) := by
  obtain ⟨h1, h2⟩ := shownAll_sum n xs fun x hx => (h x hx).len
  refine ⟨?_, ?_, ?_, ?_⟩
  · simp only [PF.pl, pls_all, List.all_eq_true]; exact fun x hx => (h x hx).pl
  · simp only [toPy, PyData.showable]; exact showableAll_map xs fun x hx => (h x hx).sh
  · have := listText_len_le (PyData.shownAll (toPys xs))
    simp only [toPy, PyData.shown]
    rw [h2] at this
    rw [Nat.mul_add]; omega
  · simp only [PF.dep]; have := deps_le k xs fun x hx => (h x hx).dep; omega
theorem rl_tup {n k : Nat} {xs : List D} (h : ∀ x ∈ xs, RL n k x) : RL (xs.length * (n + 2) + 3) (k + 1) (.tup xs) := by
  obtain ⟨h1, h2⟩ := shownAll_sum n xs fun x hx => (h x hx).len
  refine ⟨?_, ?_, ?_, ?_⟩
  · simp only [PF.pl, pls_all, List.all_eq_true]; exact fun x hx => (h x hx).pl
  · simp only [toPy, PyData.showable]; exact showableAll_map xs fun x hx => (h x hx).sh
  · have := tupleText_len_le (PyData.shownAll (toPys xs))
    simp only [toPy, PyData.shown]
    rw [h2] at this
    rw [Nat.mul_add]; omega
  · simp only [PF.dep]; have := deps_le k xs fun x hx => (h x hx).dep; omega
theorem dReprF_ok {d : D} (h : okRepr d = true) : dReprF [d] = some (.str (rtext d)) := by simp [dReprF, h]
/-! ### == on data -/
theorem okEq_bl (b : Bool) : okEq (.bl b) = true := by cases b <;> rfl
theorem okEq_non : okEq .non = true := rfl
theorem okEq_int (i : Int) : okEq (.int i) = true := by simp [okEq, pl, dep]
theorem dep_ints (ns : List Int) : deps (ns.map .int) = 0 := by
  induction ns with
  | nil => simp [deps]
  | cons n ns ih => simp [deps, dep, ih]
theorem pls_ints (ns : List Int) : pls (ns.map .int) = true := by
  rw [pls_all, List.all_eq_true]
  intro x hx
  obtain ⟨n, _, rfl⟩ := List.mem_map.mp hx
  rfl
theorem okEq_ints (ns : List Int) : okEq (.lst (ns.map .int)) = true := by simp [okEq, pl, dep, dep_ints, pls_ints]
theorem okEq_intsT (ns : List Int) : okEq (.tup (ns.map .int)) = true := by simp [okEq, pl, dep, dep_ints, pls_ints]
@[simp] theorem dEq_bl (a b : Bool) : dEq (.bl a) (.bl b) = some (decide (a = b)) := by cases a <;> cases b <;> rfl
@[simp] theorem dNe_bl (a b : Bool) : dNe (.bl a) (.bl b) = some (!decide (a = b)) := by cases a <;> cases b <;> rfl
theorem eqvAll_ints : ∀ ms ns : List Int, PyData.eqvAll (toPys (ms.map .int)) (toPys (ns.map .int)) = decide (ms = ns)
  | [], [] => by simp [toPys, PyData.eqvAll]
  | [], n :: ns => by simp [toPys, PyData.eqvAll]
  | m :: ms, [] => by simp [toPys, PyData.eqvAll]
  | m :: ms, n :: ns => by
    simp only [List.map_cons, toPys, PyData.eqvAll, toPy, PyData.eqv, eqvAll_ints ms ns]
    by_cases h1 : m = n <;> by_cases h2 : ms = ns <;> simp [h1, h2]
theorem dEq_ints (ms ns : List Int) : dEq (.lst (ms.map .int)) (.lst (ns.map .int)) = some (decide (ms = ns)) := by
  simp only [dEq, okEq_ints, Bool.and_self, if_true, toPy, PyData.eqv, eqvAll_ints]
theorem dNe_ints (ms ns : List Int) : dNe (.lst (ms.map .int)) (.lst (ns.map .int)) = some (!decide (ms = ns)) := by simp [dNe, dEq_ints]
theorem dEq_intsT (ms ns : List Int) : dEq (.tup (ms.map .int)) (.tup (ns.map .int)) = some (decide (ms = ns)) := by
  simp only [dEq, okEq_intsT, Bool.and_self, if_true, toPy, PyData.eqv, eqvAll_ints]
theorem dNe_intsT (ms ns : List Int) : dNe (.tup (ms.map .int)) (.tup (ns.map .int)) = some (!decide (ms = ns)) := by simp [dNe, dEq_intsT]
theorem dEq_nil {xs : List D} (h : okEq (.lst xs) = true) : dEq (.lst xs) (.lst []) = some xs.isEmpty := by
  have h0 : okEq (.lst []) = true := rfl
  simp only [dEq, h, h0, Bool.and_self, if_true, toPy, PyData.eqv]
  cases xs <;> simp [toPys, PyData.eqvAll]
theorem dNe_nil {xs : List D} (h : okEq (.lst xs) = true) : dNe (.lst xs) (.lst []) = some (!xs.isEmpty) := by simp [dNe, dEq_nil h]
theorem dIn_ints (i : Int) (ns : List Int) : dIn (.int i) (.lst (ns.map .int)) = some (decide (i ∈ ns)) := by
  simp only [dIn, okEq_int, okEq_ints, Bool.and_self, if_true, List.any_map]
  congr 1
  induction ns with
  | nil => simp
  | cons n ns ih =>
    rw [List.any_cons, ih]
    simp only [Function.comp, toPy, PyData.eqv, List.mem_cons]
    by_cases h1 : n = i
    · simp [h1]
    · have h2 : ¬ i = n := fun e => h1 e.symm
      simp [h1, h2]
theorem dNotIn_ints (i : Int) (ns : List Int) : dNotIn (.int i) (.lst (ns.map .int)) = some (!decide (i ∈ ns)) := by simp [dNotIn, dIn_ints]
theorem dIn_non (ns : List Int) : dIn .non (.lst (ns.map .int)) = some false := by
  simp only [dIn, okEq_non, okEq_ints, Bool.and_self, if_true, List.any_map]
  congr 1
  rw [List.any_eq_false]
  intro n _
  simp [toPy, PyData.eqv]
theorem dNotIn_non (ns : List Int) : dNotIn .non (.lst (ns.map .int)) = some true := by simp [dNotIn, dIn_non]
theorem dAny_bls (bs : List Bool) : dAny [.lst (bs.map .bl)] = some (.bl (bs.any id)) := by simp [dAny, bsOf_map]
theorem dAll_bls (bs : List Bool) : dAll [.lst (bs.map .bl)] = some (.bl (bs.all id)) := by simp [dAll, bsOf_map]
theorem dAny_map {α : Type} (f : α → Bool) (l : List α) : dAny [.lst (l.map fun x => .bl (f x))] = some (.bl (l.any f)) := by
  have h := dAny_bls (l.map f)
  rw [List.map_map, List.any_map] at h
  exact h
theorem dAll_map {α : Type} (f : α → Bool) (l : List α) : dAll [.lst (l.map fun x => .bl (f x))] = some (.bl (l.all f)) := by
  have h := dAll_bls (l.map f)
  rw [List.map_map, List.all_map] at h
  exact h
/-! ### whole numbers from 0 on -/
abbrev iN (k : Nat) : Int := (k : Int)
theorem dI_eq (k : Nat) : D.int (k : Int) = dI k := rfl
theorem lit (n : Nat) : D.int (@OfNat.ofNat Int n _) = dI n := rfl
theorem dI_map (l : List Nat) : l.map dI = (l.map iN).map .int := by rw [List.map_map]; rfl
theorem dI_toNat {i : Int} (h : 0 ≤ i) : D.int i = dI i.toNat := by unfold dI; rw [Int.toNat_of_nonneg h]
@[simp] theorem noPot_dI (k : Nat) : noPot (dI k) = true := by simp [dI]
@[simp] theorem isNon_dI (k : Nat) : isNon (dI k) = false := by simp [dI]
@[simp] theorem isTy_dI (k : Nat) : isTy .int (dI k) = true := by simp [dI, isTy]
@[simp] theorem isTyb_dI (k : Nat) : isTy .bool (dI k) = false := by simp [dI, isTy]
theorem nMod {a c : Nat} (h : 0 < c) : dMod (dI a) (dI c) = some (dI (a % c)) := by
  unfold dI; rw [dMod_int (by omega)]; norm_cast
theorem nDiv {a c : Nat} (h : 0 < c) (h2 : c < 1073741824) : dDiv (dI a) (dI c) = some (dI (a / c)) := by
  unfold dI; rw [dDiv_int (by omega) (by omega)]; norm_cast
theorem nMul {a b : Nat} (h : a < 2 ^ 64 ∨ b < 2 ^ 64) : dMul (dI a) (dI b) = some (dI (a * b)) := by
  unfold dI; rw [dMul_int (by omega)]; norm_cast
@[simp] theorem nAdd {a b : Nat} : dAdd (dI a) (dI b) = some (dI (a + b)) := by
  unfold dI; rw [dAdd_int]; norm_cast
theorem nSub {a b : Nat} (h : b ≤ a) : dSub (dI a) (dI b) = some (dI (a - b)) := by
  unfold dI; rw [dSub_int]; norm_cast
@[simp] theorem nEq {a b : Nat} : dEq (dI a) (dI b) = some (decide (a = b)) := by
  unfold dI; rw [dEq_int]; norm_cast
@[simp] theorem nNe {a b : Nat} : dNe (dI a) (dI b) = some (!decide (a = b)) := by
  unfold dI; rw [dNe_int]; norm_cast
@[simp] theorem nLt {a b : Nat} : dLt (dI a) (dI b) = some (decide (a < b)) := by
  unfold dI; rw [dLt_int]; norm_cast
@[simp] theorem nLe {a b : Nat} : dLe (dI a) (dI b) = some (decide (a ≤ b)) := by
  unfold dI; rw [dLe_int]; norm_cast
@[simp] theorem nGt {a b : Nat} : dGt (dI a) (dI b) = some (decide (b < a)) := by
  unfold dI; rw [dGt_int]; norm_cast
@[simp] theorem nGe {a b : Nat} : dGe (dI a) (dI b) = some (decide (b ≤ a)) := by
  unfold dI; rw [dGe_int]; norm_cast
@[simp] theorem niLt {a b : Nat} : dI2b iLt (dI a) (dI b) = some (decide (a < b)) := by
  unfold dI; rw [dI2b_int]; unfold iLt; norm_cast
@[simp] theorem niLe {a b : Nat} : dI2b iLe (dI a) (dI b) = some (decide (a ≤ b)) := by
  unfold dI; rw [dI2b_int]; unfold iLe; norm_cast
@[simp] theorem nInt {a : Nat} : dInt [dI a] = some (dI a) := rfl
@[simp] theorem nAbs {a : Nat} : dAbs [dI a] = some (dI a) := by
  unfold dI; rw [dAbs_int, if_neg (by omega)]
@[simp] theorem nLen_lst (xs : List D) : dLen [.lst xs] = some (dI xs.length) := rfl
@[simp] theorem nLen_tup (xs : List D) : dLen [.tup xs] = some (dI xs.length) := rfl
@[simp] theorem nLen_scr (xs : List Int) : dLen [.scr xs] = some (dI xs.length) := rfl
theorem nMax2 {a b : Nat} : dMax2 [dI a, dI b] = some (dI (max a b)) := by
  unfold dI; rw [dMax2_int]; congr 2; split <;> omega
theorem nMin2 {a b : Nat} : dMin2 [dI a, dI b] = some (dI (min a b)) := by
  unfold dI; rw [dMin2_int]; congr 2; split <;> omega
theorem nIx_lst {xs : List D} {k : Nat} {d : D} (h : xs[k]? = some d) : dIx (.lst xs) (dI k) = some d := dIx_lst h
theorem nIx_tup {xs : List D} {k : Nat} {d : D} (h : xs[k]? = some d) : dIx (.tup xs) (dI k) = some d := dIx_tup h
theorem nRange1 {n : Nat} (h : n ≤ 16000000) : dRange1 [dI n] = some (rgL 0 n) := dRange1_nat n h
theorem rgL_dI (n : Nat) : rgL 0 n = (List.range n).map dI := by
  unfold rgL dI
  refine List.map_congr_left fun k _ => ?_
  rw [Int.zero_add]
theorem rgL_from (lo n : Nat) : rgL (lo : Int) n = (List.range n).map fun k => dI (lo + k) := by
  unfold rgL dI
  refine List.map_congr_left fun k _ => ?_
  norm_cast
theorem nRange2 {a b : Nat} (h : b ≤ 16000000) (ha : a < 2 ^ 60) : dRange2 [dI a, dI b] = some ((List.range (b - a)).map fun k => dI (a + k)) := by
  rw [← rgL_from]
  have hc : -(2 ^ 60) ≤ (a : Int) ∧ (a : Int) < 2 ^ 60 ∧ -(2 ^ 60) ≤ (b : Int) ∧ (b : Int) < 2 ^ 60 ∧ (b : Int) - a ≤ 16000000 := ⟨by omega, by omega, by omega, by omega, by omega⟩
  have e : ((b : Int) - a).toNat = b - a := by omega
  have : dRange2 [.int (a : Int), .int (b : Int)] = some (rgL a ((b : Int) - a).toNat) := by
    simp only [dRange2]
    rw [if_pos hc]
  rw [e] at this
  exact this
/-- ints as lists of whole numbers -/
theorem map_iN_inj (ms ns : List Nat) : (ms.map iN = ns.map iN) ↔ ms = ns := by
  constructor
  · intro h
    have := congrArg (fun l => l.map Int.toNat) h
    simp only [List.map_map] at this
    have e : (Int.toNat ∘ iN) = id := by funext k; simp [iN]
    simpa [e] using this
  · rintro rfl; rfl
theorem nEqL (ms ns : List Nat) : dEq (.lst (ms.map dI)) (.lst (ns.map dI)) = some (decide (ms = ns)) := by
  rw [dI_map, dI_map, dEq_ints]; congr 1; exact decide_eq_decide.mpr (map_iN_inj ms ns)
theorem nNeL (ms ns : List Nat) : dNe (.lst (ms.map dI)) (.lst (ns.map dI)) = some (!decide (ms = ns)) := by simp [dNe, nEqL]
theorem nEqNil (ms : List Nat) : dEq (.lst (ms.map dI)) (.lst []) = some (decide (ms = [])) := nEqL ms []
theorem nNeNil (ms : List Nat) : dNe (.lst (ms.map dI)) (.lst []) = some (!decide (ms = [])) := nNeL ms []
theorem nIn (k : Nat) (ns : List Nat) : dIn (dI k) (.lst (ns.map dI)) = some (decide (k ∈ ns)) := by
  rw [dI_map]
  show dIn (.int (k : Int)) _ = _
  rw [dIn_ints]; congr 1; refine decide_eq_decide.mpr ?_
  constructor
  · intro h
    obtain ⟨n, h1, h2⟩ := List.mem_map.mp h
    have : n = k := Int.ofNat.inj h2
    rwa [this] at h1
  · intro h; exact List.mem_map.mpr ⟨k, h, rfl⟩
theorem nNotIn (k : Nat) (ns : List Nat) : dNotIn (dI k) (.lst (ns.map dI)) = some (!decide (k ∈ ns)) := by simp [dNotIn, nIn]
theorem rl_dI {k : Nat} (h : k < 10 ^ 12) : RL 13 0 (dI k) := rl_int (by simpa using h)
/-- while, over states of some type -/
theorem cwhile_st {α : Type} {mt : M Bool} {body : C} {p : Pst} (st : α → Sl) (μ : α → Nat) (Inv : α → Prop) (t : α → Bool) (ht : ∀ a, Inv a → mt (st a) p = .ok (t a) p)
    (hb : ∀ a, Inv a → t a = true → ∃ a', body (st a) p = .nx (st a') p ∧ Inv a' ∧ μ a' < μ a) : ∀ (n : Nat) (a : α), Inv a → μ a < n → ∃ a', cwhile mt body n (st a) p = .nx (st a') p ∧ Inv a' ∧ t a' = false
  | 0, a, _, h => absurd h (Nat.not_lt_zero _)
  | n + 1, a, hI, hm => by
    cases e : t a with
    | false => exact ⟨a, cwhile_end (by rw [ht a hI, e]), hI, e⟩
    | true =>
      obtain ⟨a', h1, h2, h3⟩ := hb a hI e
      obtain ⟨a2, h4, h5⟩ := cwhile_st st μ Inv t ht hb n a' h2 (by omega)
      exact ⟨a2, by rw [cwhile_step (by rw [ht a hI, e]) h1]; exact h4, h5⟩
end PF

namespace PF
open PySem PySem.Spec PyProof.Rows L2
section
variable {X : Cx} {En : Ent} {Wx : WX} {e a b o : Expr} {me ma mb m : M D} {ms : M (List D)} {pos p : Pos} {es : List Expr}
/-! ### the first place of an equal item -/
def firstAt (z : D) : List D → Option Nat
  | [] => none
  | x :: xs => if PyData.eqv (toPy x) (toPy z) then some 0 else (firstAt z xs).map (· + 1)
theorem firstAt_spec {z : D} : ∀ {xs : List D} {j : Nat}, firstAt z xs = some j → ∃ y, (toPys xs)[j]? = some y ∧ PyData.eqv y (toPy z) = true ∧ ∀ (m : Nat) (y' : PyData), m < j → (toPys xs)[m]? = some y' → PyData.eqv y' (toPy z) = false
  | [], j, h => by simp [firstAt] at h
  | x :: xs, j, h => by
    unfold firstAt at h
    split at h
    · rename_i hc
      simp only [Option.some.injEq] at h
      subst h
      exact ⟨toPy x, by simp [toPys], hc, fun m y' hm => absurd hm (Nat.not_lt_zero _)⟩
    · rename_i hc
      cases q : firstAt z xs with
      | none => rw [q] at h; simp at h
      | some k =>
        rw [q] at h
        simp only [Option.map_some, Option.some.injEq] at h
        subst h
        obtain ⟨y, h1, h2, h3⟩ := firstAt_spec q
        refine ⟨y, by simpa [toPys] using h1, h2, fun m y' hm hy => ?_⟩
        cases m with
        | zero =>
          have : y' = toPy x := by simpa [toPys] using hy.symm
          rw [this]
          simpa using hc
        | succ m => exact h3 m y' (by omega) (by simpa [toPys] using hy)
def dIndex : D → D → Option D
  | .lst xs, z => if okEq z && okEq (.lst xs) then (firstAt z xs).map fun j => .int (j : Nat) else none
  | _, _ => none
theorem dIndex_some {xs : List D} {y z : D} (h : dIndex (.lst xs) y = some z) : okEq y = true ∧ okEq (.lst xs) = true ∧ ∃ j, firstAt y xs = some j ∧ z = .int (j : Nat) := by
  simp only [dIndex] at h
  split at h
  · rename_i hc
    simp only [Bool.and_eq_true] at hc
    cases q : firstAt y xs with
    | none => rw [q] at h; cases h
    | some j =>
      rw [q] at h
      simp only [Option.map_some, Option.some.injEq] at h
      exact ⟨hc.1, hc.2, j, rfl, h.symm⟩
  · cases h
def lstK {α : Type} (d : D) (k : List D → M α) : M α := match d with
  | .lst xs => k xs
  | _ => mstuck
@[simp] theorem lstK_lst {α : Type} (xs : List D) (k : List D → M α) : lstK (.lst xs) k = k xs := rfl
def mIndex (ma mb : M D) : M D := mbind ma fun d => lstK d fun xs => mbind mb fun y => mopt (dIndex (.lst xs) y)
@[simp] theorem ev_mIndex (ma mb : M D) (ρ : Sl) (p : Pst) : mIndex ma mb ρ p = mbind ma (fun d => lstK d fun xs => mbind mb fun y => mopt (dIndex (.lst xs) y)) ρ p := by cases p; rfl
theorem im_lstK {α : Type} (d : D) {k : List D → M α} (h : ∀ xs, IM (k xs)) : IM (lstK d k) := by
  cases d <;> first | exact h _ | exact im_stuck
theorem im_index {ma mb : M D} (ha : IM ma) (hb : IM mb) : IM (mIndex ma mb) := im_bind ha fun d => im_lstK d fun xs => im_bind hb fun _ => im_opt _
theorem pm_index {ap cp : Pos} (hu : Un X) (ho : PM X Wx o ma) (ha : PM X Wx e mb) (hbase : attributeBase o "index" X.env (eval o X.env) = eval o X.env := by rfl)
    (hfew : ((backTo cp (starEach [e] X.env)).all (fun x => !x.1) && (backToKw cp (keywordEach [] X.env)).all (fun x => x.1.isSome) && decide (([e] : List Expr).length + ([] : List Keyword).length + (if ([] : List Keyword).isEmpty then 0 else 1) < 30)) = true := by rfl)
    (hline : (ap.endLine == cp.line) = true := by rfl) (hs : starEach [e] X.env = (false, eval e X.env) :: starEach [] X.env := by rfl) (hpl : (backTo cp (starEach [] X.env)).any (·.1) = false := by rfl) :
    PM X Wx (.Call (.Attribute o "index" ap) [e] [] cp) (mIndex ma mb) :=
  ⟨(pe_bm PySem.F.plainAttrs_list PySem.F.slot_list_index PySem.F.type_list_index (mt_indexD hu) ho.pe (pa_cons ha.pe pa_nil hs) hbase hfew hline hs hpl).imp fun σ H Q ⟨F, pa, p, ρ, gs, s, o⟩ => by
    refine TM.of gs s (o.bind.mono fun d p1 F1 H1 pa1 gr1 gs1 o1 s1 v1 r1 => ?_)
    cases d <;> first | exact o1.elim | skip
    obtain ⟨a, vs, rfl, h1, hz, rs⟩ := r1.lstH gs1
    refine ⟨.inl ⟨rfl, _, SqL.of h1⟩, ?_⟩
    refine TM.of gs1 s1 (o1.bind.mono fun y p2 F2 H2 pa2 gr2 gs2 o2 s2 v2 r2 => ?_)
    obtain ⟨z, ez, o3⟩ := o2.opt
    rename_i xs
    obtain ⟨hy, hx, j, q, rfl⟩ := dIndex_some ez
    obtain ⟨y', e1, e2, e3⟩ := firstAt_spec q
    have r1' := r1.mono gr2.fz
    have d1 := r1'.dp gs2.sub (pl_of hx)
    have sl := shaped_ok hx
    simp only [toPy] at d1 sl
    exact ⟨a, v2, toPy y, toPys xs, j, y', rfl, rfl, d1, r2.dp gs2.sub (pl_of hy), sl, shaped_ok hy, e1, e2, e3, o3.ret gs2 _ (.int _)⟩⟩
/-! ### list(range(..)) -/
theorem rgV_map (a : Int) (n : Nat) : ((List.range n).map fun i => V.int (a + (i : Nat))) = ((List.range n).map fun (k : Nat) => a + (k : Int)).map V.int := by rw [List.map_map]; rfl
theorem rgL_map (a : Int) (n : Nat) : rgL a n = ((List.range n).map fun (k : Nat) => a + (k : Int)).map D.int := by unfold rgL; rw [List.map_map]; rfl
theorem dRange1_some {x : D} {z : List D} (h : dRange1 [x] = some z) : ∃ j, x = .int j ∧ (j ≤ 16000000 ∧ -(2 ^ 60) ≤ j) ∧ z = rgL 0 j.toNat := by
  cases x <;> first | (simp [dRange1] at h; done) | skip
  rename_i j
  simp only [dRange1] at h
  split at h
  · rename_i hc; exact ⟨j, rfl, hc, by simpa using h.symm⟩
  · cases h
theorem dRange2_some {x y : D} {z : List D} (h : dRange2 [x, y] = some z) : ∃ i j, x = .int i ∧ y = .int j ∧ (-(2 ^ 60) ≤ i ∧ i < 2 ^ 60 ∧ -(2 ^ 60) ≤ j ∧ j < 2 ^ 60 ∧ j - i ≤ 16000000) ∧ z = rgL i (j - i).toNat := by
  cases x <;> cases y <;> first | (simp [dRange2] at h; done) | skip
  rename_i i j
  simp only [dRange2] at h
  split at h
  · rename_i hc; exact ⟨i, j, rfl, rfl, hc, by simpa using h.symm⟩
  · cases h
def mLrg1 (ma : M D) : M (List D) := mbind ma fun x => mopt (dRange1 [x])
def mLrg2 (ma mb : M D) : M (List D) := mbind ma fun x => mbind mb fun y => mopt (dRange2 [x, y])
@[simp] theorem ev_mLrg1 (ma : M D) (ρ : Sl) (p : Pst) : mLrg1 ma ρ p = mbind ma (fun x => mopt (dRange1 [x])) ρ p := by cases p; rfl
@[simp] theorem ev_mLrg2 (ma mb : M D) (ρ : Sl) (p : Pst) : mLrg2 ma mb ρ p = mbind ma (fun x => mbind mb fun y => mopt (dRange2 [x, y])) ρ p := by cases p; rfl
theorem im_lrg1 {ma : M D} (ha : IM ma) : IM (mLrg1 ma) := im_bind ha fun _ => im_opt _
theorem im_lrg2 {ma mb : M D} (ha : IM ma) (hb : IM mb) : IM (mLrg2 ma mb) := im_bind ha fun _ => im_bind hb fun _ => im_opt _
theorem pmo_lrg1 {p2 pos2 : Pos} (hc : X.calm = true) (hl : X.mg "list" = none) (hr : X.mg "range" = none) (ha : PM X Wx a ma) (hgl : Gl X "list" := by rfl) (hgr : Gl X "range" := by rfl) (na : starEach [a] X.env = (false, eval a X.env) :: starEach [] X.env := by rfl)
    (nl : starEach [.Call (.Name "range" p2) [a] [] pos2] X.env = (false, eval (.Call (.Name "range" p2) [a] [] pos2) X.env) :: starEach [] X.env := by rfl) :
    PMo X Wx (.Call (.Name "list" p) [.Call (.Name "range" p2) [a] [] pos2] [] pos) (mLrg1 ma) := ⟨(pe_listRg hc hgl hl (prg_1 hgr hr ha.pe na) nl).imp fun σ H Q ⟨F, pa, p, ρ, gs, s, o⟩ => by
  refine TM.of gs s ((Out.bindS .refl o).mono fun d p1 F1 H1 pa1 gr1' gs1 ⟨gr1, o1⟩ s1 v1 r1 => ?_)
  obtain ⟨z, ez, o2⟩ := o1.opt
  obtain ⟨j, rfl, hcc, rfl⟩ := dRange1_some ez
  cases r1
  refine ⟨_, rfl, ?_⟩
  refine ⟨⟨by omega, by omega, by omega, by omega, by rw [Int.sub_zero]; omega⟩, fun q hq => ?_⟩
  have h0 : ∀ n : Nat, ((List.range n).map fun i => V.int (0 + (i : Nat))) = ((List.range n).map fun (k : Nat) => (0 : Int) + (k : Int)).map V.int := rgV_map 0
  refine o2 F1 _ pa1 (gr1.trans (Gr.allocO hq)) (gs1.allocO hq) q _ (gr1.free0 hq) upd_same (gs1.fnone hq) (gs1.pne hq) (by rw [rgL_len]; exact sz16 (by omega)) ?_
  unfold rgV
  rw [Int.sub_zero, rgV_map, rgL_map]
  exact reps_int_map _⟩
theorem pmo_lrg2 {pos2 : Pos} (hc : X.calm = true) (hl : X.mg "list" = none) (hr : X.mg "range" = none) (ha : PM X Wx a ma) (hb : PM X Wx b mb) (hgl : Gl X "list" := by rfl) (hgr : Gl X "range" := by rfl) (na : starEach [a, b] X.env = (false, eval a X.env) :: starEach [b] X.env := by rfl)
    (nb : starEach [b] X.env = (false, eval b X.env) :: starEach [] X.env := by rfl) (hp : (backTo pos2 (starEach [b] X.env)).any (·.1) = false := by rfl) {p2 : Pos}
    (nl : starEach [.Call (.Name "range" p2) [a, b] [] pos2] X.env = (false, eval (.Call (.Name "range" p2) [a, b] [] pos2) X.env) :: starEach [] X.env := by rfl) :
    PMo X Wx (.Call (.Name "list" p) [.Call (.Name "range" p2) [a, b] [] pos2] [] pos) (mLrg2 ma mb) := ⟨(pe_listRg hc hgl hl (prg_2 hgr hr ha.pe hb.pe na nb hp) nl).imp fun σ H Q ⟨F, pa, p, ρ, gs, s, o⟩ => by
  refine TM.of gs s ((Out.bindS .refl o).mono fun d p1 F1 H1 pa1 gr1' gs1 ⟨gr1, o1⟩ s1 v1 r1 => ?_)
  refine TM.of gs1 s1 ((Out.bindS gr1 o1).mono fun y p2 F2 H2 pa2 gr2' gs2 ⟨gr2, o2⟩ s2 v2 r2 => ?_)
  obtain ⟨z, ez, o3⟩ := o2.opt
  have r1' := r1.mono gr2'.fz
  clear r1
  obtain ⟨i, j, rfl, rfl, hcc, rfl⟩ := dRange2_some ez
  cases r1'; cases r2
  refine ⟨_, _, rfl, rfl, ?_⟩
  refine ⟨⟨by omega, by omega, by omega, by omega, by omega⟩, fun q hq => ?_⟩
  refine o3 F2 _ pa2 (gr2.trans (Gr.allocO hq)) (gs2.allocO hq) q _ (gr2.free0 hq) upd_same (gs2.fnone hq) (gs2.pne hq) (by rw [rgL_len]; exact sz16 (by omega)) ?_
  unfold rgV
  rw [rgV_map, rgL_map]
  exact reps_int_map _⟩
/-! ### more that is independent of the pot -/
theorem ic_ext (i) {m : M D} (h : IM m) : IC (cext i m) := fun ρ p q => by
  unfold cext
  split
  · refine ic_eout h (fun a ρ p q => ?_) ρ p q
    cases a <;> first | rfl | skip
    show (if _ then _ else _) = SRes.at (if _ then _ else _) q
    split <;> rfl
  · rfl
theorem ic_asgT {G} {m : M D} (hG : ITg G) (h : IM m) : IC (casgT G m) := ic_eout h fun d ρ p q => by
  show (match G d ρ q with | some (ρ', p') => SRes.nx ρ' p' | none => .stuck) = SRes.at (match G d ρ p with | some (ρ', p') => SRes.nx ρ' p' | none => .stuck) q
  rw [hG d ρ p q]
  cases G d ρ p with
  | none => rfl
  | some w => rfl
/-- an own list's item is stored -/
def tgSubO (r : Nat) (mi : M D) : D → Sl → Pst → Option (Sl × Pst) := fun d ρ p => match ρ[r]? with
  | some (some (.own _)) => tgSub r mi d ρ p
  | _ => none
theorem tg_subO {r : Nat} {mi : M D} : TgOk X.K X.mg En Wx (gSub (tVar r) (TM X.K X.mg Wx mi) rSetL) (tgSubO r mi) := by
  intro F H pa p x d σ ρ ρ' p' Q s rx e k
  unfold tgSubO at e
  split at e
  · exact tg_sub F H pa p x d σ ρ ρ' p' Q s rx e k
  · cases e
theorem it_subO (r) {mi : M D} (h : IM mi) : ITg (tgSubO r mi) := fun d ρ p q => by
  unfold tgSubO
  cases e : ρ[r]? with
  | none => rfl
  | some o =>
    cases o with
    | none => rfl
    | some w =>
      cases w with
      | val d => rfl
      | own xs =>
        simp only [tgSub, e]
        rw [h ρ p q]
        cases e2 : mi ρ p with
        | stuck => rfl
        | exc y p1 => rfl
        | ok kd p1 =>
          obtain rfl := im_same h e2
          simp only [Res.at]
          cases kd <;> first | rfl | skip
          simp only
          split <;> rfl
end
end PF

namespace PF
open PySem PySem.Spec PyProof.Rows L2
/-! ### repr where an empty dict stands within tuples -/
mutual
def pe : D → Bool
  | .non | .bl _ | .int _ | .emp => true
  | .str x => PyData.strOk x
  | .tup xs => pes xs
  | .lst _ | .scr _ | .pot _ => false
def pes : List D → Bool
  | [] => true
  | x :: xs => pe x && pes xs
end
def okE (d : D) : Bool := pe d && (toPy d).showable && decide ((toPy d).shown.length ≤ sizeLine) && decide ((toPy d).depth ≤ 60)
theorem okE_iff {d : D} : okE d = true ↔ pe d = true ∧ (toPy d).showable = true ∧ (toPy d).shown.length ≤ sizeLine ∧ (toPy d).depth ≤ 60 := by
  unfold okE
  simp only [Bool.and_eq_true, decide_eq_true_eq, and_assoc]
theorem readsE {X : Cx} {pins : List (Addr × Obj)} {σ : L2.St} {s : Shared} {F H : Hp} {g : Nat} {pa : Option Addr} (I : L2.Inv X pins σ H s) (sub : ∀ a o, F a = some o → H a = some o) {v : V} {d : D} (r : Rep X.K F g pa v d) :
    pe d = true → ∀ u, L2.RelV v u → ∃ as, Reads s.heap u (toPy d) as ∧ sysModules ∉ as := by
  induction r with
  | non => intro _ u ru; cases ru; exact ⟨_, by simpa only [toPy] using Reads.none, by simp⟩
  | bl b => intro _ u ru; cases ru; exact ⟨_, by simpa only [toPy] using Reads.bool b, by simp⟩
  | int i => intro _ u ru; obtain ⟨t, rfl⟩ := ru; exact ⟨_, by simpa only [toPy] using Reads.int i t, by simp⟩
  | str x => intro _ u ru; obtain ⟨t, rfl⟩ := ru; exact ⟨_, by simpa only [toPy] using Reads.str x t, by simp⟩
  | lst _ _ _ _ _ => intro hp; simp [pe] at hp
  | scr _ => intro hp; simp [pe] at hp
  | pot _ _ => intro hp; simp [pe] at hp
  | emp h =>
    intro _ u ru
    cases ru
    obtain ⟨_, hne, vs, kv, o, es, ep, ho, ⟨hc, _, _⟩, hd, _, hp, _⟩ := I.hok _ _ (sub _ _ h)
    cases kv
    have he : es.toList = [] := by
      generalize es.toList = l at hp
      cases hp
      rfl
    have q : Reads s.heap (.ref _) (.dict []) (_ :: [] ++ []) := Reads.dict (kvs := []) (as := []) (bs := []) ho hc hd (by rw [he]; exact .nil) (by rw [he]; exact .nil)
    refine ⟨_, by simpa only [toPy] using q, ?_⟩
    simp only [List.cons_append, List.nil_append, List.mem_singleton]
    exact fun e => by rw [← e] at hne; simp at hne
  | @tup a vs ds h hz hl hr ih =>
    intro hp u ru
    cases ru
    obtain ⟨its, rv, ⟨o, ho, hc, n, hd⟩, _⟩ := I.tuple (SqT.of (sub _ _ h))
    have all : ∀ (ds : List D) (vs : List V) (us : List Value), pes ds = true → vs.length = ds.length → (∀ (i : Nat) v d, vs[i]? = some v → ds[i]? = some d → pe d = true → ∀ u, L2.RelV v u → ∃ as, Reads s.heap u (toPy d) as ∧ sysModules ∉ as) → Vals vs us → ∃ as, ReadsAll s.heap us (toPys ds) as ∧ sysModules ∉ as := by
      intro ds
      induction ds with
      | nil =>
        intro vs us _ hl _ rv
        have : vs = [] := List.eq_nil_of_length_eq_zero hl
        subst this
        cases rv
        exact ⟨_, by simpa only [toPys] using ReadsAll.nil, by simp⟩
      | cons d ds ih2 =>
        intro vs us hp hl hh rv
        cases rv with
        | nil => simp at hl
        | cons r t =>
          simp only [pes, Bool.and_eq_true] at hp
          obtain ⟨as, q1, n1⟩ := hh 0 _ _ rfl rfl hp.1 _ r
          obtain ⟨bs, q2, n2⟩ := ih2 _ _ hp.2 (by simpa using hl) (fun i v d h1 h2 => hh (i + 1) v d (by simpa using h1) (by simpa using h2)) t
          exact ⟨_, by simpa only [toPys] using ReadsAll.cons q1 q2, by simp [n1, n2]⟩
    obtain ⟨as, q, n⟩ := all ds vs its (by simpa [pe] using hp) hl (fun i v d h1 h2 => ih i v d h1 h2) rv
    exact ⟨_, by simpa only [toPy] using Reads.tuple ho hc hd q, n⟩
def rReprE (X : Cx) : List V → Hp → VK → Prop := fun xs H Q => ∃ v d, xs = [v] ∧ okE d = true ∧ (∃ (F : Hp) (g : Nat) (pa : Option Addr), (∀ a o, F a = some o → H a = some o) ∧ Rep X.K F g pa v d) ∧ Q (.str (rtext d)) H
def rReprX (X : Cx) : List V → Hp → VK → Prop := fun xs H Q => rReprD X xs H Q ∨ rReprE X xs H Q
/-- repr of plain data, and of tuples with an empty dict -/
def dReprE : List D → Option D
  | [d] => if okRepr d = true then some (.str (rtext d)) else if okE d = true then some (.str (rtext d)) else none
  | _ => none
section
variable {X : Cx} {Wx : WX} {e : Expr} {es : List Expr} {m : M D} {ms : M (List D)} {p pos : Pos}
theorem call_reprE (hu : Un X) (hg : X.A.guards = some []) : CallR X (.builtin "repr") (rReprE X) := by
  intro pins s σ H xs us Q I r h
  obtain ⟨v, d, rfl, hd, ⟨F, g, pa, sub, rp⟩, q⟩ := h
  obtain ⟨h1, h2, h3, h4⟩ := okE_iff.mp hd
  have hu' : X.A.units + 65 < cLine := hu
  obtain ⟨u, rfl, ru⟩ : ∃ u, us = [u] ∧ L2.RelV v u := by
    cases r with
    | cons r r2 => cases r2; exact ⟨_, rfl, r⟩
  obtain ⟨as, rd, nm⟩ := readsE I sub rp h1 u ru
  cases rp with
  | non =>
    cases ru
    exact PySem.P.repr_of_none ⟨.str (rtext .non), H, I.tok _, ⟨_, rfl⟩, q⟩
  | bl b =>
    cases ru
    exact PySem.P.repr_of_bool ⟨.str (rtext (.bl b)), H, I.tok _, ⟨_, by cases b <;> rfl⟩, q⟩
  | int i =>
    obtain ⟨t, rfl⟩ := ru
    have h5 : i.natAbs.log2 < 1920 := by simpa [toPy, PyData.showable] using h2
    exact PySem.P.repr_of_int h5 ⟨.str (rtext (.int i)), H, I.tok _, ⟨_, rfl⟩, q⟩
  | str x =>
    obtain ⟨t, rfl⟩ := ru
    exact PySem.P.repr_of_str ⟨.str (rtext (.str x)), H, I.tok _, ⟨_, rfl⟩, q⟩ (by simpa [toPy, PyData.shown] using h3)
  | lst _ _ _ _ => simp [pe] at h1
  | scr _ => simp [pe] at h1
  | pot _ _ => simp [pe] at h1
  | tup _ _ _ _ =>
    cases ru
    exact PySem.repr_of_reads' rd h2 (fun _ => nm) hg (by omega) (fun _ _ z => z) (fun h' u' tk hk => ⟨.str (rtext _), H, I.kept (h' := h') (t' := tk) hk, ⟨u', rfl⟩, q⟩) h3
  | emp _ =>
    cases ru
    exact PySem.repr_of_reads' rd h2 (fun _ => nm) hg (by omega) (fun _ _ z => z) (fun h' u' tk hk => ⟨.str (rtext _), H, I.kept (h' := h') (t' := tk) hk, ⟨u', rfl⟩, q⟩) h3
theorem call_reprX (hu : Un X) (hg : X.A.guards = some []) : CallR X (.builtin "repr") (rReprX X) := by
  intro pins s σ H xs us Q I r h
  rcases h with h | h
  · exact call_reprD hu hg pins s σ H xs us Q I r h
  · exact call_reprE hu hg pins s σ H xs us Q I r h
theorem calls_reprX : CallS X (rReprX X) dReprE := by
  intro xs ds z F H p pa Q gs rs ez k
  unfold dReprE at ez
  split at ez <;> first | (cases ez; done) | skip
  rename_i d
  obtain ⟨v, rfl, r⟩ := reps1 rs
  split at ez
  · rename_i hd
    simp only [Option.some.injEq] at ez
    subst ez
    exact .inl ⟨v, d, rfl, hd, r.dp gs.sub (okRepr_iff.mp hd).1, k _ _ _ .refl gs (.str _)⟩
  · split at ez <;> first | (cases ez; done) | skip
    rename_i hd
    simp only [Option.some.injEq] at ez
    subst ez
    exact .inr ⟨v, d, rfl, hd, ⟨F, _, _, gs.sub, r⟩, k _ _ _ .refl gs (.str _)⟩
theorem b_reprE (hu : Un X) (hgd : X.A.guards = some []) (hm : X.mg "repr" = none) (ha : PMa X Wx (e :: es) ms) (hg : Gl X "repr" := by rfl) (he : starEach (e :: es) X.env = (false, eval e X.env) :: starEach es X.env := by rfl) (hpl : (backTo pos (starEach es X.env)).any (·.1) = false := by rfl) : PM X Wx (.Call (.Name "repr" p) (e :: es) [] pos) (mCall dReprE ms) := pm_callB (call_reprX hu hgd) calls_reprX hg hm boot_repr ha (by decide) (by decide) he hpl
end
/-- what repr shows, either way -/
def okX (d : D) : Bool := okRepr d || okE d
theorem dReprE_ok {d : D} (h : okX d = true) : dReprE [d] = some (.str (rtext d)) := by
  unfold okX at h
  simp only [Bool.or_eq_true] at h
  rcases h with h | h
  · simp [dReprE, h]
  · simp [dReprE, h]
theorem okX_of {d : D} (h : okRepr d = true) : okX d = true := by simp [okX, h]
end PF

namespace PF
open PySem PySem.Spec PyProof.Rows L2
/-! ### equal texts, equal data: numbers, truth values, None, within lists and tuples -/
mutual
def rp : D → Bool
  | .non | .bl _ | .int _ => true
  | .lst xs => rps xs
  | .tup xs => rps xs
  | .str _ | .scr _ | .pot _ | .emp => false
def rps : List D → Bool
  | [] => true
  | x :: xs => rp x && rps xs
end
theorem rps_all (xs : List D) : rps xs = xs.all rp := by
  induction xs with
  | nil => simp [rps]
  | cons x xs ih => simp [rps, ih]
def intc (i : Int) : List Nat := (toString i).toList.map Char.toNat
mutual
def ct : D → List Nat
  | .non => [78, 111, 110, 101]
  | .bl b => if b then [84, 114, 117, 101] else [70, 97, 108, 115, 101]
  | .int i => intc i
  | .lst xs => 91 :: (cj xs ++ [93])
  | .tup xs => 40 :: (cj xs ++ (if xs.length = 1 then [44, 41] else [41]))
  | .str _ | .scr _ | .pot _ | .emp => []
def cj : List D → List Nat
  | [] => []
  | x :: xs => ct x ++ cjt xs
def cjt : List D → List Nat
  | [] => []
  | x :: xs => 44 :: 32 :: (ct x ++ cjt xs)
end
theorem cj_cons (x : D) (xs : List D) : cj (x :: xs) = ct x ++ cjt xs := by simp only [cj]
theorem cp_lit (s : String) : (Str.ofString s).cps.toList = s.toList.map Char.toNat := signs_ofString s
theorem cp_app (a b : Str) : (a ++ b).cps.toList = a.cps.toList ++ b.cps.toList := by simp [Str.cps_append]
theorem cp_join (f : D → Str) : ∀ (xs : List D) (x : D), (∀ y ∈ x :: xs, (f y).cps.toList = ct y) → (Str.join ", " ((x :: xs).map f)).cps.toList = ct x ++ cjt xs
  | [], x, h => by
    show (Str.join ", " [f x]).cps.toList = _
    rw [join_one, h x List.mem_cons_self]; simp [cjt]
  | y :: ys, x, h => by
    show (Str.join ", " (f x :: f y :: ys.map f)).cps.toList = _
    rw [join_cons_cons, cp_app, cp_app, h x List.mem_cons_self]
    have := cp_join f ys y fun z hz => h z (List.mem_cons_of_mem _ hz)
    rw [List.map_cons] at this
    rw [this, cp_lit]
    simp [cjt]
theorem shownAll_map : ∀ xs : List D, PyData.shownAll (toPys xs) = xs.map rtext
  | [] => by simp [toPys, PyData.shownAll]
  | x :: xs => by simp [toPys, PyData.shownAll, shownAll_map xs, rtext]
mutual
theorem cp_rtext : ∀ d : D, rp d = true → (rtext d).cps.toList = ct d
  | .non, _ => by simp only [rtext, toPy, PyData.shown, ct, cp_lit]; decide
  | .bl b, _ => by cases b <;> simp only [rtext, toPy, PyData.shown, ct, cp_lit] <;> decide
  | .int i, _ => by simp only [rtext, toPy, PyData.shown, ct, cp_lit, intc]
  | .str _, h => by simp [rp] at h
  | .scr _, h => by simp [rp] at h
  | .pot _, h => by simp [rp] at h
  | .emp, h => by simp [rp] at h
  | .lst xs, h => by
    have hx : rps xs = true := by simpa [rp] using h
    have ih := cp_rtexts xs hx
    simp only [rtext, toPy, PyData.shown, ct, listText_eq_join, shownAll_map, cp_app, cp_lit]
    cases xs with
    | nil => simp only [List.map_nil, join_nil, cj]; decide
    | cons x xs => rw [cp_join rtext xs x ih, cj_cons]; simp
  | .tup xs, h => by
    have hx : rps xs = true := by simpa [rp] using h
    have ih := cp_rtexts xs hx
    simp only [rtext, toPy, PyData.shown, ct, tupleText, shownAll_map, cp_app, cp_lit, List.length_map]
    cases xs with
    | nil => simp only [List.map_nil, join_nil, cj]; decide
    | cons x xs =>
      rw [cp_join rtext xs x ih, cj_cons]
      by_cases hl : (x :: xs).length = 1
      · have : xs = [] := by simpa using hl
        subst this; simp
      · have : ¬ xs = [] := fun z => hl (by rw [z]; rfl)
        simp [this]
theorem cp_rtexts : ∀ ds : List D, rps ds = true → ∀ y ∈ ds, (rtext y).cps.toList = ct y
  | [], _ => fun y h => by cases h
  | x :: xs, h => by
    simp only [rps, Bool.and_eq_true] at h
    intro y hy
    rcases List.mem_cons.mp hy with e | hy
    · rw [e]; exact cp_rtext x h.1
    · exact cp_rtexts xs h.2 y hy
end
/-! ints -/
def isIc (c : Nat) : Bool := decide (c = 45) || (decide (48 ≤ c) && decide (c ≤ 57))
theorem intc_all (i : Int) : ∀ c ∈ intc i, isIc c = true := by
  intro c hc
  obtain ⟨ch, h1, rfl⟩ := List.mem_map.mp hc
  rcases int_sign i ch h1 with h | h
  · have := digit_range h
    unfold isIc
    simp [this]
  · subst h; decide
theorem intc_ne (i : Int) : intc i ≠ [] := by
  intro h
  have h1 : (toString i).toList = [] := List.map_eq_nil_iff.mp h
  rw [Int.toString_eq_repr, Int.repr_eq_if] at h1
  split at h1
  · rw [Nat.toList_repr] at h1
    exact absurd h1 (by simp)
  · simp at h1
theorem intc_inj {i j : Int} (h : intc i = intc j) : i = j := by
  have h1 : (toString i).toList = (toString j).toList := by
    have inj : ∀ a b : List Char, a.map Char.toNat = b.map Char.toNat → a = b := by
      intro a
      induction a with
      | nil => intro b e; cases b with
        | nil => rfl
        | cons _ _ => cases e
      | cons x a ih => intro b e; cases b with
        | nil => cases e
        | cons y b =>
          rw [List.map_cons, List.map_cons, List.cons.injEq] at e
          have : x = y := Char.toNat_inj.mp e.1
          rw [this, ih b e.2]
    exact inj _ _ h
  have h2 : toString i = toString j := String.toList_inj.mp h1
  rw [Int.toString_eq_repr, Int.toString_eq_repr] at h2
  exact Int.repr_injective h2
/-- what may follow -/
def Del (s : List Nat) : Prop := ∀ c r, s = c :: r → c = 44 ∨ c = 41 ∨ c = 93
theorem del_nil : Del [] := fun c r h => by cases h
theorem del_cons {c : Nat} {r : List Nat} (h : c = 44 ∨ c = 41 ∨ c = 93) : Del (c :: r) := fun c' r' e => by cases e; exact h
theorem tw_app {p : Nat → Bool} : ∀ (l s : List Nat), (∀ c ∈ l, p c = true) → (∀ c r, s = c :: r → p c = false) → (l ++ s).takeWhile p = l
  | [], s, _, h => by
    cases s with
    | nil => rfl
    | cons c r => simp [h c r rfl]
  | x :: l, s, h, h' => by
    rw [List.cons_append, List.takeWhile_cons, h x List.mem_cons_self]
    simp only [if_true]
    rw [tw_app l s (fun c hc => h c (List.mem_cons_of_mem _ hc)) h']
theorem del_ic {s : List Nat} (h : Del s) : ∀ c r, s = c :: r → isIc c = false := fun c r e => by
  rcases h c r e with rfl | rfl | rfl <;> decide
theorem int_cut {i j : Int} {s t : List Nat} (hs : Del s) (ht : Del t) (h : intc i ++ s = intc j ++ t) : i = j ∧ s = t := by
  have h1 := congrArg (List.takeWhile isIc) h
  rw [tw_app _ _ (intc_all i) (del_ic hs), tw_app _ _ (intc_all j) (del_ic ht)] at h1
  exact ⟨intc_inj h1, List.append_cancel_left (by rw [h1] at h; exact h)⟩
theorem intc_head (i : Int) : ∃ c r, intc i = c :: r ∧ isIc c = true := by
  cases e : intc i with
  | nil => exact absurd e (intc_ne i)
  | cons c r => exact ⟨c, r, rfl, intc_all i c (by rw [e]; exact List.mem_cons_self)⟩
/-- the first sign -/
def kd : D → Nat
  | .non => 78
  | .bl true => 84
  | .bl false => 70
  | .int _ => 0
  | .lst _ => 91
  | .tup _ => 40
  | _ => 1
def kc (c : Nat) : Nat := if isIc c = true then 0 else c
theorem ct_head : ∀ d : D, rp d = true → ∃ c r, ct d = c :: r ∧ kc c = kd d
  | .non, _ => ⟨_, _, by simp only [ct]; rfl, by decide⟩
  | .bl true, _ => ⟨_, _, by simp only [ct]; rfl, by decide⟩
  | .bl false, _ => ⟨_, _, by simp only [ct]; rfl, by decide⟩
  | .int i, _ => by
    obtain ⟨c, r, e, h⟩ := intc_head i
    exact ⟨c, r, by simp only [ct]; exact e, by simp [kc, h, kd]⟩
  | .lst xs, _ => ⟨91, _, by simp only [ct]; rfl, by simp [kc, kd, isIc]⟩
  | .tup xs, _ => ⟨40, _, by simp only [ct]; rfl, by simp [kc, kd, isIc]⟩
  | .str _, h => by simp [rp] at h
  | .scr _, h => by simp [rp] at h
  | .pot _, h => by simp [rp] at h
  | .emp, h => by simp [rp] at h
theorem ct_del {d : D} (h : rp d = true) {s : List Nat} {c : Nat} {r : List Nat} (hc : c = 44 ∨ c = 41 ∨ c = 93) (e : ct d ++ s = c :: r) : False := by
  obtain ⟨c', r', e1, e2⟩ := ct_head d h
  rw [e1, List.cons_append, List.cons.injEq] at e
  rw [e.1] at e2
  rcases hc with rfl | rfl | rfl <;> (revert e2; cases d <;> first | (rename_i b; cases b <;> simp [kc, kd, isIc]) | simp [kc, kd, isIc])
theorem same_kd {a b : D} (ha : rp a = true) (hb : rp b = true) {s t : List Nat} (h : ct a ++ s = ct b ++ t) : kd a = kd b := by
  obtain ⟨c, r, e, k⟩ := ct_head a ha
  obtain ⟨c', r', e', k'⟩ := ct_head b hb
  rw [e, e', List.cons_append, List.cons_append, List.cons.injEq] at h
  rw [← k, ← k', h.1]
mutual
theorem ct_cut : ∀ a b : D, rp a = true → rp b = true → ∀ s t : List Nat, Del s → Del t → ct a ++ s = ct b ++ t → a = b ∧ s = t
  | .non, b, ha, hb, s, t, hs, ht, h => by
    have k := same_kd ha hb h
    cases b <;> first | (simp only [kd] at k; contradiction) | skip
    · exact ⟨rfl, List.append_cancel_left h⟩
    · rename_i b; cases b <;> (simp only [kd] at k; contradiction)
  | .bl x, b, ha, hb, s, t, hs, ht, h => by
    have k := same_kd ha hb h
    cases b with
    | bl y => cases x <;> cases y <;> first | (simp only [kd] at k; contradiction) | exact ⟨rfl, List.append_cancel_left h⟩
    | non => cases x <;> (simp only [kd] at k; contradiction)
    | int i => cases x <;> (simp only [kd] at k; contradiction)
    | lst i => cases x <;> (simp only [kd] at k; contradiction)
    | tup i => cases x <;> (simp only [kd] at k; contradiction)
    | str i => simp [rp] at hb
    | scr i => simp [rp] at hb
    | pot i => simp [rp] at hb
    | emp => simp [rp] at hb
  | .int i, b, ha, hb, s, t, hs, ht, h => by
    have k := same_kd ha hb h
    cases b with
    | int j =>
      simp only [ct] at h
      obtain ⟨h1, h2⟩ := int_cut hs ht h
      exact ⟨by rw [h1], h2⟩
    | bl y => cases y <;> (simp only [kd] at k; contradiction)
    | non => simp only [kd] at k; contradiction
    | lst i => simp only [kd] at k; contradiction
    | tup i => simp only [kd] at k; contradiction
    | str i => simp [rp] at hb
    | scr i => simp [rp] at hb
    | pot i => simp [rp] at hb
    | emp => simp [rp] at hb
  | .lst xs, b, ha, hb, s, t, hs, ht, h => by
    have k := same_kd ha hb h
    cases b with
    | lst ys =>
      simp only [ct, List.cons_append, List.append_assoc, List.cons.injEq, true_and, List.nil_append] at h
      obtain ⟨h1, h2⟩ := cj_cut xs ys (by simpa [rp] using ha) (by simpa [rp] using hb) 93 (.inr (.inr rfl)) s t h
      exact ⟨by rw [h1], h2⟩
    | bl y => cases y <;> (simp only [kd] at k; contradiction)
    | non => simp only [kd] at k; contradiction
    | int i => simp only [kd] at k; contradiction
    | tup i => simp only [kd] at k; contradiction
    | str i => simp [rp] at hb
    | scr i => simp [rp] at hb
    | pot i => simp [rp] at hb
    | emp => simp [rp] at hb
  | .tup xs, b, ha, hb, s, t, hs, ht, h => by
    have k := same_kd ha hb h
    cases b with
    | tup ys =>
      have hx : rps xs = true := by simpa [rp] using ha
      have hy : rps ys = true := by simpa [rp] using hb
      simp only [ct, List.cons_append, List.append_assoc, List.cons.injEq, true_and] at h
      by_cases lx : xs.length = 1
      · by_cases ly : ys.length = 1
        · simp only [lx, ly, if_true, List.cons_append, List.nil_append] at h
          obtain ⟨h1, h2⟩ := cj_cut xs ys hx hy 44 (.inl ⟨⟨lx, ly⟩, rfl⟩) (41 :: s) (41 :: t) h
          exact ⟨by rw [h1], by simpa using h2⟩
        · exfalso
          simp only [lx, ly, if_true, if_false, List.cons_append, List.nil_append] at h
          match xs, lx, hx, h with
          | [x], _, hx, h =>
            have hx1 : rp x = true := by simpa [rps] using hx
            simp only [cj, cjt, List.append_nil] at h
            match ys, ly, hy, h with
            | [], _, _, h =>
              simp only [cj, List.nil_append] at h
              exact ct_del hx1 (.inr (.inl rfl)) h
            | [y], ly, _, _ => exact absurd rfl ly
            | y :: y2 :: ys, _, hy, h =>
              simp only [rps, Bool.and_eq_true] at hy
              simp only [cj, cjt, List.append_assoc, List.cons_append] at h
              have := (ct_cut x y hx1 hy.1 _ _ (del_cons (.inl rfl)) (del_cons (.inl rfl)) h).2
              simp at this
      · by_cases ly : ys.length = 1
        · exfalso
          simp only [lx, ly, if_true, if_false, List.cons_append, List.nil_append] at h
          match ys, ly, hy, h with
          | [y], _, hy, h =>
            have hy1 : rp y = true := by simpa [rps] using hy
            simp only [cj, cjt, List.append_nil] at h
            match xs, lx, hx, h with
            | [], _, _, h =>
              simp only [cj, List.nil_append] at h
              exact ct_del hy1 (.inr (.inl rfl)) h.symm
            | [x], lx, _, _ => exact absurd rfl lx
            | x :: x2 :: xs, _, hx, h =>
              simp only [rps, Bool.and_eq_true] at hx
              simp only [cj, cjt, List.append_assoc, List.cons_append] at h
              have := (ct_cut x y hx.1 hy1 _ _ (del_cons (.inl rfl)) (del_cons (.inl rfl)) h).2
              simp at this
        · simp only [lx, ly, if_false, List.cons_append, List.nil_append] at h
          obtain ⟨h1, h2⟩ := cj_cut xs ys hx hy 41 (.inr (.inl rfl)) s t h
          exact ⟨by rw [h1], h2⟩
    | bl y => cases y <;> (simp only [kd] at k; contradiction)
    | non => simp only [kd] at k; contradiction
    | int i => simp only [kd] at k; contradiction
    | lst i => simp only [kd] at k; contradiction
    | str i => simp [rp] at hb
    | scr i => simp [rp] at hb
    | pot i => simp [rp] at hb
    | emp => simp [rp] at hb
  | .str _, _, ha, _, _, _, _, _, _ => by simp [rp] at ha
  | .scr _, _, ha, _, _, _, _, _, _ => by simp [rp] at ha
  | .pot _, _, ha, _, _, _, _, _, _ => by simp [rp] at ha
  | .emp, _, ha, _, _, _, _, _, _ => by simp [rp] at ha
theorem cj_cut : ∀ xs ys : List D, rps xs = true → rps ys = true → ∀ e : Nat, ((xs.length = 1 ∧ ys.length = 1) ∧ e = 44) ∨ (e = 41 ∨ e = 93) → ∀ s t : List Nat, cj xs ++ e :: s = cj ys ++ e :: t → xs = ys ∧ s = t
  | [], [], _, _, e, he, s, t, h => by simpa [cj] using h
  | [], y :: ys, _, hy, e, he, s, t, h => by
    simp only [rps, Bool.and_eq_true] at hy
    simp only [cj, List.nil_append, List.append_assoc] at h
    exact (ct_del hy.1 (by rcases he with he | he <;> omega) h.symm).elim
  | x :: xs, [], hx, _, e, he, s, t, h => by
    simp only [rps, Bool.and_eq_true] at hx
    simp only [cj, List.nil_append, List.append_assoc] at h
    exact (ct_del hx.1 (by rcases he with he | he <;> omega) h).elim
  | x :: xs, y :: ys, hx, hy, e, he, s, t, h => by
    simp only [rps, Bool.and_eq_true] at hx hy
    simp only [cj, List.append_assoc] at h
    have de : e = 44 ∨ e = 41 ∨ e = 93 := by rcases he with he | he <;> omega
    have dl : ∀ (zs : List D) (r : List Nat), Del (cjt zs ++ e :: r) := fun zs r => by
      cases zs with
      | nil => exact del_cons de
      | cons z zs => simp only [cjt, List.cons_append]; exact del_cons (.inl rfl)
    obtain ⟨h1, h2⟩ := ct_cut x y hx.1 hy.1 _ _ (dl xs s) (dl ys t) h
    obtain ⟨h3, h4⟩ := cjt_cut xs ys hx.2 hy.2 e (by
      rcases he with he | he
      · exact .inl ⟨List.eq_nil_of_length_eq_zero (by simpa using he.1.1), List.eq_nil_of_length_eq_zero (by simpa using he.1.2)⟩
      · exact .inr he) s t h2
    exact ⟨by rw [h1, h3], h4⟩
theorem cjt_cut : ∀ xs ys : List D, rps xs = true → rps ys = true → ∀ e : Nat, (xs = [] ∧ ys = []) ∨ (e = 41 ∨ e = 93) → ∀ s t : List Nat, cjt xs ++ e :: s = cjt ys ++ e :: t → xs = ys ∧ s = t
  | [], [], _, _, e, he, s, t, h => by simpa [cjt] using h
  | [], y :: ys, _, hy, e, he, s, t, h => by
    simp only [cjt, List.nil_append, List.cons_append, List.cons.injEq] at h
    rcases he with he | he
    · cases he.2
    · omega
  | x :: xs, [], hx, _, e, he, s, t, h => by
    simp only [cjt, List.nil_append, List.cons_append, List.cons.injEq] at h
    rcases he with he | he
    · cases he.1
    · omega
  | x :: xs, y :: ys, hx, hy, e, he, s, t, h => by
    simp only [rps, Bool.and_eq_true] at hx hy
    simp only [cjt, List.cons_append, List.append_assoc, List.cons.injEq, true_and] at h
    have he' : e = 41 ∨ e = 93 := by
      rcases he with he | he
      · cases he.1
      · exact he
    have dl : ∀ (zs : List D) (r : List Nat), Del (cjt zs ++ e :: r) := fun zs r => by
      cases zs with
      | nil => exact del_cons (.inr he')
      | cons z zs => simp only [cjt, List.cons_append]; exact del_cons (.inl rfl)
    obtain ⟨h1, h2⟩ := ct_cut x y hx.1 hy.1 _ _ (dl xs s) (dl ys t) h
    obtain ⟨h3, h4⟩ := cjt_cut xs ys hx.2 hy.2 e (.inr he') s t h2
    exact ⟨by rw [h1, h3], h4⟩
end
/-- equal texts, equal data -/
theorem rtext_inj {a b : D} (ha : rp a = true) (hb : rp b = true) (h : rtext a = rtext b) : a = b := by
  have h1 := cp_rtext a ha
  have h2 := cp_rtext b hb
  rw [h] at h1
  exact (ct_cut a b ha hb [] [] del_nil del_nil (by rw [← h1, ← h2])).1
end PF

namespace PF
open PySem PySem.Spec PyProof.Rows L2
/-! ### in, in a tuple of flat items -/
def vOf : D → V
  | .bl b => .bl b
  | .int i => .int i
  | .str x => .str x
  | _ => .non
def flatD : D → Bool
  | .non | .bl _ | .int _ | .str _ => true
  | _ => false
theorem vOf_rep {K : PySem.W.Frag} {F : Hp} {g : Nat} {pa : Option Addr} {v : V} {d : D} (r : Rep K F g pa v d) (h : flatD d = true) : v = vOf d ∧ flatV v = true := by
  cases r <;> first | (simp [flatD] at h; done) | exact ⟨rfl, rfl⟩
theorem vOf_reps {K : PySem.W.Frag} {F : Hp} {g : Nat} {pa : Option Addr} : ∀ {vs : List V} {ds : List D}, Reps K F g pa vs ds → ds.all flatD = true → vs = ds.map vOf ∧ vs.all flatV = true
  | [], [], _, _ => ⟨rfl, rfl⟩
  | [], _ :: _, h, _ => by have := h.1; simp at this
  | _ :: _, [], h, _ => by have := h.1; simp at this
  | v :: vs, d :: ds, h, hp => by
    simp only [List.all_cons, Bool.and_eq_true] at hp
    obtain ⟨h1, h2⟩ := vOf_rep h.head hp.1
    obtain ⟨h3, h4⟩ := vOf_reps h.tail hp.2
    exact ⟨by rw [h1, h3]; rfl, by simp [h2, h4]⟩
/-- in, in a list of data or a tuple of flat data -/
def dInX : D → D → Option Bool
  | d, .tup xs => if flatD d && xs.all flatD then some (inV (vOf d) (xs.map vOf)) else none
  | d, e => dIn d e
def dNotInX : D → D → Option Bool := fun d e => (dInX d e).map fun b => !b
@[simp] theorem dInX_lst (d : D) (xs : List D) : dInX d (.lst xs) = dIn d (.lst xs) := rfl
@[simp] theorem dNotInX_lst (d : D) (xs : List D) : dNotInX d (.lst xs) = dNotIn d (.lst xs) := rfl
section
variable {X : Cx} {Wx : WX} {a b : Expr} {ma mb : M D} {pos : Pos}
theorem dIn_lst {d e : D} {z : Bool} (h : dIn d e = some z) : ∃ xs, e = .lst xs := by
  cases e <;> first | exact ⟨_, rfl⟩ | (simp [dIn] at h)
theorem dInX_cases {d e : D} {z : Bool} (h : dInX d e = some z) : dIn d e = some z ∨ ∃ xs, e = .tup xs ∧ flatD d = true ∧ xs.all flatD = true ∧ z = inV (vOf d) (xs.map vOf) := by
  unfold dInX at h
  split at h
  · rename_i d xs
    split at h
    · rename_i hc
      simp only [Bool.and_eq_true] at hc
      simp only [Option.some.injEq] at h
      exact .inr ⟨xs, rfl, hc.1, hc.2, h.symm⟩
    · cases h
  · exact .inl h
theorem cmps_inX : CmpS X (fun x y H Q => rInD X.K x y H Q ∨ rIn X.K false x y H Q) dInX := by
  intro x y d e z F H p pa Q gs rx ry ez k
  rcases dInX_cases ez with h | ⟨xs, rfl, h1, h2, h3⟩
  · exact .inl (cmps_in x y d e z F H p pa Q gs rx ry h k)
  · obtain ⟨a, vs, rfl, ha, _, rs⟩ := ry.tup_inv
    obtain ⟨e1, f1⟩ := vOf_rep rx h1
    obtain ⟨e2, f2⟩ := vOf_reps rs h2
    refine .inr ⟨a, vs, rfl, .inr (SqT.of (gs.sub _ _ ha)), f1, f2, ?_⟩
    rw [e1, e2]
    simp only [Bool.false_eq_true, if_false]
    rw [← h3]; exact k
theorem cmps_notInX : CmpS X (fun x y H Q => rNotInD X.K x y H Q ∨ rIn X.K true x y H Q) dNotInX := by
  intro x y d e z F H p pa Q gs rx ry ez k
  unfold dNotInX at ez
  cases q : dInX d e with
  | none => rw [q] at ez; cases ez
  | some w =>
    rw [q] at ez
    have ez : (!w) = z := by simpa using ez
    rcases dInX_cases q with h | ⟨xs, rfl, h1, h2, h3⟩
    · exact .inl (cmps_notIn x y d e z F H p pa Q gs rx ry (by unfold dNotIn; rw [h]; simp [ez]) k)
    · obtain ⟨a, vs, rfl, ha, _, rs⟩ := ry.tup_inv
      obtain ⟨e1, f1⟩ := vOf_rep rx h1
      obtain ⟨e2, f2⟩ := vOf_reps rs h2
      refine .inr ⟨a, vs, rfl, .inr (SqT.of (gs.sub _ _ ha)), f1, f2, ?_⟩
      rw [e1, e2]
      simp only [if_true]
      rw [← h3, ez]; exact k
theorem pmt_inX (hu : Un X) (ha : PM X Wx a ma) (hb : PM X Wx b mb) (hm : behindInMarks .In b = false := by rfl) : PMt X Wx (.Compare a [.In] [b] pos) (mCmp dInX ma mb) := pmt_cmp ((op_inD hu).or op_in_seq) cmps_inX ha hb hm
theorem pmt_notInX (hu : Un X) (ha : PM X Wx a ma) (hb : PM X Wx b mb) (hm : behindInMarks .NotIn b = false := by rfl) : PMt X Wx (.Compare a [.NotIn] [b] pos) (mCmp dNotInX ma mb) := pmt_cmp ((op_notInD hu).or op_notIn_seq) cmps_notInX ha hb hm
theorem pm_inX (hu : Un X) (ha : PM X Wx a ma) (hb : PM X Wx b mb) (hm : behindInMarks .In b = false := by rfl) : PM X Wx (.Compare a [.In] [b] pos) (mB (mCmp dInX ma mb)) := pm_cmp ((op_inD hu).or op_in_seq) cmps_inX ha hb hm
theorem pm_notInX (hu : Un X) (ha : PM X Wx a ma) (hb : PM X Wx b mb) (hm : behindInMarks .NotIn b = false := by rfl) : PM X Wx (.Compare a [.NotIn] [b] pos) (mB (mCmp dNotInX ma mb)) := pm_cmp ((op_notInD hu).or op_notIn_seq) cmps_notInX ha hb hm
end
/-- whole numbers in a tuple of whole numbers -/
theorem nInT (k : Nat) (ns : List Nat) : dInX (dI k) (.tup (ns.map dI)) = some (decide (k ∈ ns)) := by
  have h : flatD (dI k) = true := rfl
  have h2 : (ns.map dI).all flatD = true := by
    rw [List.all_eq_true]; intro x hx; obtain ⟨n, _, rfl⟩ := List.mem_map.mp hx; rfl
  simp only [dInX, h, h2, Bool.and_self, if_true]
  congr 1
  unfold inV
  rw [List.map_map]
  induction ns with
  | nil => rfl
  | cons n ns ih =>
    have h2' : (ns.map dI).all flatD = true := by simp only [List.map_cons, List.all_cons, Bool.and_eq_true] at h2; exact h2.2
    rw [List.map_cons, List.any_cons, ih h2']
    have e : eqV ((vOf ∘ dI) n) (vOf (dI k)) = decide (k = n) := by
      show ((n : Int) == (k : Int)) = _
      by_cases z : k = n
      · subst z; simp
      · have : ¬ (n : Int) = (k : Int) := by omega
        simp [z, this]
    rw [e]
    by_cases z : k = n <;> simp [z]
end PF

namespace PF
open PySem PySem.Spec PyProof.Rows L2
/-! ### sorted(dict(pairs)): the keys, each once, rising -/
/-- what is put into a dict's keys, in the order of first sight -/
def seen : List Int → List Int → List Int
  | acc, [] => acc
  | acc, k :: ks => seen (if k ∈ acc then acc else acc ++ [k]) ks
theorem keys_put (acc : List (Key × V)) (ks : List Int) (h : acc.map (·.1) = ks.map Sum.inl) (k : Int) (v : V) : (putK acc (Sum.inl k) v).map (·.1) = (if k ∈ ks then ks else ks ++ [k]).map Sum.inl := by
  have hany : (acc.any fun kv => decide (kv.1 = (Sum.inl k : Key))) = decide (k ∈ ks) := by
    have e1 : (acc.any fun kv => decide (kv.1 = (Sum.inl k : Key))) = (acc.map (·.1)).any fun x => decide (x = (Sum.inl k : Key)) := by rw [List.any_map]; rfl
    rw [e1, h, List.any_map, Bool.eq_iff_iff]
    simp only [List.any_eq_true, Function.comp, decide_eq_true_eq, Sum.inl.injEq]
    constructor
    · rintro ⟨x, hx, rfl⟩; exact hx
    · exact fun hk => ⟨k, hk, rfl⟩
  unfold putK
  rw [hany]
  by_cases hk : k ∈ ks
  · simp only [hk, decide_true, if_true]
    rw [List.map_map, ← h]
    refine List.map_congr_left fun kv _ => ?_
    simp only [Function.comp]
    split <;> rfl
  · simp only [hk, decide_false, Bool.false_eq_true, if_false]
    rw [List.map_append, h, List.map_append]
    rfl
theorem keys_merge : ∀ (kvs : List (Key × V)) (ns : List Int) (acc : List (Key × V)) (ks : List Int), kvs.map (·.1) = ns.map Sum.inl → acc.map (·.1) = ks.map Sum.inl → (mergeK acc kvs).map (·.1) = (seen ks ns).map Sum.inl
  | [], [], acc, ks, _, h => h
  | [], _ :: _, _, _, h, _ => by cases h
  | _ :: _, [], _, _, h, _ => by cases h
  | (k', v) :: kvs, n :: ns, acc, ks, h, h' => by
    simp only [List.map_cons, List.cons.injEq] at h
    have e : k' = Sum.inl n := h.1
    subst e
    have ih := keys_merge kvs ns (putK acc (Sum.inl n) v) (if n ∈ ks then ks else ks ++ [n]) h.2 (keys_put acc ks h' n v)
    unfold mergeK at ih ⊢
    rw [List.foldl_cons]
    exact ih
/-- sorted of a dict whose keys are ints, however many -/
theorem call_sortedDX {X : Cx} (hcalm : X.calm = true) : CallR X (.builtin "sorted") (fun xs H Q => ∃ (a : Addr) (kvs : List (Key × V)) (ks : List Int), xs = [.ref a] ∧ H a = some (.dK kvs) ∧ kvs.map (·.1) = ks.map Sum.inl ∧
    ∀ (ys : List Int) (p : Addr), ys.Perm ks → ys.Pairwise (· ≤ ·) → H p = none → Q (.ref p) (upd H p (.lst (ys.map V.int)))) := by
  intro pins s σ H xs us Q I r q
  obtain ⟨a, kvs, ks, rfl, hd, hks, q⟩ := q
  obtain ⟨u, rfl, rx⟩ := vals1 r
  cases rx
  obtain ⟨z, lo, vs, rel, dd⟩ := dk_rd I.hok (.inl hd)
  obtain ⟨ep, hat⟩ := dd.dictAt
  have hkeys : vs.map (·.1) = ks.map Sum.inl := rel.keys.symm.trans hks
  have hl : vs.length = ks.length := by simpa using congrArg List.length hkeys
  have hl2 : kvs.length = ks.length := by simpa using congrArg List.length hks
  have h16 : vs.length ≤ sizeLine := by omega
  refine Calls.call_function_entry PyProof.Rows.kind_sorted PyProof.Rows.plain_sorted PyProof.Rows.entry_sorted (PyProof.Rows.args_sorted1 _) ?_
  unfold Builtin.«sorted»
  refine wpAny_bind (m := checkCount "sorted" 1 1 _) (wpAny_pure ?_)
  refine wpAny_bind (PySem.W.kdu_collect (A := X.A.in1) (PySem.W.kdl_dict (knd := mixKind X.prog X.w) (kvs := vs) (ep := ep) lo) (I.ok.hd hcalm) hat h16
    fun h' tk acc hk hacc => ?_)
  have hal : acc.toList.length = ks.length := by rw [Array.length_toList, hacc.1]; exact hl
  have hS : IntsAre acc.toList ks := ints_each hal fun j v e => by
    obtain ⟨k, x, e1, e2⟩ := hacc.2 j v (by rw [← Array.getElem?_toList]; exact e)
    have e3 : (vs.map (·.1))[j]? = some k := by rw [List.getElem?_map, e1]; rfl
    rw [hkeys, List.getElem?_map] at e3
    cases e4 : ks[j]? with
    | none => rw [e4] at e3; cases e3
    | some y =>
      rw [e4] at e3
      obtain rfl : Sum.inl y = k := Option.some.inj e3
      rcases keyIs_shape (show keyIs (Sum.inl y) v = true from e2) with ⟨i, t, ek, ev⟩ | ⟨z, t, ek, ev⟩ <;> cases ek
      exact ⟨y, t, rfl, ev⟩
  have I1 : Inv X pins σ H { s with heap := h', toks := tk } := I.kept hk
  have hz2 : acc.toList.length ≤ sizeLine := by omega
  refine wpAny_bind (wpAny_newList ?_ hz2)
  have hoL : (h'.push (seqObj "list" acc.toList.toArray 0)).get? h'.objs.size = some (seqObj "list" acc.toList.toArray 0) :=
    Heap.get?_push_size _ rfl
  show wpAny _ _ _ _ _ { s with heap := h'.push (seqObj "list" acc.toList.toArray 0), toks := tk }
  refine wpAny_bind (wpAny_holding (wpAny_call_entry PyProof.Rows.slot_list_sort ⟨_, hoL, rfl⟩ PyProof.Rows.entry_list_sort
    (SrtO.list_sort_ord SrtO.swo_int (s := { s with heap := h'.push (seqObj "list" acc.toList.toArray 0), toks := tk }) hoL hz2 (fun h2 => SrtO.ints_sortable hS h2) fun out g1 g2 => ⟨.none, rfl, ?_⟩) (PyProof.Rows.args_list_sort _)))
  obtain ⟨k1, k2, k3⟩ := SrtO.ints_out hS g1 g2
  obtain ⟨e', he'⟩ := PyProof.Rows.sortedHeap_at (vs := acc.toList) (out := out.toArray) hoL
  have hlen : ((out.map SrtO.iv).map V.int).length ≤ sizeLine := by
    rw [List.length_map, k2.length_eq, ← hl]; exact h16
  refine wpAny_pure ⟨_, rfl, .ref h'.objs.size, upd H h'.objs.size (.lst ((out.map SrtO.iv).map V.int)), I1.laid (t' := tk) (fun b u e => ?_) (Nat.le_refl _)
    (show ObjOk X.prog X.w _ _ _ (.lst ((out.map SrtO.iv).map V.int)) from ⟨hlen, out, e', vals_of_ints k1, he'⟩), rfl, q _ _ k2 k3 (I1.hok.fresh (Nat.le_refl _))⟩
  have hb : b < h'.objs.size := Heap.lt_size e
  rw [PyProof.Rows.sortedHeap_old (Nat.ne_of_lt hb) (by rw [size_push']; exact Nat.lt_succ_of_lt hb)]
  exact Heap.get?_push_of_some _ e
/-- the first parts of pairs -/
def fsts : List D → Option (List Int)
  | [] => some []
  | .tup [.int k, _] :: r => (fsts r).map (k :: ·)
  | _ => none
def dSdict : List D → Option (List D)
  | [.lst xs] => (fsts xs).map fun ns => (srt (seen [] ns)).map .int
  | _ => none
theorem fsts_cons {x : D} {xs : List D} {ns : List Int} (h : fsts (x :: xs) = some ns) : ∃ k v ms, x = .tup [.int k, v] ∧ fsts xs = some ms ∧ ns = k :: ms := by
  unfold fsts at h
  split at h
  · rename_i e; cases e
  · rename_i k v r e
    cases e
    cases q : fsts xs with
    | none => rw [q] at h; cases h
    | some ms => rw [q] at h; simp only [Option.map_some, Option.some.injEq] at h; exact ⟨k, v, ms, rfl, rfl, h.symm⟩
  · cases h
theorem fsts_pairs {K : PySem.W.Frag} {F H : Hp} {g : Nat} {pa : Option Addr} (sub : ∀ a o, F a = some o → H a = some o) : ∀ {xs : List D} {vs : List V} {ns : List Int}, Reps K F g pa vs xs → fsts xs = some ns →
    ∃ (ps : List Addr) (kvs : List (Key × V)), vs = ps.map V.ref ∧ Paired (fun p kv => SqT K H p [kV kv.1, kv.2]) ps kvs ∧ kvs.map (·.1) = ns.map Sum.inl
  | [], [], ns, _, h => by
    simp only [fsts, Option.some.injEq] at h
    subst h
    exact ⟨[], [], rfl, .nil, rfl⟩
  | [], _ :: _, _, r, _ => by have := r.1; simp at this
  | _ :: _, [], _, r, _ => by have := r.1; simp at this
  | x :: xs, v :: vs, ns, r, h => by
    obtain ⟨k, y, ms, rfl, h1, rfl⟩ := fsts_cons h
    obtain ⟨ps, kvs, rfl, hp, hk⟩ := fsts_pairs sub r.tail h1
    obtain ⟨a, ws, rfl, ha, _, rs⟩ := r.head.tup_inv
    rcases rs.cases with ⟨_, z⟩ | ⟨w1, y1, ws1, ys1, rfl, z, r1, rs1⟩
    · cases z
    cases z
    rcases rs1.cases with ⟨_, z⟩ | ⟨w2, y2, ws2, ys2, rfl, z, r2, rs2⟩
    · cases z
    cases z
    have e2 : ws2 = [] := by
      rcases rs2.cases with ⟨e, _⟩ | ⟨_, _, _, _, _, z, _⟩
      · exact e
      · cases z
    subst e2
    cases r1
    exact ⟨a :: ps, (Sum.inl k, w2) :: kvs, rfl, .cons (SqT.of (sub _ _ ha)) hp, by simp [hk]⟩
theorem dSdict_some {ds z : List D} (h : dSdict ds = some z) : ∃ xs ns, ds = [.lst xs] ∧ fsts xs = some ns ∧ z = (srt (seen [] ns)).map .int := by
  unfold dSdict at h
  split at h
  · rename_i xs
    cases q : fsts xs with
    | none => rw [q] at h; cases h
    | some ns => rw [q] at h; simp only [Option.map_some, Option.some.injEq] at h; exact ⟨xs, ns, rfl, q, h.symm⟩
  · cases h
theorem fsts_len : ∀ {xs : List D} {ns : List Int}, fsts xs = some ns → ns.length = xs.length
  | [], ns, h => by simp only [fsts, Option.some.injEq] at h; subst h; rfl
  | x :: xs, ns, h => by
    obtain ⟨k, y, ms, rfl, h1, rfl⟩ := fsts_cons h
    simp [fsts_len h1]
theorem seen_len : ∀ (ns acc : List Int), (seen acc ns).length ≤ acc.length + ns.length
  | [], acc => Nat.le_refl _
  | n :: ns, acc => by
    have := seen_len ns (if n ∈ acc then acc else acc ++ [n])
    simp only [seen, List.length_cons]
    split at this <;> simp at this ⊢ <;> simp_all <;> omega
section
variable {X : Cx} {Wx : WX} {e : Expr} {ms : M (List D)} {p p2 pos pos2 : Pos}
theorem pmo_sdict (hc : X.calm = true) (hm : X.mg "sorted" = none) (hm2 : X.mg "dict" = none) (ha : PMa X Wx [e] ms) (hg : Gl X "sorted" := by rfl) (hg2 : Gl X "dict" := by rfl)
    (he : starEach [e] X.env = (false, eval e X.env) :: starEach [] X.env := by rfl) (hpl : (backTo pos2 (starEach [] X.env)).any (·.1) = false := by rfl)
    (he2 : starEach [.Call (.Name "dict" p2) [e] [] pos2] X.env = (false, eval (.Call (.Name "dict" p2) [e] [] pos2) X.env) :: starEach [] X.env := by rfl) (hpl2 : (backTo pos (starEach [] X.env)).any (·.1) = false := by rfl) :
    PMo X Wx (.Call (.Name "sorted" p) [.Call (.Name "dict" p2) [e] [] pos2] [] pos) (mLst dSdict ms) :=
  ⟨(pe_callB (call_sortedDX hc) hg hm boot_sorted (pa_cons (pe_callTy (call_dictP hc) hg2 hm2 PyProof.Rows.boot_dict ha.pa (by decide) (by decide) he hpl) pa_nil he2) (by decide) (by decide) he2 hpl2).imp fun σ H Q ⟨F, pa, p, ρ, gs, s, o⟩ => by
    refine TMa.of gs s ((Out.bindS .refl o).mono fun ds p1 F1 H1 pa1 _ gs1 ⟨gr1, o1⟩ s1 vs rs => ?_)
    obtain ⟨z, ez, o2⟩ := o1.opt
    obtain ⟨xs, ns, rfl, q, rfl⟩ := dSdict_some ez
    obtain ⟨v, rfl, r⟩ := reps1 rs
    obtain ⟨a, ws, rfl, h1, hz, rw1⟩ := r.lstH gs1
    obtain ⟨ps, kvs, rfl, hp, hk⟩ := fsts_pairs gs1.sub rw1 q
    refine ⟨a, ps, kvs, rfl, SqL.of h1, hp, fun dd hdd => ?_⟩
    have hkey := keys_merge kvs ns [] [] hk rfl
    refine ⟨dd, mergeK [] kvs, seen [] ns, rfl, upd_same, hkey, fun ys l hperm hsort hl => ?_⟩
    have e : ys = srt (seen [] ns) := sorted_unique (hperm.trans (srt_perm _).symm) hsort (srt_sorted _)
    subst e
    have gs2 := gs1.allocO (o := HO.dK (mergeK [] kvs)) hdd
    have gr2 := gr1.trans (Gr.allocO (o := HO.dK (mergeK [] kvs)) hdd)
    refine out_fresh gr2 gs2 o2 hl ?_ (reps_int_map _)
    rw [List.length_map, (srt_perm _).length_eq]
    have h3 := seen_len ns []
    have h4 := fsts_len q
    simp only [List.length_nil] at h3
    omega⟩
end
end PF

namespace PF
open PySem PySem.Spec PyProof.Rows L2
section
variable {X : Cx} {En : Ent} {Wx : WX} {c a : Expr} {mt : M Bool} {ma : M D} {x : Str} {i : Nat} {p1 p2 p3 : Pos}
/-! ### return a if c else x, x an own list -/
theorem own_ret {K : PySem.W.Frag} {F H : Hp} {pa : Option Addr} {p : Pst} {σ : L2.St} {ρ : Sl} {Dn : Ends} (s : SS K En F H pa p σ ρ) {mg : Str → Option Value} (o : SOut K mg En Wx F p.g pa Dn (cretown i ρ p)) : ∃ v, σ[i]? = some (some v) ∧ Dn.rt v H := by
  unfold cretown at o
  cases q : ρ[i]? with
  | none => rw [q] at o; exact o.elim
  | some w =>
    rw [q] at o
    cases w with
    | none => exact o.elim
    | some w =>
      cases w with
      | val d => exact o.elim
      | own xs =>
        obtain ⟨v, e1, a, vs, rfl, h2, h3, h4, h5, h6⟩ := s.sr.rep i _ q
        exact ⟨_, e1, o _ F H pa .refl s.gr s.gs ⟨a, vs, xs, rfl, rfl, s.nw i xs _ q e1 a rfl, h2, h3, h4, h5, h6⟩⟩
theorem cs_retif_vo (hc : PMt X Wx c mt) (ha : PM X Wx a ma) (h : PE X (.Name x p1) (tVar i)) : PMs X En Wx (.Return (some (.IfExp c a (.Name x p1) p2)) p3) (cif mt (cret ma) (cretown i)) :=
  ⟨(ps_ret (pe_ifExp hc.pt ha.pe h)).imp fun Dn σ H ⟨F, pa, p, ρ, s, o⟩ => by
    refine ⟨F, pa, p, ρ, s.gs, s.sr, (o.expr s).mono fun k p' F' H' pa' gr gs ⟨s', o'⟩ => ?_⟩
    cases k with
    | true =>
      simp only [if_true] at o' ⊢
      exact tm_s s' o' fun v d p' F' H' pa' s' _ r o' => o' v F' H' pa' .refl s'.gr s'.gs r
    | false =>
      simp only [Bool.false_eq_true, if_false] at o' ⊢
      exact own_ret s' o'⟩
theorem cs_retif_ov (hc : PMt X Wx c mt) (h : PE X (.Name x p1) (tVar i)) (ha : PM X Wx a ma) : PMs X En Wx (.Return (some (.IfExp c (.Name x p1) a p2)) p3) (cif mt (cretown i) (cret ma)) :=
  ⟨(ps_ret (pe_ifExp hc.pt h ha.pe)).imp fun Dn σ H ⟨F, pa, p, ρ, s, o⟩ => by
    refine ⟨F, pa, p, ρ, s.gs, s.sr, (o.expr s).mono fun k p' F' H' pa' gr gs ⟨s', o'⟩ => ?_⟩
    cases k with
    | true =>
      simp only [if_true] at o' ⊢
      exact own_ret s' o'
    | false =>
      simp only [Bool.false_eq_true, if_false] at o' ⊢
      exact tm_s s' o' fun v d p' F' H' pa' s' _ r o' => o' v F' H' pa' .refl s'.gr s'.gs r⟩
end
end PF

namespace PF
open PySem PySem.Spec PyProof.Rows L2
/-! ### a def that gets a fresh list for its own: f(e), e a fresh list -/
abbrev FnO := List D → Pst → FRes
structure FnMo (P : Program) (w : World) (K : PySem.W.Frag) (mg : Str → Option Value) (base : Heap) (k : Nat) (f : Addr) (fd : FuncData) (ps : List Str) (G : FnO) : Prop where
  run : ∀ (A : Around) (outer : List Env) (s : Shared) (H : Hp) (args : Args) (u : Value) (a : Addr) (ws : List V) (xs : List D) (F Hm : Hp) (pa : Option Addr) (p : Pst) (Q : VK) (E : XK), Room k A → A.guards = some [] → Env0 P w K mg base A outer s H → BindsTo s fd args (ps.zip [u]) → RelV (.ref a) u →
    GS F H pa p → Gr F Hm p.g pa F H p.g pa → Hm a = none → H a = some (.lst ws) → F a = none → pa ≠ some a → xs.length ≤ sizeLine → Reps K F p.g pa ws xs → FOut K mg F Hm p.g pa Q E (G xs p) →
    codeAny (model P w) A (.call (.ref f) args) (CR (L2.CX P w) outer P w H s Q E) s
structure FnXo (P : Program) (w : World) (K : PySem.W.Frag) (mg : Str → Option Value) (base : Heap) (x : Str) (params : Arguments) (k : Nat) (ps : List Str) (G : FnO) : Prop where
  ex : ∃ (f : Addr) (fd : FuncData), mg x = some (.ref f) ∧ PySem.W.keepIn K (.ref f) = true ∧ (∃ (body : List Stmt) (scope : Scope) (kV doc pm : Value) (an : Option Addr) (cdv ct : Value), fd = PySem.W.fnOf x x params body scope .none kV doc pm an cdv ct) ∧ FnMo P w K mg base k f fd ps G
/-- what a def with n slots and one parameter does, the parameter its own list -/
def freso (n : Nat) (c : C) : FnO := fun xs p => sres (c (some (.own xs) :: List.replicate (n - 1) none) p)
theorem srel_own {K : PySem.W.Frag} {F H : Hp} {g : Nat} {pa : Option Addr} {a : Addr} {ws : List V} {xs : List D} {N : List Str} (h1 : H a = some (.lst ws)) (h2 : F a = none) (h3 : pa ≠ some a) (h4 : xs.length ≤ sizeLine) (r : Reps K F g pa ws xs) :
    SRel K F H g pa (L2.start N [.ref a]) (some (.own xs) :: List.replicate (N.length - 1) none) := by
  unfold L2.start
  have key : ∀ (i : Nat) w, (some (W.own xs) :: List.replicate (N.length - 1) none)[i]? = some (some w) → i = 0 ∧ w = .own xs := fun i w h => by
    cases i with
    | zero => simp at h; exact ⟨rfl, h.symm⟩
    | succ i =>
      rw [List.getElem?_cons_succ, List.getElem?_replicate] at h
      split at h <;> cases h
  refine ⟨by simp, fun i w h => ?_, fun i j xs' ys' v hi hj _ _ => ?_⟩
  · obtain ⟨rfl, rfl⟩ := key i w h
    exact ⟨.ref a, by simp, a, ws, rfl, h1, h2, h3, h4, r⟩
  · rw [(key i _ hi).1, (key j _ hj).1]
theorem fnxo {P : Program} {w : World} {K : PySem.W.Frag} {mg : Str → Option Value} {base : Heap} {x : Str} {params : Arguments} {body : List Stmt} {scope : Scope} {f : Addr} {fd : FuncData} {N ps : List Str} {k : Nat} {c : C}
    (F : FunD K x x params body scope [] [] f fd) (hm : mg x = some (.ref f)) (S : FnScope N ps scope) (h1 : ps.length = 1) (hb : BodyOk P w K mg base k x body scope N c) : FnXo P w K mg base x params (k + 1) ps (freso N.length c) := by
  obtain ⟨oc, od, dV, kV, doc, pm, an, cdv, ct, osl, rfl, lk, hcd, hD, _⟩ := F.ex
  obtain rfl : dV = .none := by
    rcases hD with ⟨_, h⟩ | ⟨h, _⟩
    · exact h
    · exact absurd rfl h
  refine ⟨f, _, hm, F.kp, ⟨body, scope, kV, doc, pm, an, cdv, ct, rfl⟩, ⟨fun A outer s H args u a ws xs Fz0 Hm pa p Q E hr hgd e0 hbt rv gs gr ha1 ha2 ha3 ha4 ha5 rs o => ?_⟩⟩
  refine LamX.run_ofS (N := N) lk hcd S hr e0 hbt (.cons rv .nil) (by rw [h1]; rfl) fun hr' => ?_
  let En : Ent := ⟨Fz0, Hm, p.g, pa⟩
  refine ⟨_, (hb f cdv A outer s H E En hr' (by show A.guards = some []; exact hgd)).ps, Fz0, pa, p, _, ⟨gr, gs, srel_own ha2 ha3 ha4 ha5 rs, fun i ys v h hv => ?_⟩, ?_⟩
  · cases i with
    | zero =>
      intro b e
      have : v = .ref a := by
        unfold L2.start at hv
        simpa using hv.symm
      rw [this] at e
      cases e
      exact ha1
    | succ i =>
      rw [List.getElem?_cons_succ, List.getElem?_replicate] at h
      split at h <;> cases h
  · unfold freso at o
    cases q : c (some (.own xs) :: List.replicate (N.length - 1) none) p with
    | nx ρ' p' =>
      rw [q] at o
      exact fun σ' F' H' pa' fz s' => o .non F' H' pa' s'.gr s'.gs (show Rep _ _ _ _ _ _ from .non)
    | rt d fr p' =>
      rw [q] at o
      exact fun v F' H' pa' fz gr gs' r => o v F' H' pa' gr gs' r
    | exc y ρ' p' =>
      rw [q] at o
      exact fun cls dd σ' F' H' pa' fz s' r => o cls dd F' H' pa' s'.gr s'.gs r
    | bk ρ' p' => rw [q] at o; exact o.elim
    | ct ρ' p' => rw [q] at o; exact o.elim
    | stuck => rw [q] at o; exact o.elim
section
variable {X : Cx} {Wx : WX} {e : Expr} {mo : M (List D)} {pos p : Pos} {x : Str} {params : Arguments} {k : Nat} {ps : List Str} {G : FnO}
def FRo (X : Cx) (Wx : WX) (G : FnO) (σ : L2.St) : V → Hp → VK → Prop := fun v H Q => ∃ a ws xs F Hm pa p, v = .ref a ∧ GS F H pa p ∧ Gr F Hm p.g pa F H p.g pa ∧ Hm a = none ∧ H a = some (.lst ws) ∧ F a = none ∧ pa ≠ some a ∧ xs.length ≤ sizeLine ∧ Reps X.K F p.g pa ws xs ∧ FOut X.K X.mg F Hm p.g pa Q (fun cls dd H' => Wx cls dd σ H') (G xs p)
theorem pe_fnO (Fx : FnXo X.prog X.w X.K X.mg X.base x params k ps G) (hr : Room k X.A) (hgd : X.A.guards = some []) (tk : Takes X Wx) (hb : Bd x params ps 1 [] [0]) (hg : Gl X x) {te : TE} (ha : PA X [e] (tCons te tNil)) (hdb : (x == ("__debug__" : Str)) = false := by decide)
    (he : starEach [e] X.env = (false, eval e X.env) :: starEach [] X.env := by rfl) (hpl : (backTo pos (starEach [] X.env)).any (·.1) = false := by rfl) : PE X (.Call (.Name x p) [e] [] pos) (fun σ H Q => tCons te tNil σ H fun vs H1 => ∃ v, vs = [v] ∧ FRo X Wx G σ v H1 Q) := by
  obtain ⟨f, fd, hm, hk, hfd, Fm⟩ := Fx.ex
  refine ⟨fun pins s σ H Q I h => ?_⟩
  refine wpAny_Call_Name_kw (ld_glob I hg hm ?_ hdb)
  refine PySem.W.callWith_K (h₀ := X.base) I.ok.mod.kin hk (thn (ha.run pos pins s σ H _ I h) fun us s1 ⟨vs, H1, I1, r, q⟩ => ⟨I1.kIn, ?_⟩) he hpl
  obtain ⟨v, rfl, a, ws, xs, F, Hm, pa, p, rfl, gs, gr, h1, h2, h3, h4, h5, rs, o⟩ := q
  obtain ⟨body, scope, kV, doc, pm, an, cdv, ct, rfl⟩ := hfd
  obtain ⟨u, rfl, ru⟩ := vals1 r
  have hbt : BindsTo s1 (PySem.W.fnOf x x params body scope .none kV doc pm an cdv ct) ⟨[u], []⟩ (ps.zip [u]) := .of_eq (hb _ _ _ _ _ _ _ _ [u] [] rfl rfl)
  exact wpAny_call (codeAny_mono (Fm.run X.A X.stack s1 H1 ⟨[u], []⟩ u a ws xs F Hm pa p Q (fun cls dd H' => Wx cls dd σ H') hr hgd I1.env0 hbt ru gs gr h1 h2 h3 h4 h5 rs o) fun r s' hq => by
    cases r with
    | error e => exact tk e s' (XE.of_call I1 (fun _ _ _ h => h) hq)
    | ok fl =>
      cases fl with
      | ret u => exact I1.after hq
      | next => exact False.elim hq
      | brk => exact False.elim hq
      | cont => exact False.elim hq)
def mFnO (G : FnO) (mo : M (List D)) : M D := mbind mo fun xs _ p => outFn (fun d _ => some d) (G xs p)
def mFnOo (G : FnO) (mo : M (List D)) : M (List D) := mbind mo fun xs _ p => outFn frOf (G xs p)
@[simp] theorem ev_mFnO (G : FnO) (mo : M (List D)) (ρ : Sl) (p : Pst) : mFnO G mo ρ p = mbind mo (fun xs _ p => outFn (fun d _ => some d) (G xs p)) ρ p := by cases p; rfl
@[simp] theorem ev_mFnOo (G : FnO) (mo : M (List D)) (ρ : Sl) (p : Pst) : mFnOo G mo ρ p = mbind mo (fun xs _ p => outFn frOf (G xs p)) ρ p := by cases p; rfl
/-- the heap without what was made last -/
def less (H : Hp) (a : Addr) : Hp := fun b => if b = a then none else H b
theorem less_gr {F0 H0 F H : Hp} {g0 g : Nat} {pa0 pa : Option Addr} {a : Addr} (gr : Gr F0 H0 g0 pa0 F H g pa) (h0 : H0 a = none) (hp : pa ≠ some a) : Gr F0 H0 g0 pa0 F (less H a) g pa := by
  refine ⟨gr.fz, gr.new, fun b o h n => ?_, fun b o h => ?_, gr.pot⟩
  · have : b ≠ a := fun e => by rw [e, h0] at h; cases h
    unfold less; rw [if_neg this]; exact gr.keep b o h n
  · have : b ≠ a := fun e => by rw [e, h0] at h; cases h
    unfold less; rw [if_neg this]; exact gr.there b o h
theorem gr_less {F H : Hp} {g : Nat} {pa : Option Addr} {a : Addr} : Gr F (less H a) g pa F H g pa := by
  refine ⟨.refl, fun b o h => .inl h, fun b o h _ => ?_, fun b o h => ?_, .inl rfl⟩
  · unfold less at h; split at h
    · cases h
    · exact h
  · unfold less at h; split at h
    · cases h
    · exact ⟨o, h⟩
theorem fno_tm : ∀ σ H Q, TM X.K X.mg Wx (mFnO G mo) σ H Q → tCons (TMo X.K X.mg Wx mo) tNil σ H fun vs H1 => ∃ v, vs = [v] ∧ FRo X Wx G σ v H1 Q := by
  intro σ H Q ⟨F, pa, p, ρ, gs, s, o⟩
  refine ⟨F, pa, p, ρ, gs, s, (Out.bindS .refl o).mono fun xs p1 F1 H1 pa1 gr1 gs1 ⟨gr, o1⟩ a ws h1 h2 h3 h4 h5 rs => ?_⟩
  refine ⟨_, rfl, a, ws, xs, F1, less H1 a, pa1, p1, rfl, gs1, gr_less, by simp [less], h2, h3, h4, h5, rs, ?_⟩
  exact fout_val (less_gr gr h1 h4) o1
theorem fno_tmo : ∀ σ H Q, TMo X.K X.mg Wx (mFnOo G mo) σ H Q → tCons (TMo X.K X.mg Wx mo) tNil σ H fun vs H1 => ∃ v, vs = [v] ∧ FRo X Wx G σ v H1 Q := by
  intro σ H Q ⟨F, pa, p, ρ, gs, s, o⟩
  refine ⟨F, pa, p, ρ, gs, s, (Out.bindS .refl o).mono fun xs p1 F1 H1 pa1 gr1 gs1 ⟨gr, o1⟩ a ws h1 h2 h3 h4 h5 rs => ?_⟩
  refine ⟨_, rfl, a, ws, xs, F1, less H1 a, pa1, p1, rfl, gs1, gr_less, by simp [less], h2, h3, h4, h5, rs, ?_⟩
  exact fout_o (less_gr gr h1 h4) o1
theorem pm_fnO (Fx : FnXo X.prog X.w X.K X.mg X.base x params k ps G) (hr : Room k X.A) (hgd : X.A.guards = some []) (tk : Takes X Wx) (hb : Bd x params ps 1 [] [0]) (hg : Gl X x) (ha : PMo X Wx e mo) (hdb : (x == ("__debug__" : Str)) = false := by decide)
    (he : starEach [e] X.env = (false, eval e X.env) :: starEach [] X.env := by rfl) (hpl : (backTo pos (starEach [] X.env)).any (·.1) = false := by rfl) : PM X Wx (.Call (.Name x p) [e] [] pos) (mFnO G mo) := ⟨(pe_fnO Fx hr hgd tk hb hg (pa_cons ha.pe pa_nil he) hdb he hpl).imp fno_tm⟩
theorem pmo_fnO (Fx : FnXo X.prog X.w X.K X.mg X.base x params k ps G) (hr : Room k X.A) (hgd : X.A.guards = some []) (tk : Takes X Wx) (hb : Bd x params ps 1 [] [0]) (hg : Gl X x) (ha : PMo X Wx e mo) (hdb : (x == ("__debug__" : Str)) = false := by decide)
    (he : starEach [e] X.env = (false, eval e X.env) :: starEach [] X.env := by rfl) (hpl : (backTo pos (starEach [] X.env)).any (·.1) = false := by rfl) : PMo X Wx (.Call (.Name x p) [e] [] pos) (mFnOo G mo) := ⟨(pe_fnO Fx hr hgd tk hb hg (pa_cons ha.pe pa_nil he) hdb he hpl).imp fno_tmo⟩
end
/-- code without the pot -/
def IFo (G : FnO) : Prop := ∀ xs p q, G xs q = (G xs p).at q
theorem ifo_fres (n : Nat) {c : C} (h : IC c) : IFo (freso n c) := fun xs p q => by
  unfold freso
  rw [h _ p q]
  cases c (some (.own xs) :: List.replicate (n - 1) none) p <;> rfl
theorem im_outO {α : Type} {f : D → Bool → Option α} {G : FnO} (h : IFo G) (xs : List D) : IM fun _ p => outFn f (G xs p) := fun ρ p q => by
  show outFn f (G xs q) = (outFn f (G xs p)).at q
  rw [h xs p q]
  cases G xs p with
  | ok d fr p' =>
    simp only [FRes.at, ev_outFn]
    cases f d fr <;> rfl
  | exc x p' => rfl
  | stuck => rfl
theorem im_fnO {G : FnO} (h : IFo G) {mo : M (List D)} (hm : IM mo) : IM (mFnO G mo) := im_bind hm fun xs => im_outO h xs
theorem im_fnOo {G : FnO} (h : IFo G) {mo : M (List D)} (hm : IM mo) : IM (mFnOo G mo) := im_bind hm fun xs => im_outO h xs
end PF

namespace PF
open PySem PySem.Spec PyProof.Rows L2
/-! ### zip over lists, tuples, ranges in any mix -/
section
variable {prog : Program} {w : World} {A : Around} {E : Value → Shared → Prop} {s : Shared}
theorem nextOf_range_item {it : Addr} {x left step : Int} {Q : Value → Shared → Prop} (hit : IsRangeIter s.heap it x left step) (hleft : 0 < left)
    (hQ : ∀ h', IsRangeIter h' it (x + step) (left - 1) step → Heap.SameBut it s.heap h' → Q (.int x s.toks) { s with heap := h', toks := s.toks + 1 }) :
    wpAny (model prog w) A (Builtin.SmallTypes.nextOf (.ref it)) Q E s := by
  have hT : s.TypeIs (.ref it) "range_iterator" := ⟨_, hit, rfl⟩
  unfold Builtin.SmallTypes.nextOf
  refine wpAny_bind (wpAny_callSpecial?_slot (name := Str.ofString "__next__") hT F.slot_range_iterator_next
    (call_meets F.slot_range_iterator_next hT F.entry_range_iterator_next (F.args_range_iterator_next_1 _) (AutoRange.range_iterator___next___range_iterator_1 it x left step (by omega)) ⟨hit, ?_⟩))
  exact wpAny_pure (hQ _ (Heap.get?_update_self _ (Heap.get?_update_self _ hit rfl) rfl) ((Heap.SameBut.update ..).trans (Heap.SameBut.update ..)))
theorem nextOf_range_end {it : Addr} {x left step : Int} {Q : Value → Shared → Prop} (hh : A.handled = none) (hit : IsRangeIter s.heap it x left step) (hleft : left ≤ 0)
    (hE : ∀ h' e, Heap.ExtBut it s.heap h' → (∃ o, h'.get? e = some o ∧ o.cls = .type "StopIteration") → E (.ref e) { s with heap := h' }) : wpAny (model prog w) A (Builtin.SmallTypes.nextOf (.ref it)) Q E s := by
  have hT : s.TypeIs (.ref it) "range_iterator" := ⟨_, hit, rfl⟩
  unfold Builtin.SmallTypes.nextOf
  refine wpAny_bind (wpAny_callSpecial?_slot (name := Str.ofString "__next__") hT F.slot_range_iterator_next
    (wpAny_call_entry F.slot_range_iterator_next hT F.entry_range_iterator_next ?_ (F.args_range_iterator_next_1 _)))
  show wpAny _ _ (field (.ref it) 0 >>= _) _ _ s
  refine wpAny_bind (wpAny_field hit rfl (x := rawInt x) rfl ?_)
  show wpAny _ _ (field (.ref it) 1 >>= _) _ _ s
  refine wpAny_bind (wpAny_field hit rfl (x := rawInt left) rfl ?_)
  show wpAny _ _ (field (.ref it) 2 >>= _) _ _ s
  refine wpAny_bind (wpAny_field hit rfl (x := rawInt step) rfl ?_)
  show wpAny _ _ (if left ≤ 0 then _ else _) _ _ s
  rw [if_pos hleft]
  refine wpAny_bind (wpAny_rule ?_)
  refine wpAny_bind ?_
  show wpAny _ _ (newExc (.type "StopIteration") [] >>= _) _ _ _
  refine wpAny_bind ?_
  simp only [newExc, newTuple]
  refine wpAny_bind (wpAny_newObj_type ?_ (by size_fits))
  refine wpAny_bind (m := firstArgMember _ _) (wpAny_of_eq (a := Value.none) (by first | rfl | (simp only [firstArgMember]; rfl)) ?_)
  refine wpAny_newObj_type ?_ (by size_fits)
  simp only [raiseNew]
  refine wpAny_bind (wpAny_handled ?_)
  first | rw [show A.in1.handled = none from hh] | rw [hh]
  refine wpAny_bind (wpAny_pure (wpAny_throw ?_))
  exact hE _ _ (((Heap.ExtBut.refl it s.heap).push _).push _) ⟨_, Heap.get?_push_size _ rfl, rfl⟩
theorem draws_range (hh : A.handled = none) (it : Addr) (a : Int) (n : Nat) :
    Draws prog w A it [it] n (fun i v => i < n ∧ ∃ t, v = .int (a + (i : Nat)) t) (fun i h => IsRangeIter h it (a + (i : Nat)) ((n : Int) - (i : Nat)) 1) where
  live := fun _ _ st => ⟨_, st⟩
  frame := fun _ _ _ st hk => hk it (by simp) _ st
  item := fun i s Q E hi st hQ => nextOf_range_item st (by omega) fun h' hit' hs' => hQ _ h' (s.toks + 1) ⟨hi, _, rfl⟩ (by
    have e1 : a + ((i + 1 : Nat) : Int) = a + (i : Int) + 1 := by omega
    have e2 : (n : Int) - ((i + 1 : Nat) : Int) = (n : Int) - (i : Int) - 1 := by omega
    show IsRangeIter h' it (a + ((i + 1 : Nat) : Int)) ((n : Int) - ((i + 1 : Nat) : Int)) 1
    rw [e1, e2]; exact hit') hs'
  done := fun s Q E st hE => nextOf_range_end hh st (by omega) hE
theorem begins_range (r : Addr) (a b : Int) (t u v : Tok) (hs : Builtin.Range.small a b 1 = true) : Begins (.ref r) { cls := .type "range_iterator", data := .fields #[rawInt a, rawInt (Builtin.Range.rangeSize a b 1), rawInt 1] } fun h => IsRange h r a b 1 t u v where
  iter := fun prog w A E s Q hr h => wpAny_pyIter_range hr hs h
  keeps := fun h h' x hk => hk r _ x
  free := rfl
end
inductive Src | l (a : Addr) | t (a : Addr) | r (lo : Int) (n : Nat)
def srcV (K : PySem.W.Frag) (H : Hp) : Src → List V → Prop
  | .l a, xs => SqL K H a xs
  | .t a, xs => SqT K H a xs
  | .r lo n, xs => xs = (List.range n).map fun (k : Nat) => V.int (lo + k)
def srcA : Src → List Addr
  | .l a => [a]
  | .t a => [a]
  | .r _ _ => []
def srcSt (it : Addr) (i : Nat) (h : Heap) : Src → Prop
  | .l a => h.IsListIter it a i
  | .t a => h.IsTupleIter it a i
  | .r lo n => IsRangeIter h it (lo + (i : Nat)) ((n : Int) - (i : Nat)) 1
theorem srcSt_obj {it : Addr} {i : Nat} {h : Heap} : ∀ {q : Src}, srcSt it i h q → ∃ o, h.get? it = some o ∧ ∀ v, o.data ≠ .cell v
  | .l _, ⟨o, e, _, d⟩ => ⟨o, e, fun v z => by rw [d] at z; cases z⟩
  | .t _, ⟨o, e, _, d⟩ => ⟨o, e, fun v z => by rw [d] at z; cases z⟩
  | .r _ _, st => ⟨_, st, fun v z => by cases z⟩
theorem srcSt_keep {it : Addr} {i : Nat} {h h' : Heap} (k : ∀ o, h.get? it = some o → h'.get? it = some o) : ∀ {q : Src}, srcSt it i h q → srcSt it i h' q
  | .l _, st => Heap.IsListIter.at st k
  | .t _, st => Heap.IsTupleIter.at st k
  | .r _ _, st => k _ st
section
variable {X : Cx} {pins : List (Addr × Obj)} {σ : L2.St} {H : Hp} {s : Shared}
theorem src_inj (I : Inv X pins σ H s) {q : Src} {xs ys : List V} (h : srcV X.K H q xs) (h' : srcV X.K H q ys) : xs = ys := by
  cases q with
  | l a => exact I.list_inj h h'
  | t a => exact I.tuple_inj h h'
  | r lo n => rw [show xs = _ from h, show ys = _ from h']
theorem vals_get {xs : List V} {us : List Value} (r : Vals xs us) {i : Nat} {u : Value} (h : us[i]? = some u) : ∃ x, xs[i]? = some x ∧ RelV x u := by
  have hl := r.length
  obtain ⟨hi, _⟩ := List.getElem?_eq_some_iff.mp h
  have hx : xs[i]? = some (xs[i]'(by omega)) := List.getElem?_eq_getElem (by omega)
  obtain ⟨u', hu', ru⟩ := r.get hx
  rw [h] at hu'
  cases hu'
  exact ⟨_, hx, ru⟩
/-- what an iterator of a source draws, as its source stands -/
theorem src_draws {A : Around} (hh : A.handled = none) (I : Inv X pins σ H s) {q : Src} {it : Addr} (hne : ∀ b ∈ srcA q, b ≠ it) {xs : List V} (hq : srcV X.K H q xs) :
    ∃ Pd St, Draws X.prog X.w A it (it :: srcA q) xs.length Pd St ∧ (∀ i, srcSt it i s.heap q → St i s.heap) ∧ (∀ i h, St i h → srcSt it i h q) ∧ ∀ i v, Pd i v → ∃ x, xs[i]? = some x ∧ RelV x v := by
  cases q with
  | l a =>
    obtain ⟨its, rv, p, _⟩ := I.list hq
    have e : xs.length = its.toArray.size := by rw [rv.length]; simp
    rw [e]
    exact ⟨_, _, Draws.list hh it a (hne a (by simp [srcA])) its.toArray, fun i st => ⟨st, p.isList⟩, fun i h st => st.1, fun i v hv => vals_get rv (by simpa using hv)⟩
  | t a =>
    obtain ⟨its, rv, p, _⟩ := I.tuple hq
    have e : xs.length = its.toArray.size := by rw [rv.length]; simp
    rw [e]
    exact ⟨_, _, Draws.tuple hh it a (hne a (by simp [srcA])) its.toArray, fun i st => ⟨st, p⟩, fun i h st => st.1, fun i v hv => vals_get rv (by simpa using hv)⟩
  | r lo n =>
    have e : xs = (List.range n).map fun (k : Nat) => V.int (lo + k) := hq
    subst e
    rw [List.length_map, List.length_range]
    refine ⟨_, _, draws_range hh it lo n, fun i st => st, fun i h st => st, fun i v hv => ?_⟩
    obtain ⟨hi, t, rfl⟩ := hv
    exact ⟨.int (lo + i), by rw [List.getElem?_map, List.getElem?_range hi]; rfl, ⟨t, rfl⟩⟩
end
theorem wr_fp {z TI TO i1 i2 b : Addr} (m : b ∈ [z, TO, i1, i2]) : b ∈ [z, TI, TO, i1, i2] := by
  simp only [List.mem_cons, List.not_mem_nil, or_false] at m ⊢
  rcases m with h | h | h | h <;> simp [h]
/-- zip over two sources, N turns -/
def ItS (K : PySem.W.Frag) (q1 q2 : Src) (N : Nat) : It :=
  ⟨fun i H => i < N ∧ ∃ xs ys, srcV K H q1 xs ∧ srcV K H q2 ys ∧ N = min xs.length ys.length,
    fun i H v H' => ∃ T x y, v = .ref T ∧ H T = none ∧ H' = upd H T (.tup [x, y]) ∧ (∀ xs, srcV K H q1 xs → xs[i]? = some x) ∧ ∀ ys, srcV K H q2 ys → ys[i]? = some y,
    fun i H => N ≤ i ∧ ∃ xs ys, srcV K H q1 xs ∧ srcV K H q2 ys ∧ N = min xs.length ys.length⟩
theorem turn_zipS {P : Program} {w : World} {K : PySem.W.Frag} {elts : List Expr} {kk : Nat} {tpos : Pos} {q1 q2 : Src} {z TI TO i1 i2 : Addr} {N : Nat} (S : ZipSep2 z TI TO i1 i2 (i1 :: srcA q1) (i2 :: srcA q2)) (n1 : ∀ b ∈ srcA q1, b ≠ i1) (n2 : ∀ b ∈ srcA q2, b ≠ i2) :
    Turn P w K (.Tuple elts kk tpos) (ItS K q1 q2 N) [z, TI, TO, i1, i2] z (fun i h => i ≤ N ∧ IsZip h z TI TO .none ∧ IsTupOf2 h TI (.ref i1) (.ref i2) ∧ (∃ x y, IsTupOf2 h TO x y) ∧ srcSt i1 i h q1 ∧ srcSt i2 i h q2) where
  mem := by simp
  obj := fun i h st c hc => by
    obtain ⟨_, hz, hTI, ⟨x, y, hTO⟩, h1, h2⟩ := st
    have e' : c = z ∨ c = TI ∨ c = TO ∨ c = i1 ∨ c = i2 := by simpa using hc
    rcases e' with q | q | q | q | q
    · rw [q]; exact ⟨_, hz, fun v q => nomatch q⟩
    · rw [q]; exact ⟨_, hTI, fun v q => nomatch q⟩
    · rw [q]; exact ⟨_, hTO, fun v q => nomatch q⟩
    · rw [q]; exact srcSt_obj h1
    · rw [q]; exact srcSt_obj h2
  keep := fun i h h' st k => by
    obtain ⟨hN, hz, hTI, ⟨x, y, hTO⟩, h1, h2⟩ := st
    exact ⟨hN, k z (by simp) _ hz, k TI (by simp) _ hTI, ⟨x, y, k TO (by simp) _ hTO⟩, srcSt_keep (fun o q => k i1 (by simp) o q) h1, srcSt_keep (fun o q => k i2 (by simp) o q) h2⟩
  item := by
    intro X hP hw hK hc i pins s σ H E I hf st hg
    subst hP hw hK
    obtain ⟨hN, hz, hTI, ⟨x0, y0, hTO⟩, h1, h2⟩ := st
    obtain ⟨hlt, xs, ys, hx, hy, hn⟩ := hg
    obtain ⟨P1, St1, D1, a1, b1, c1⟩ := src_draws (A := X.A.in1) (I.ok.hd hc) I n1 hx
    obtain ⟨P2, St2, D2, a2, b2, c2⟩ := src_draws (A := X.A.in1) (I.ok.hd hc) I n2 hy
    have W := WalksT.zipD2 S D1 D2
    refine W.item i s _ _ (by omega) ⟨hz, hTI, ⟨x0, y0, hTO⟩, a1 i h1, a2 i h2⟩ fun T vals h' tk hP hT hIs hMid hk => ⟨.ref T, rfl, W.go elts kk tpos i T { s with heap := h', toks := tk } _ _ hMid fun h'' st'' hk'' => ?_⟩
    obtain ⟨u1, u2, p1, p2, rfl⟩ := hP
    obtain ⟨x, gx, rx⟩ := c1 i u1 p1
    obtain ⟨y, gy, ry⟩ := c2 i u2 p2
    have hIs2 : h''.IsTuple T #[u1, u2] := hIs.at fun o e => hk'' T o (W.apart i T h' hMid) e
    have new : ObjOk X.prog X.w (upd H T (.tup [x, y])) h'' T (.tup [x, y]) := ⟨by show 2 ≤ sizeLine; decide, [u1, u2], .cons rx (.cons ry .nil), hIs2⟩
    have kk' : ∀ b o, b ∉ [z, TI, TO, i1, i2] → s.heap.get? b = some o → h''.get? b = some o := fun b o hb e =>
      hk'' b o (fun m => hb (wr_fp m)) (hk b o (fun m => hb (wr_fp m)) e)
    have I1 : Inv X pins σ (upd H T (.tup [x, y])) { s with heap := h'', toks := tk } := I.turnedNew (t' := tk) kk' hf hT new
    obtain ⟨z1, z2, z3, z4, z5⟩ := st''
    refine ⟨.ref T, _, I1, rfl, ⟨T, x, y, rfl, I.hok.fresh hT, rfl, fun l hl => by rw [src_inj I hl hx]; exact gx, fun l hl => by rw [src_inj I hl hy]; exact gy⟩, ⟨hlt, z1, z2, z3, b1 _ _ z4, b2 _ _ z5⟩, fun c hcm => ?_⟩
    have hlt : c < s.heap.objs.size := by
      have e' : c = z ∨ c = TI ∨ c = TO ∨ c = i1 ∨ c = i2 := by simpa using hcm
      rcases e' with q | q | q | q | q
      · rw [q]; exact Heap.lt_size hz
      · rw [q]; exact Heap.lt_size hTI
      · rw [q]; exact Heap.lt_size hTO
      · rw [q]; obtain ⟨_, e1, _⟩ := srcSt_obj h1; exact Heap.lt_size e1
      · rw [q]; obtain ⟨_, e2, _⟩ := srcSt_obj h2; exact Heap.lt_size e2
    rw [upd_ne (Nat.ne_of_lt (Nat.lt_of_lt_of_le hlt hT))]
    exact (hf c hcm).1
  done := by
    intro X hP hw hK hc i pins s σ H E I hf st hg
    subst hP hw hK
    obtain ⟨hN, hz, hTI, ⟨x0, y0, hTO⟩, h1, h2⟩ := st
    obtain ⟨hge, xs, ys, hx, hy, hn⟩ := hg
    obtain ⟨P1, St1, D1, a1, b1, c1⟩ := src_draws (A := X.A.in1) (I.ok.hd hc) I n1 hx
    obtain ⟨P2, St2, D2, a2, b2, c2⟩ := src_draws (A := X.A.in1) (I.ok.hd hc) I n2 hy
    have W := WalksT.zipD2 S D1 D2
    have e : i = min xs.length ys.length := by omega
    subst e
    exact W.done s _ _ ⟨hz, hTI, ⟨x0, y0, hTO⟩, a1 _ h1, a2 _ h2⟩ fun h' tk hk => ⟨rfl, I.turnedL (t' := tk) (ch := [z, TI, TO, i1, i2]) (fun c o hb q => hk c o (fun m => hb (wr_fp m)) q) hf⟩
  self := fun A i s Q E st h => wpAny_pyIter_zip st.2.1 h

section
variable {X : Cx} {pins : List (Addr × Obj)} {σ : L2.St} {H : Hp} {s : Shared}
/-- a list's, a tuple's iterator begins -/
theorem src_begins (I : Inv X pins σ H s) {a : Addr} {q : Src} (hq : q = .l a ∨ q = .t a) {xs : List V} (h : srcV X.K H q xs) :
    ∃ o Hb, Begins (.ref a) o Hb ∧ Hb s.heap ∧ (∀ h' it, h'.get? it = some o → srcSt it 0 h' q) ∧ ∀ b ∈ srcA q, b < s.heap.objs.size := by
  rcases hq with rfl | rfl
  · obtain ⟨its, rv, p, _⟩ := I.list h
    exact ⟨_, _, begins_list a its.toArray, p.isList, fun h' it e => ⟨_, e, rfl, rfl⟩, fun b hb => by
      have : b = a := by simpa [srcA] using hb
      subst this; exact p.lt⟩
  · obtain ⟨its, rv, p, _⟩ := I.tuple h
    exact ⟨_, _, begins_tuple a its.toArray, p, fun h' it e => ⟨_, e, rfl, rfl⟩, fun b hb => by
      have : b = a := by simpa [srcA] using hb
      subst this
      obtain ⟨o, e, _⟩ := id p
      exact Heap.lt_size e⟩
theorem fresh5 (I : Inv X pins σ H s) : ∀ c, c ∈ [s.heap.objs.size + 4, s.heap.objs.size + 2, s.heap.objs.size + 3, s.heap.objs.size, s.heap.objs.size + 1] → FpOk X pins H c := fun c hcm => by
  have e' : c = s.heap.objs.size + 4 ∨ c = s.heap.objs.size + 2 ∨ c = s.heap.objs.size + 3 ∨ c = s.heap.objs.size ∨ c = s.heap.objs.size + 1 := by simpa using hcm
  have hle : s.heap.objs.size ≤ c := by
    rcases e' with z | z | z | z | z <;> rw [z]
    · exact Nat.le_add_right _ _
    · exact Nat.le_add_right _ _
    · exact Nat.le_add_right _ _
    · exact Nat.le_refl _
    · exact Nat.le_add_right _ _
  exact I.fpOk hle (I.hok.fresh hle)
/-- zip of two values, each with an iterator of its own -/
theorem zip_start {E : Value → Shared → Prop} {elts : List Expr} {kk : Nat} {tpos : Pos} {R : It → Hp → Prop} {v1 v2 : Value} {q1 q2 : Src} {o1 o2 : Obj} {H1 H2 : Heap → Prop} {N : Nat} (I : Inv X pins σ H s) (B1 : Begins v1 o1 H1) (B2 : Begins v2 o2 H2) (h1 : H1 s.heap) (h2 : H2 s.heap)
    (t1 : ∀ h' it, h'.get? it = some o1 → srcSt it 0 h' q1) (t2 : ∀ h' it, h'.get? it = some o2 → srcSt it 0 h' q2) (l1 : ∀ b ∈ srcA q1, b < s.heap.objs.size) (l2 : ∀ b ∈ srcA q2, b < s.heap.objs.size) (q : R (ItS X.K q1 q2 N) H) :
    wpAny (model X.prog X.w) X.A (call (.type "zip") [v1, v2]) (fun v s1 => wpAny (model X.prog X.w) X.A (pyIter v) (PIE X pins σ (.Tuple elts kk tpos) R) E s1) E s := by
  refine zip_begins2 B1 B2 h1 h2 fun h' hz hTI hTO e1 e2 hsz hk => wpAny_pyIter_zip hz ?_
  have I2 : Inv X pins σ H { s with heap := h' } := I.kept (t' := s.toks) hk
  exact ⟨s.heap.objs.size + 4, [s.heap.objs.size + 4, s.heap.objs.size + 2, s.heap.objs.size + 3, s.heap.objs.size, s.heap.objs.size + 1], _, _, H, rfl, I2,
    turn_zipS (N := N) (zip_sep2 l1 l2) (fun b hb => Nat.ne_of_lt (l1 b hb)) (fun b hb => Nat.ne_of_lt (Nat.lt_succ_of_lt (l2 b hb))), ⟨Nat.zero_le _, hz, hTI, ⟨_, _, hTO⟩, t1 _ _ e1, t2 _ _ e2⟩, fresh5 I, q⟩
end
def iZipS (K : PySem.W.Frag) (ta : TA) : TI := fun σ H R => ta σ H fun vs H1 => ∃ a b xs ys q1 q2, vs = [.ref a, .ref b] ∧ (q1 = .l a ∨ q1 = .t a) ∧ (q2 = .l b ∨ q2 = .t b) ∧ srcV K H1 q1 xs ∧ srcV K H1 q2 ys ∧ R (ItS K q1 q2 (min xs.length ys.length)) H1
theorem pi_zipS {X : Cx} {e e2 : Expr} {ta : TA} {p pos tpos : Pos} {elts : List Expr} {kk : Nat} (hg : Gl X "zip") (hm : X.mg "zip" = none) (ha : PA X [e, e2] ta)
    (hs : starEach [e, e2] X.env = (false, eval e X.env) :: starEach [e2] X.env := by rfl) (hpl : (backTo pos (starEach [e2] X.env)).any (·.1) = false := by rfl) :
    PI X (.Tuple elts kk tpos) (.Call (.Name "zip" p) [e, e2] [] pos) (iZipS X.K ta) := by
  refine ⟨fun pins s σ H R I h => ?_⟩
  refine Call_ (ld_blt I hg hm PyProof.Rows.boot_zip (PyProof.Rows.callWith_type1 (thn (ha.run pos pins s σ H _ I h) fun us s1 ⟨vs, H1, I1, r1, q1⟩ => ?_) hs hpl))
  obtain ⟨a, b, xs, ys, qa, qb, ex, ea, eb, hx, hy, q⟩ := q1
  subst ex
  obtain ⟨o1, B1, b1, c1, d1, f1⟩ := src_begins I1 ea hx
  obtain ⟨o2, B2, b2, c2, d2, f2⟩ := src_begins I1 eb hy
  cases r1 with
  | cons r rr =>
    cases rr with
    | cons r' rr =>
      cases rr
      cases r
      cases r'
      exact zip_start I1 b1 b2 c1 c2 d1 d2 f1 f2 q
/-- zip(range(a, b), e) -/
def iZipR (K : PySem.W.Frag) (ta : TA) (te : TE) : TI := fun σ H R => ta σ H fun vs H1 => ∃ i j : Int, vs = [.int i, .int j] ∧ (-(2 ^ 62) ≤ i ∧ i < 2 ^ 62 ∧ -(2 ^ 62) ≤ j ∧ j < 2 ^ 62) ∧ te σ H1 fun v H2 => ∃ a xs q2, v = .ref a ∧ (q2 = .l a ∨ q2 = .t a) ∧ srcV K H2 q2 xs ∧ R (ItS K (.r i (j - i).toNat) q2 (min (j - i).toNat xs.length)) H2
theorem pi_zipR {X : Cx} {e0 e1 e2 : Expr} {ta : TA} {te : TE} {p p2 pos pos2 tpos : Pos} {elts : List Expr} {kk : Nat} (hg : Gl X "zip") (hm : X.mg "zip" = none) (hgr : Gl X "range") (hmr : X.mg "range" = none) (ha : PA X [e0, e1] ta) (he : PE X e2 te)
    (hs : starEach [e0, e1] X.env = [(false, eval e0 X.env), (false, eval e1 X.env)] := by rfl) (hs2 : starEach [e1] X.env = [(false, eval e1 X.env)] := by rfl)
    (hz : starEach [.Call (.Name "range" p2) [e0, e1] [] pos2, e2] X.env = (false, eval (.Call (.Name "range" p2) [e0, e1] [] pos2) X.env) :: starEach [e2] X.env := by rfl) (hz2 : starEach [e2] X.env = (false, eval e2 X.env) :: starEach [] X.env := by rfl)
    (hpl : (backTo pos (starEach [e2] X.env)).any (·.1) = false := by rfl) :
    PI X (.Tuple elts kk tpos) (.Call (.Name "zip" p) [.Call (.Name "range" p2) [e0, e1] [] pos2, e2] [] pos) (iZipR X.K ta te) := by
  refine ⟨fun pins s σ H R I h => ?_⟩
  refine Call_ (ld_blt I hg hm PyProof.Rows.boot_zip (PyProof.Rows.callWith_type1 ?_ hz hpl))
  refine PyProof.Rows.args_cons ?_ hz
  refine Call_ (ld_blt I hgr hmr boot_range (PyProof.Rows.callWith_type1 (thn (ha.run pos2 pins s σ H _ I h) fun us s1 ⟨vs, H1, I1, r1, q1⟩ => ?_) (by rw [hs, hs2]) (by rw [hs2]; rfl)))
  obtain ⟨i, j, ev, ⟨w1, w2, w3, w4⟩, q1⟩ := q1
  subst ev
  cases r1 with
  | cons r rr =>
    cases rr with
    | cons r' rr =>
      cases rr
      obtain ⟨t, rfl⟩ := r
      obtain ⟨t', rfl⟩ := r'
      refine call_range_2 ?_
      have I2 : Inv X pins σ H1 { s1 with heap := s1.heap.push { cls := .type "range", data := .fields #[.int i t, .int j t', .int 1 s1.toks] }, toks := s1.toks + 1 } := I1.kept fun b o e => Heap.get?_push_of_some _ e
      have hr0 := IsRange.new s1.heap i j 1 t t' s1.toks
      have hfree := I1.fpOk (Nat.le_refl _) (I1.hok.fresh (Nat.le_refl _))
      let r0 : Addr := s1.heap.objs.size
      let ob : Obj := { cls := .type "range", data := .fields #[.int i t, .int j t', .int 1 s1.toks] }
      have I3 : Inv X ((r0, ob) :: pins) σ H1 { s1 with heap := s1.heap.push { cls := .type "range", data := .fields #[.int i t, .int j t', .int 1 s1.toks] }, toks := s1.toks + 1 } := I2.pins_of fun q hq => by
        rcases List.mem_cons.mp hq with rfl | hq
        · exact ⟨hr0, hfree.1, hfree.2.1, hfree.2.2.1, fun v z => by cases z⟩
        · exact I2.pin q (List.mem_append_right _ hq)
      refine PyProof.Rows.args_cons (thn (he.run ((r0, ob) :: pins) _ σ H1 _ I3 q1) fun u s3 ⟨v, H2, I4, rv, q2⟩ => PyProof.Rows.args_nil ?_) hz2
      have hr : IsRange s3.heap r0 i j 1 t t' s1.toks := (I4.pin (r0, ob) (List.mem_append_right _ List.mem_cons_self)).1
      have I5 : Inv X pins σ H2 s3 := I4.pins_of fun q hq => I4.pin q (List.mem_append_right _ (List.mem_cons_of_mem _ hq))
      obtain ⟨b, ys, qb, ev, eb, hy, q⟩ := q2
      subst ev
      cases rv
      obtain ⟨o2, B2, b2, c2, d2, f2⟩ := src_begins I5 eb hy
      have hsm := small_one w1 w2 w3 w4
      refine zip_start I5 (begins_range r0 i j t t' s1.toks hsm) b2 hr c2 (fun h' it e => ?_) d2 (fun b hb => by cases hb) f2 q
      have e1 : i + ((0 : Nat) : Int) = i := by simp
      have e2 : (((j - i).toNat : Nat) : Int) - ((0 : Nat) : Int) = Builtin.Range.rangeSize i j 1 := by rw [rangeSize_one]; split <;> omega
      show IsRangeIter h' it (i + ((0 : Nat) : Int)) ((((j - i).toNat : Nat) : Int) - ((0 : Nat) : Int)) 1
      rw [e1, e2]
      exact e
/-! ### as data -/
def sqD : D → Option (List D)
  | .lst xs => some xs
  | .tup xs => some xs
  | _ => none
@[simp] theorem sqD_lst (xs : List D) : sqD (.lst xs) = some xs := rfl
@[simp] theorem sqD_tup (xs : List D) : sqD (.tup xs) = some xs := rfl
def zipS : List D → Option (List D)
  | [d, e] => (sqD d).bind fun xs => (sqD e).map fun ys => zipL xs ys
  | _ => none
@[simp] theorem zipS_two (d e : D) : zipS [d, e] = (sqD d).bind fun xs => (sqD e).map fun ys => zipL xs ys := rfl
def mZipS (ms : M (List D)) : M (List D) := mbind ms fun ds => mopt (zipS ds)
def mZipR (mr : M (List D)) (me : M D) : M (List D) := mbind (mRange2 mr) fun xs => mbind me fun d => mopt ((sqD d).map fun ys => zipL xs ys)
@[simp] theorem ev_mZipS (ms : M (List D)) (ρ : Sl) (p : Pst) : mZipS ms ρ p = mbind ms (fun ds => mopt (zipS ds)) ρ p := by cases p; rfl
@[simp] theorem ev_mZipR (mr : M (List D)) (me : M D) (ρ : Sl) (p : Pst) : mZipR mr me ρ p = mbind (mRange2 mr) (fun xs => mbind me fun d => mopt ((sqD d).map fun ys => zipL xs ys)) ρ p := by cases p; rfl
theorem im_zipS {m : M (List D)} (h : IM m) : IM (mZipS m) := im_bind h fun _ => im_opt _
theorem im_zipR {m : M (List D)} {me : M D} (h : IM m) (h2 : IM me) : IM (mZipR m me) := im_bind (im_range2 h) fun _ => im_bind h2 fun _ => im_opt _
def SrcF (F : Hp) (q : Src) (vs : List V) : Prop := (∃ a, q = .l a ∧ F a = some (.lst vs)) ∨ (∃ a, q = .t a ∧ F a = some (.tup vs)) ∨ ∃ lo n, q = .r lo n ∧ vs = (List.range n).map fun (k : Nat) => V.int (lo + k)
theorem SrcF.v {K : PySem.W.Frag} {F H : Hp} {q : Src} {vs : List V} (h : SrcF F q vs) (sub : ∀ a o, F a = some o → H a = some o) : srcV K H q vs := by
  rcases h with ⟨a, rfl, h⟩ | ⟨a, rfl, h⟩ | ⟨lo, n, rfl, h⟩
  · exact SqL.of (sub _ _ h)
  · exact SqT.of (sub _ _ h)
  · exact h
/-- a source as data -/
theorem sq_src {K : PySem.W.Frag} {F H : Hp} {g : Nat} {pa : Option Addr} {p : Pst} {v : V} {d : D} {xs : List D} (r : Rep K F g pa v d) (e : sqD d = some xs) : ∃ (a : Addr) (q : Src) (vs : List V), v = .ref a ∧ (q = .l a ∨ q = .t a) ∧ SrcF F q vs ∧ xs.length ≤ sizeLine ∧ Reps K F g pa vs xs := by
  cases d <;> first | (cases e; done) | skip
  · cases e
    obtain ⟨a, vs, rfl, h, hz, rs⟩ := r.lst_inv
    exact ⟨a, .l a, vs, rfl, .inl rfl, .inl ⟨a, rfl, h⟩, hz, rs⟩
  · cases e
    obtain ⟨a, vs, rfl, h, hz, rs⟩ := r.tup_inv
    exact ⟨a, .t a, vs, rfl, .inr rfl, .inr (.inl ⟨a, rfl, h⟩), hz, rs⟩
theorem iter_zipS {K : PySem.W.Frag} {F : Hp} {g : Nat} {pa : Option Addr} {q1 q2 : Src} {vs ws : List V} {ds es : List D} (h : SrcF F q1 vs) (r : Reps K F g pa vs ds) (h' : SrcF F q2 ws) (r' : Reps K F g pa ws es) : IterOk K F g pa (ItS K q1 q2 (min vs.length ws.length)) (zipL ds es) := by
  intro i F1 H1 pa1 p1 fz gs1
  have h1 : srcV K H1 q1 vs := h.v fun a o e => gs1.sub _ _ (fz.sub _ _ e)
  have h2 : srcV K H1 q2 ws := h'.v fun a o e => gs1.sub _ _ (fz.sub _ _ e)
  have hl : (zipL ds es).length = min vs.length ws.length := by simp only [zipL, List.length_zipWith]; rw [r.1, r'.1]
  refine ⟨fun hi => ⟨by omega, vs, ws, h1, h2, rfl⟩, fun z hz => ?_⟩
  have hlt : i < (zipL ds es).length := (List.getElem?_eq_some_iff.mp hz).1
  obtain ⟨d, e, q1, q2, rfl⟩ := zipL_get hz
  obtain ⟨v, hv, rv⟩ := (r.mono fz).get q1
  obtain ⟨w, hw, rw'⟩ := (r'.mono fz).get q2
  refine ⟨⟨by omega, vs, ws, h1, h2, rfl⟩, fun x H' ⟨T, y1, y2, e1, e2, e3, hx, hy⟩ => ?_⟩
  subst e1 e3
  have t1 := hx vs h1
  rw [hv] at t1
  cases t1
  have t2 := hy ws h2
  rw [hw] at t2
  cases t2
  exact zip_item gs1 e2 rv rw'
theorem reps_rng {K : PySem.W.Frag} {F : Hp} {g : Nat} {pa : Option Addr} (lo : Int) (n : Nat) : Reps K F g pa ((List.range n).map fun (k : Nat) => V.int (lo + k)) (rgL lo n) := by
  refine ⟨by simp [rgL], fun i x y hx hy => ?_⟩
  unfold rgL at hy
  rw [List.getElem?_map] at hx hy
  cases q : (List.range n)[i]? with
  | none => rw [q] at hx; cases hx
  | some k =>
    rw [q] at hx hy
    cases hx; cases hy
    exact .int _
section
variable {X : Cx} {Wx : WX} {a b e2 : Expr} {ms mr : M (List D)} {me : M D} {p p2 pos pos2 : Pos}
theorem pmi_zipS {elts : List Expr} {kk : Nat} {tpos : Pos} (hg : Gl X "zip") (hm : X.mg "zip" = none) (ha : PMa X Wx [a, b] ms) (hs : starEach [a, b] X.env = (false, eval a X.env) :: starEach [b] X.env := by rfl) (hpl : (backTo pos (starEach [b] X.env)).any (·.1) = false := by rfl) :
    PMi X Wx (.Tuple elts kk tpos) (.Call (.Name "zip" p) [a, b] [] pos) (mZipS ms) := ⟨(pi_zipS hg hm ha.pa hs hpl).imp fun σ H R ⟨F, pa, p, ρ, gs, s, o⟩ => by
  refine TMa.of gs s (o.bind.mono fun ds p1 F1 H1 pa1 gr1 gs1 o1 s1 vs rs => ?_)
  obtain ⟨z, ez, o2⟩ := o1.opt
  unfold zipS at ez
  split at ez <;> first | (cases ez; done) | skip
  rename_i d e
  cases q : sqD d with
  | none => rw [q] at ez; cases ez
  | some xs =>
    cases q2 : sqD e with
    | none => rw [q, q2] at ez; cases ez
    | some ys =>
      rw [q, q2] at ez
      cases ez
      obtain ⟨v, w, rfl, r1, r2⟩ := reps2 rs
      obtain ⟨a, s1, vs, rfl, ea, f1, hz, ra⟩ := sq_src (H := H1) (p := p1) r1 q
      obtain ⟨b, s2, ws, rfl, eb, f2, hz', rb⟩ := sq_src (H := H1) (p := p1) r2 q2
      exact ⟨a, b, vs, ws, s1, s2, rfl, ea, eb, f1.v gs1.sub, f2.v gs1.sub, o2.ret gs1 _ (iter_zipS f1 ra f2 rb) (Nat.le_trans (zipL_len _ _) hz)⟩⟩
theorem pmi_zipR {e0 e1 : Expr} {elts : List Expr} {kk : Nat} {tpos : Pos} (hg : Gl X "zip") (hm : X.mg "zip" = none) (hgr : Gl X "range") (hmr : X.mg "range" = none) (ha : PMa X Wx [e0, e1] mr) (he : PM X Wx e2 me)
    (hs : starEach [e0, e1] X.env = [(false, eval e0 X.env), (false, eval e1 X.env)] := by rfl) (hs2 : starEach [e1] X.env = [(false, eval e1 X.env)] := by rfl)
    (hz : starEach [.Call (.Name "range" p2) [e0, e1] [] pos2, e2] X.env = (false, eval (.Call (.Name "range" p2) [e0, e1] [] pos2) X.env) :: starEach [e2] X.env := by rfl) (hz2 : starEach [e2] X.env = (false, eval e2 X.env) :: starEach [] X.env := by rfl)
    (hpl : (backTo pos (starEach [e2] X.env)).any (·.1) = false := by rfl) :
    PMi X Wx (.Tuple elts kk tpos) (.Call (.Name "zip" p) [.Call (.Name "range" p2) [e0, e1] [] pos2, e2] [] pos) (mZipR mr me) := ⟨(pi_zipR hg hm hgr hmr ha.pa he.pe hs hs2 hz hz2 hpl).imp fun σ H R ⟨F, pa, p, ρ, gs, s, o⟩ => by
  unfold mZipR mRange2 at o
  refine TMa.of gs s ((o.bind.bind).mono fun ds p1 F1 H1 pa1 gr1 gs1 o1 s1 vs rs => ?_)
  obtain ⟨z, ez, o2⟩ := o1.opt
  unfold dRange2 at ez
  split at ez <;> first | (cases ez; done) | skip
  split at ez <;> first | (cases ez; done) | skip
  rename_i hc
  simp only [Option.some.injEq] at ez
  subst ez
  obtain ⟨v, w, rfl, r1, r2⟩ := reps2 rs
  cases r1; cases r2
  refine ⟨_, _, rfl, ⟨by omega, by omega, by omega, by omega⟩, ?_⟩
  rename_i i0 j0
  have o3 := o2.ret gs1
  refine TM.of gs1 s1 (o3.bind.mono fun d p2 F2 H2 pa2 gr2 gs2 o4 s2 v r => ?_)
  obtain ⟨z, ez, o5⟩ := o4.opt
  cases q : sqD d with
  | none => rw [q] at ez; cases ez
  | some ys =>
    rw [q] at ez
    cases ez
    obtain ⟨a, q2, ws, rfl, ea, f2, hz, rb⟩ := sq_src (H := H2) (p := p2) r q
    have f1 : SrcF F2 (.r i0 (j0 - i0).toNat) ((List.range (j0 - i0).toNat).map fun (k : Nat) => V.int (i0 + k)) := .inr (.inr ⟨_, _, rfl, rfl⟩)
    have it := iter_zipS f1 (reps_rng (K := X.K) (F := F2) (g := p2.g) (pa := pa2) i0 (j0 - i0).toNat) f2 rb
    rw [List.length_map, List.length_range] at it
    refine ⟨a, ws, q2, rfl, ea, f2.v gs2.sub, o5.ret gs2 _ it (Nat.le_trans (zipL_len _ _) ?_)⟩
    rw [rgL_len]
    exact sz16 (by omega)⟩
end
end PF

namespace PF
open PySem PySem.Spec PyProof.Rows L2
/-! ### in, in a tuple of any data -/
def rInT (K : PySem.W.Frag) : R2 := fun x y H Q => ∃ d ds, Dp K H x d ∧ Dp K H y (.tuple ds) ∧ SeqAt.shaped d = true ∧ SeqAt.shaped (.tuple ds) = true ∧ Q (.bl (ds.any fun z => PyData.eqv z d)) H
section
variable {X : Cx} {Wx : WX} {a b : Expr} {ma mb : M D} {pos : Pos}
theorem op_inT (hu : X.A.units + 65 < cLine) : OpR X (compareOp .In) (rInT X.K) := by
  intro pins s σ H x y v u Q I rx ry h
  obtain ⟨d, ds, hd, he, sd, se, q⟩ := h
  obtain ⟨as, r1⟩ := Dp.reads I d x v hd rx
  obtain ⟨bs, r2⟩ := Dp.reads I (.tuple ds) y u he ry
  exact SeqAt.in_tuple_reads r2 r1 (SeqAt.canLay_of_shaped se) (SeqAt.canLay_of_shaped sd) (room_in_shaped sd hu) ⟨.bl _, H, I, rfl, q⟩
def dInT : D → D → Option Bool
  | d, .tup xs => if okEq d && okEq (.tup xs) then some (xs.any fun z => PyData.eqv (toPy z) (toPy d)) else none
  | _, _ => none
theorem cmps_inT : CmpS X (rInT X.K) dInT := by
  intro x y d e z F H p pa Q gs rx ry ez k
  cases e <;> first | (simp [dInT] at ez; done) | skip
  rename_i xs
  simp only [dInT] at ez
  split at ez
  · rename_i hc
    simp only [Bool.and_eq_true] at hc
    have h2 := ry.dp gs.sub (pl_of hc.2)
    have s2 := shaped_ok hc.2
    simp only [toPy] at h2 s2
    refine ⟨_, _, rx.dp gs.sub (pl_of hc.1), h2, shaped_ok hc.1, s2, ?_⟩
    rw [any_toPys]
    simp only [Option.some.injEq] at ez
    rw [ez]; exact k
  · cases ez
theorem pmt_inT (hu : Un X) (ha : PM X Wx a ma) (hb : PM X Wx b mb) (hm : behindInMarks .In b = false := by rfl) : PMt X Wx (.Compare a [.In] [b] pos) (mCmp dInT ma mb) := pmt_cmp (op_inT hu) cmps_inT ha hb hm
theorem pm_inT (hu : Un X) (ha : PM X Wx a ma) (hb : PM X Wx b mb) (hm : behindInMarks .In b = false := by rfl) : PM X Wx (.Compare a [.In] [b] pos) (mB (mCmp dInT ma mb)) := pm_cmp (op_inT hu) cmps_inT ha hb hm
end
end PF

namespace PF
open PySem PySem.Spec PyProof.Rows L2
/-! ### sorted of a list of pairs of ints -/
def le2 (p q : Int × Int) : Bool := decide (p.1 < q.1) || (decide (p.1 = q.1) && decide (p.2 ≤ q.2))
theorem le2_iff {p q : Int × Int} : le2 p q = true ↔ p.1 < q.1 ∨ (p.1 = q.1 ∧ p.2 ≤ q.2) := by simp [le2]
def insP (x : Int × Int) : List (Int × Int) → List (Int × Int)
  | [] => [x]
  | y :: ys => if le2 x y = true then x :: y :: ys else y :: insP x ys
def srtP : List (Int × Int) → List (Int × Int)
  | [] => []
  | x :: xs => insP x (srtP xs)
theorem insP_perm (x : Int × Int) : ∀ l, (insP x l).Perm (x :: l)
  | [] => .refl _
  | y :: ys => by
    unfold insP
    split
    · exact .refl _
    · exact ((insP_perm x ys).cons y).trans (.swap x y ys)
theorem srtP_perm : ∀ ns : List (Int × Int), (srtP ns).Perm ns
  | [] => .refl _
  | x :: xs => (insP_perm x (srtP xs)).trans ((srtP_perm xs).cons x)
theorem insP_sorted (x : Int × Int) : ∀ l : List (Int × Int), l.Pairwise (fun a b => le2 a b = true) → (insP x l).Pairwise (fun a b => le2 a b = true)
  | [], _ => by simp [insP]
  | y :: ys, h => by
    rw [List.pairwise_cons] at h
    unfold insP
    split
    · rename_i hc
      refine List.Pairwise.cons (fun z hz => ?_) (List.Pairwise.cons h.1 h.2)
      rcases List.mem_cons.mp hz with rfl | hz
      · exact hc
      · have := le2_iff.mp hc; have := le2_iff.mp (h.1 z hz); exact le2_iff.mpr (by omega)
    · rename_i hc
      refine List.Pairwise.cons (fun z hz => ?_) (insP_sorted x ys h.2)
      have hz' := (insP_perm x ys).mem_iff.mp hz
      rcases List.mem_cons.mp hz' with rfl | hz'
      · have : ¬ (z.1 < y.1 ∨ (z.1 = y.1 ∧ z.2 ≤ y.2)) := fun q => hc (le2_iff.mpr q)
        exact le2_iff.mpr (by omega)
      · exact h.1 z hz'
theorem srtP_sorted : ∀ ns : List (Int × Int), (srtP ns).Pairwise (fun a b => le2 a b = true)
  | [] => .nil
  | x :: xs => insP_sorted x (srtP xs) (srtP_sorted xs)
theorem sortedP_unique {xs ys : List (Int × Int)} (hp : xs.Perm ys) (h1 : xs.Pairwise (fun a b => le2 a b = true)) (h2 : ys.Pairwise (fun a b => le2 a b = true)) : xs = ys :=
  List.Perm.eq_of_pairwise (le := fun a b => le2 a b = true) (fun a b _ _ h3 h4 => by
    have := le2_iff.mp h3; have := le2_iff.mp h4; exact Prod.ext (by omega) (by omega)) h1 h2 hp
theorem srtP_congr {xs ys : List (Int × Int)} (h : xs.Perm ys) : srtP xs = srtP ys := sortedP_unique ((srtP_perm xs).trans (h.trans (srtP_perm ys).symm)) (srtP_sorted xs) (srtP_sorted ys)
def pairD (q : Int × Int) : D := .tup [.int q.1, .int q.2]
def pairsOf : List D → Option (List (Int × Int))
  | [] => some []
  | .tup [.int a, .int b] :: r => (pairsOf r).map ((a, b) :: ·)
  | _ => none
theorem pairsOf_map (qs : List (Int × Int)) : pairsOf (qs.map pairD) = some qs := by
  induction qs with
  | nil => rfl
  | cons q qs ih => simp [pairsOf, pairD] at ih ⊢; rw [ih]
theorem pairsOf_eq : ∀ {ds : List D} {qs : List (Int × Int)}, pairsOf ds = some qs → ds = qs.map pairD
  | [], qs, h => by simp [pairsOf] at h; subst h; rfl
  | d :: ds, qs, h => by
    unfold pairsOf at h
    split at h
    · rename_i e; cases e
    · rename_i a b r e
      cases e
      cases q : pairsOf ds with
      | none => rw [q] at h; cases h
      | some ms =>
        rw [q] at h
        simp only [Option.map_some, Option.some.injEq] at h
        subst h
        rw [List.map_cons, ← pairsOf_eq q]; rfl
    · cases h
def dSortP : List D → Option (List D)
  | [.lst xs] => (pairsOf xs).map fun qs => (srtP qs).map pairD
  | _ => none
/-- the pair at a tuple as it stands -/
def pairAt (H : Hp) : V → Int × Int
  | .ref t => (match H t with | some (.tup [.int a, .int b]) => (a, b) | _ => (0, 0))
  | _ => (0, 0)
section
variable {X : Cx} {Wx : WX} {e : Expr} {es : List Expr} {ms : M (List D)} {p pos : Pos}
theorem calls_sortP : CallSo X (rSortedPO X.K) dSortP := by
  intro xs ds z F H p pa Q gs rs ez k
  unfold dSortP at ez
  split at ez <;> first | (cases ez; done) | skip
  rename_i ys
  obtain ⟨v, rfl, r⟩ := reps1 rs
  obtain ⟨a, vs, rfl, h, hz, r2⟩ := r.lstH gs
  cases q : pairsOf ys with
  | none => rw [q] at ez; cases ez
  | some qs =>
    rw [q] at ez
    simp only [Option.map_some, Option.some.injEq] at ez
    subst ez
    have eys := pairsOf_eq q
    subst eys
    -- each one is a tuple of two ints
    have key : ∀ (i : Nat) (x : V), vs[i]? = some x → ∃ pr, qs[i]? = some pr ∧ pairAt H x = pr ∧ (∃ t, x = V.ref t ∧ H t = some (.tup [.int pr.1, .int pr.2])) ∧ Rep X.K F p.g pa x (pairD pr) := fun i x hx => by
      obtain ⟨d, hd, rd⟩ := r2.get' hx
      rw [List.getElem?_map] at hd
      cases qi : qs[i]? with
      | none => rw [qi] at hd; cases hd
      | some pr =>
        rw [qi] at hd
        cases hd
        obtain ⟨t, ws, rfl, ht, _, rw'⟩ := rd.tupH gs
        obtain ⟨w1, w2, rfl, q1, q2⟩ := reps2 rw'
        cases q1; cases q2
        exact ⟨pr, rfl, (by simp only [pairAt, ht]), ⟨t, rfl, ht⟩, rd⟩
    have hmap : vs.map (pairAt H) = qs := by
      apply List.ext_getElem?
      intro i
      rw [List.getElem?_map]
      cases hv : vs[i]? with
      | none =>
        have l1 := r2.1
        rw [List.length_map] at l1
        have : qs[i]? = none := List.getElem?_eq_none (by have := List.getElem?_eq_none_iff.mp hv; omega)
        rw [this]; rfl
      | some x =>
        obtain ⟨pr, h1, h2, _, _⟩ := key i x hv
        rw [h1, ← h2]; rfl
    have hmem : ∀ x ∈ vs, (∃ t, x = V.ref t ∧ H t = some (.tup [.int (pairAt H x).1, .int (pairAt H x).2])) ∧ Rep X.K F p.g pa x (pairD (pairAt H x)) := fun x hx => by
      obtain ⟨i, hi⟩ := List.mem_iff_getElem?.mp hx
      obtain ⟨pr, _, h2, h3, h4⟩ := key i x hi
      rw [h2]
      exact ⟨h3, h4⟩
    refine ⟨a, vs, pairAt H, rfl, SqL.of h, fun x hx => (hmem x hx).1, fun zs l hs hst hl => ?_⟩
    have hperm := hst.perm
    have e : zs.map (pairAt H) = srtP qs := by
      refine sortedP_unique (((hperm.map (pairAt H)).trans (by rw [hmap])).trans (srtP_perm qs).symm) ?_ (srtP_sorted qs)
      rw [List.pairwise_map]
      exact hs.imp fun {x y} hxy => by
        have := SrtO.lexB_no.mp hxy
        exact le2_iff.mpr (by omega)
    refine k l zs hl (by rw [List.length_map, (srtP_perm qs).length_eq]; rw [List.length_map] at hz; exact hz) ?_
    rw [← e, List.map_map]
    have hall : ∀ x ∈ zs, Rep X.K F p.g pa x (pairD (pairAt H x)) := fun x hx => (hmem x (hperm.mem_iff.mp hx)).2
    refine ⟨by simp, fun i x d hx hd => ?_⟩
    rw [List.getElem?_map, hx] at hd
    cases hd
    exact hall x (List.mem_of_getElem? hx)
theorem b_sortP (hm : X.mg "sorted" = none) (ha : PMa X Wx (e :: es) ms) (hg : Gl X "sorted" := by rfl) (he : starEach (e :: es) X.env = (false, eval e X.env) :: starEach es X.env := by rfl) (hpl : (backTo pos (starEach es X.env)).any (·.1) = false := by rfl) : PMo X Wx (.Call (.Name "sorted" p) (e :: es) [] pos) (mLst dSortP ms) := pmo_callB cr_sortedPO calls_sortP hg hm boot_sorted ha (by decide) (by decide) he hpl
end
end PF

namespace HT
open PySem PyProof.Rows
section
variable {prog : Program} {w : World} {A : Around} {E : Value → Shared → Prop} {s : Shared}
theorem sliceApplied_rev2 {sl : Addr} {vl vu vs : Value} {Q : Int × Int × Nat → Shared → Prop} (hs : s.heap.IsSliceOf sl vl vu vs) (pl : IsPart vl none) (pu : IsPart vu none) (ps : IsPart vs (some (-1)))
    (h : Q (1, -1, 2) s) : wpAny (model prog w) A (Builtin.Slice.sliceApplied (.ref sl) (pure ((2 : Nat) : Int))) Q E s := by
  obtain ⟨os, hos, hcs, hds⟩ := id hs
  unfold Builtin.Slice.sliceApplied Builtin.Slice.sliceFields
  refine wpAny_bind (wpAny_bind (wpAny_field hos hds (x := vl) rfl (wpAny_bind (wpAny_field hos hds (x := vu) rfl (wpAny_bind (wpAny_field hos hds (x := vs) rfl (wpAny_pure ?_)))))))
  refine wpAny_bind (slicePart_ ps ?_)
  show wpAny _ _ (if ((-1 : Int) == 0) = true then _ else _) _ _ s
  rw [if_neg (by decide)]
  refine wpAny_bind (slicePart_ pl (wpAny_bind (slicePart_ pu (wpAny_bind (wpAny_pure ?_)))))
  exact wpAny_pure h
theorem getItem_tuple_rev2 {t sl : Addr} {x y : Value} {vl vu vs : Value} {Q : Value → Shared → Prop} (ht : IsTup s.heap t #[x, y]) (hs : s.heap.IsSliceOf sl vl vu vs) (pl : IsPart vl none) (pu : IsPart vu none) (ps : IsPart vs (some (-1)))
    (h : Q (.ref s.heap.objs.size) { s with heap := s.heap.push { cls := .type "tuple", data := .seq #[y, x] } }) : wpAny (model prog w) A (getItem (.ref t) (.ref sl)) Q E s := by
  have htake : sizeOk (.seq #[y, x]) := by show 2 ≤ sizeLine; decide
  obtain ⟨os, hos, hcs, hds⟩ := id hs
  have hTs : s.TypeIs (.ref sl) "slice" := ⟨os, hos, hcs⟩
  unfold getItem
  try with_reducible refine wpAny_holding ?_
  first | refine wpAny_bind (wpAny_pure ?_) | skip
  refine wpAny_bind (wpAny_sequenceKey ht.typeIs (by decide) ?_)
  refine wpAny_bind (wpAny_callSpecial?_slot (name := Str.ofString "__getitem__") ht.typeIs PyProof.Rows.slot_tuple_getitem
    (wpAny_call_entry PyProof.Rows.slot_tuple_getitem ht.typeIs entry_tuple_getitem ?_ (args_tuple_getitem _ _)))
  show wpAny _ _ (Builtin.Tuple.tupleItemsOf (.ref t) >>= _) _ _ s
  refine wpAny_bind (tupleItemsOf_ ht ?_)
  refine wpAny_bind (wpAny_typeOf hTs ?_)
  rw [if_pos (by decide)]
  refine wpAny_bind (sliceApplied_rev2 hs pl pu ps ?_)
  show wpAny _ _ (if (((1 : Int)) == 0 && (-1 : Int) == 1 && 2 == 2) = true then _ else _) _ _ s
  rw [if_neg (by decide)]
  first
    | exact wpAny_bind (m := Builtin.Tuple.tupleExact _) (wpAny_newObj_type (wpAny_pure ⟨_, rfl, wpAny_pure h⟩) htake)
    | exact wpAny_bind (m := Builtin.Tuple.tupleExact _) (wpAny_newObj_type (wpAny_bind (wpAny_pure (wpAny_pure ⟨_, rfl, wpAny_pure h⟩))) htake)
    | exact wpAny_bind (wpAny_bind (m := Builtin.Tuple.tupleExact _) (wpAny_newObj_type (wpAny_pure (wpAny_pure ⟨_, rfl, wpAny_pure h⟩)) htake))
    | exact wpAny_bind (wpAny_bind (m := Builtin.Tuple.tupleExact _) (wpAny_newObj_type (wpAny_pure ⟨_, rfl, wpAny_pure h⟩) htake))
end
end HT
namespace PF
open PySem PySem.Spec PyProof.Rows L2
/-! ### xy[::-1], xy a tuple of two -/
def tRev2 (K : PySem.W.Frag) (te : TE) : TE := fun σ H Q => te σ H fun x H1 => ∃ a v w, x = .ref a ∧ SqT K H1 a [v, w] ∧ ∀ p, H1 p = none → Q (.ref p) (upd H1 p (.tup [w, v]))
theorem pe_rev2 {X : Cx} {e : Expr} {te : TE} {k : Nat} {p1 p2 p3 pos : Pos} (he : PE X e te) : PE X (.Subscript e (.Slice none none (some (.UnaryOp .USub (.Constant (.int 1) k p1) p2)) p3) pos) (tRev2 X.K te) := by
  refine ⟨fun pins s σ H Q I h => ?_⟩
  refine Subscript_ (thn (he.run pins s σ H _ I h) fun v s1 ⟨x, H1, I1, r1, q1⟩ => ?_)
  obtain ⟨a, y1, y2, ex, hx, q⟩ := q1
  subst ex
  cases r1
  have hst : PO X (some (.UnaryOp .USub (.Constant (.int 1) k p1) p2)) (tPart (tUn (rU fun i => .int (-i)) (tC (.int 1)))) := po_some (pe_un un_neg pe_int)
  refine wpAny_Slice (thn (po_none.run pins s1 σ H1 (fun o H2 => o = none ∧ H2 = H1) I1 ⟨rfl, rfl⟩) fun vl s2 ⟨l, H2, I2, pl, el, e2⟩ => ?_)
  subst el e2
  refine thn (po_none.run pins s2 σ H2 (fun o H3 => o = none ∧ H3 = H2) I2 ⟨rfl, rfl⟩) fun vu s3 ⟨u, H3, I3, pu, eu, e3⟩ => ?_
  subst eu e3
  refine thn (hst.run pins s3 σ H3 (fun o H4 => o = some (-1) ∧ H4 = H3) I3 ⟨1, rfl, -1, rfl, rfl, rfl⟩) fun vs s4 ⟨o, H4, I4, ps, eo, e4⟩ => ?_
  subst eo e4
  have I5 : Inv X pins σ H4 { s4 with heap := s4.heap.push { cls := .type "slice", data := .fields #[vl, vu, vs] } } := I4.kept (t' := s4.toks) fun b ob q => Heap.get?_push_of_some _ q
  obtain ⟨its, r, ht, hz⟩ := I5.tuple hx
  obtain ⟨u1, u2, rfl, ru1, ru2⟩ := vals2 r
  show wpAny (model X.prog X.w) X.A (subscriptTail e (.Slice none none (some (.UnaryOp .USub (.Constant (.int 1) k p1) p2)) p3) (.ref a) (.ref s4.heap.objs.size)) (EP X pins σ Q) X.xe { s4 with heap := s4.heap.push { cls := .type "slice", data := .fields #[vl, vu, vs] } }
  refine tail_any (ops := [.ref a, .ref s4.heap.objs.size]) ht.typeIs (PyProof.Rows.slot_tuple_getitem.lookup) ?_ (by with_unfolding_all rfl)
  refine HT.getItem_tuple_rev2 ht (Heap.IsSliceOf.new _ vl vu vs) pl pu ps ?_
  refine ⟨.ref _, _, I5.laid (t' := s4.toks) (o := .tup [y2, y1]) (fun b ob q => Heap.get?_push_of_some _ q) (Nat.le_refl _) ?_, rfl, q _ (I5.hok.fresh (Nat.le_refl _))⟩
  exact ⟨by show 2 ≤ sizeLine; decide, [u2, u1], .cons ru2 (.cons ru1 .nil), ⟨_, Heap.get?_push_size _ rfl, rfl, _, rfl⟩⟩
def rev2D : D → Option D
  | .tup [a, b] => some (.tup [b, a])
  | _ => none
@[simp] theorem rev2D_two (a b : D) : rev2D (.tup [a, b]) = some (.tup [b, a]) := rfl
def mRev2 (me : M D) : M D := mbind me fun d => mopt (rev2D d)
@[simp] theorem ev_mRev2 (me : M D) (ρ : Sl) (p : Pst) : mRev2 me ρ p = mbind me (fun d => mopt (rev2D d)) ρ p := by cases p; rfl
theorem im_rev2 {me : M D} (h : IM me) : IM (mRev2 me) := im_bind h fun _ => im_opt _
theorem pm_rev2 {X : Cx} {Wx : WX} {e : Expr} {me : M D} {k : Nat} {p1 p2 p3 pos : Pos} (he : PM X Wx e me) : PM X Wx (.Subscript e (.Slice none none (some (.UnaryOp .USub (.Constant (.int 1) k p1) p2)) p3) pos) (mRev2 me) := ⟨(pe_rev2 he.pe).imp fun σ H Q ⟨F, pa, p, ρ, gs, s, o⟩ => by
  refine TM.of gs s (o.bind.mono fun d p1 F1 H1 pa1 gr1 gs1 o1 s1 v1 r1 => ?_)
  obtain ⟨z, ez, o2⟩ := o1.opt
  unfold rev2D at ez
  split at ez <;> first | (cases ez; done) | skip
  rename_i a b
  cases ez
  obtain ⟨t, ws, rfl, ht, _, rw'⟩ := r1.tup_inv
  obtain ⟨w1, w2, rfl, q1, q2⟩ := reps2 rw'
  refine ⟨t, w1, w2, rfl, SqT.of (gs1.sub _ _ ht), fun q hq => ?_⟩
  obtain ⟨F', gr2, gs2, r2⟩ := zip_item gs1 hq q2 q1
  exact o2 _ _ pa1 gr2 gs2 _ r2⟩
end PF

namespace PF
open PySem PySem.Spec PyProof.Rows L2
/-! ### zip over three lists, tuples -/
theorem wr_fp3 {z TI TO i1 i2 i3 b : Addr} (m : b ∈ [z, TO, i1, i2, i3]) : b ∈ [z, TI, TO, i1, i2, i3] := by
  simp only [List.mem_cons, List.not_mem_nil, or_false] at m ⊢
  rcases m with h | h | h | h | h <;> simp [h]
def ItS3 (K : PySem.W.Frag) (q1 q2 q3 : Src) (N : Nat) : It :=
  ⟨fun i H => i < N ∧ ∃ xs ys zs, srcV K H q1 xs ∧ srcV K H q2 ys ∧ srcV K H q3 zs ∧ N = min (min xs.length ys.length) zs.length,
    fun i H v H' => ∃ T x y u, v = .ref T ∧ H T = none ∧ H' = upd H T (.tup [x, y, u]) ∧ (∀ xs, srcV K H q1 xs → xs[i]? = some x) ∧ (∀ ys, srcV K H q2 ys → ys[i]? = some y) ∧ ∀ zs, srcV K H q3 zs → zs[i]? = some u,
    fun i H => N ≤ i ∧ ∃ xs ys zs, srcV K H q1 xs ∧ srcV K H q2 ys ∧ srcV K H q3 zs ∧ N = min (min xs.length ys.length) zs.length⟩
theorem turn_zipS3 {P : Program} {w : World} {K : PySem.W.Frag} {elts : List Expr} {kk : Nat} {tpos : Pos} {q1 q2 q3 : Src} {z TI TO i1 i2 i3 : Addr} {N : Nat} (S : ZipSep3 z TI TO i1 i2 i3 (i1 :: srcA q1) (i2 :: srcA q2) (i3 :: srcA q3)) (n1 : ∀ b ∈ srcA q1, b ≠ i1) (n2 : ∀ b ∈ srcA q2, b ≠ i2) (n3 : ∀ b ∈ srcA q3, b ≠ i3) :
    Turn P w K (.Tuple elts kk tpos) (ItS3 K q1 q2 q3 N) [z, TI, TO, i1, i2, i3] z (fun i h => i ≤ N ∧ IsZip h z TI TO .none ∧ IsTupOf3 h TI (.ref i1) (.ref i2) (.ref i3) ∧ (∃ x y u, IsTupOf3 h TO x y u) ∧ srcSt i1 i h q1 ∧ srcSt i2 i h q2 ∧ srcSt i3 i h q3) where
  mem := by simp
  obj := fun i h st c hc => by
    obtain ⟨_, hz, hTI, ⟨x, y, u, hTO⟩, h1, h2, h3⟩ := st
    have e' : c = z ∨ c = TI ∨ c = TO ∨ c = i1 ∨ c = i2 ∨ c = i3 := by simpa using hc
    rcases e' with q | q | q | q | q | q
    · rw [q]; exact ⟨_, hz, fun v q => nomatch q⟩
    · rw [q]; exact ⟨_, hTI, fun v q => nomatch q⟩
    · rw [q]; exact ⟨_, hTO, fun v q => nomatch q⟩
    · rw [q]; exact srcSt_obj h1
    · rw [q]; exact srcSt_obj h2
    · rw [q]; exact srcSt_obj h3
  keep := fun i h h' st k => by
    obtain ⟨hN, hz, hTI, ⟨x, y, u, hTO⟩, h1, h2, h3⟩ := st
    exact ⟨hN, k z (by simp) _ hz, k TI (by simp) _ hTI, ⟨x, y, u, k TO (by simp) _ hTO⟩, srcSt_keep (fun o q => k i1 (by simp) o q) h1, srcSt_keep (fun o q => k i2 (by simp) o q) h2, srcSt_keep (fun o q => k i3 (by simp) o q) h3⟩
  item := by
    intro X hP hw hK hc i pins s σ H E I hf st hg
    subst hP hw hK
    obtain ⟨hN, hz, hTI, ⟨x0, y0, u0, hTO⟩, h1, h2, h3⟩ := st
    obtain ⟨hlt, xs, ys, zs, hx, hy, hu, hn⟩ := hg
    obtain ⟨P1, St1, D1, a1, b1, c1⟩ := src_draws (A := X.A.in1) (I.ok.hd hc) I n1 hx
    obtain ⟨P2, St2, D2, a2, b2, c2⟩ := src_draws (A := X.A.in1) (I.ok.hd hc) I n2 hy
    obtain ⟨P3, St3, D3, a3, b3, c3⟩ := src_draws (A := X.A.in1) (I.ok.hd hc) I n3 hu
    have W := WalksT.zipD3 S D1 D2 D3
    refine W.item i s _ _ (by omega) ⟨hz, hTI, ⟨x0, y0, u0, hTO⟩, a1 i h1, a2 i h2, a3 i h3⟩ fun T vals h' tk hP hT hIs hMid hk => ⟨.ref T, rfl, W.go elts kk tpos i T { s with heap := h', toks := tk } _ _ hMid fun h'' st'' hk'' => ?_⟩
    obtain ⟨u1, u2, u3, p1, p2, p3, rfl⟩ := hP
    obtain ⟨x, gx, rx⟩ := c1 i u1 p1
    obtain ⟨y, gy, ry⟩ := c2 i u2 p2
    obtain ⟨u, gu, ru⟩ := c3 i u3 p3
    have hIs2 : h''.IsTuple T #[u1, u2, u3] := hIs.at fun o e => hk'' T o (W.apart i T h' hMid) e
    have new : ObjOk X.prog X.w (upd H T (.tup [x, y, u])) h'' T (.tup [x, y, u]) := ⟨by show 3 ≤ sizeLine; decide, [u1, u2, u3], .cons rx (.cons ry (.cons ru .nil)), hIs2⟩
    have kk' : ∀ b o, b ∉ [z, TI, TO, i1, i2, i3] → s.heap.get? b = some o → h''.get? b = some o := fun b o hb e =>
      hk'' b o (fun m => hb (wr_fp3 m)) (hk b o (fun m => hb (wr_fp3 m)) e)
    have I1 : Inv X pins σ (upd H T (.tup [x, y, u])) { s with heap := h'', toks := tk } := I.turnedNew (t' := tk) kk' hf hT new
    obtain ⟨z1, z2, z3, z4, z5, z6⟩ := st''
    refine ⟨.ref T, _, I1, rfl, ⟨T, x, y, u, rfl, I.hok.fresh hT, rfl, fun l hl => by rw [src_inj I hl hx]; exact gx, fun l hl => by rw [src_inj I hl hy]; exact gy, fun l hl => by rw [src_inj I hl hu]; exact gu⟩, ⟨hlt, z1, z2, z3, b1 _ _ z4, b2 _ _ z5, b3 _ _ z6⟩, fun c hcm => ?_⟩
    have hlt : c < s.heap.objs.size := by
      have e' : c = z ∨ c = TI ∨ c = TO ∨ c = i1 ∨ c = i2 ∨ c = i3 := by simpa using hcm
      rcases e' with q | q | q | q | q | q
      · rw [q]; exact Heap.lt_size hz
      · rw [q]; exact Heap.lt_size hTI
      · rw [q]; exact Heap.lt_size hTO
      · rw [q]; obtain ⟨_, e1, _⟩ := srcSt_obj h1; exact Heap.lt_size e1
      · rw [q]; obtain ⟨_, e2, _⟩ := srcSt_obj h2; exact Heap.lt_size e2
      · rw [q]; obtain ⟨_, e3, _⟩ := srcSt_obj h3; exact Heap.lt_size e3
    rw [upd_ne (Nat.ne_of_lt (Nat.lt_of_lt_of_le hlt hT))]
    exact (hf c hcm).1
  done := by
    intro X hP hw hK hc i pins s σ H E I hf st hg
    subst hP hw hK
    obtain ⟨hN, hz, hTI, ⟨x0, y0, u0, hTO⟩, h1, h2, h3⟩ := st
    obtain ⟨hge, xs, ys, zs, hx, hy, hu, hn⟩ := hg
    obtain ⟨P1, St1, D1, a1, b1, c1⟩ := src_draws (A := X.A.in1) (I.ok.hd hc) I n1 hx
    obtain ⟨P2, St2, D2, a2, b2, c2⟩ := src_draws (A := X.A.in1) (I.ok.hd hc) I n2 hy
    obtain ⟨P3, St3, D3, a3, b3, c3⟩ := src_draws (A := X.A.in1) (I.ok.hd hc) I n3 hu
    have W := WalksT.zipD3 S D1 D2 D3
    have e : i = min (min xs.length ys.length) zs.length := by omega
    subst e
    exact W.done s _ _ ⟨hz, hTI, ⟨x0, y0, u0, hTO⟩, a1 _ h1, a2 _ h2, a3 _ h3⟩ fun h' tk hk => ⟨rfl, I.turnedL (t' := tk) (ch := [z, TI, TO, i1, i2, i3]) (fun c o hb q => hk c o (fun m => hb (wr_fp3 m)) q) hf⟩
  self := fun A i s Q E st h => wpAny_pyIter_zip st.2.1 h
section
variable {X : Cx} {pins : List (Addr × Obj)} {σ : L2.St} {H : Hp} {s : Shared}
theorem fresh6 (I : Inv X pins σ H s) : ∀ c, c ∈ [s.heap.objs.size + 5, s.heap.objs.size + 3, s.heap.objs.size + 4, s.heap.objs.size, s.heap.objs.size + 1, s.heap.objs.size + 2] → FpOk X pins H c := fun c hcm => by
  have hle : s.heap.objs.size ≤ c := by
    have e' : c = s.heap.objs.size + 5 ∨ c = s.heap.objs.size + 3 ∨ c = s.heap.objs.size + 4 ∨ c = s.heap.objs.size ∨ c = s.heap.objs.size + 1 ∨ c = s.heap.objs.size + 2 := by simpa using hcm
    rcases e' with z | z | z | z | z | z <;> rw [z]
    · exact Nat.le_add_right _ _
    · exact Nat.le_add_right _ _
    · exact Nat.le_add_right _ _
    · exact Nat.le_refl _
    · exact Nat.le_add_right _ _
    · exact Nat.le_add_right _ _
  exact I.fpOk hle (I.hok.fresh hle)
theorem zip_start3 {E : Value → Shared → Prop} {elts : List Expr} {kk : Nat} {tpos : Pos} {R : It → Hp → Prop} {v1 v2 v3 : Value} {q1 q2 q3 : Src} {o1 o2 o3 : Obj} {H1 H2 H3 : Heap → Prop} {N : Nat} (I : Inv X pins σ H s) (B1 : Begins v1 o1 H1) (B2 : Begins v2 o2 H2) (B3 : Begins v3 o3 H3) (h1 : H1 s.heap) (h2 : H2 s.heap) (h3 : H3 s.heap)
    (t1 : ∀ h' it, h'.get? it = some o1 → srcSt it 0 h' q1) (t2 : ∀ h' it, h'.get? it = some o2 → srcSt it 0 h' q2) (t3 : ∀ h' it, h'.get? it = some o3 → srcSt it 0 h' q3) (l1 : ∀ b ∈ srcA q1, b < s.heap.objs.size) (l2 : ∀ b ∈ srcA q2, b < s.heap.objs.size) (l3 : ∀ b ∈ srcA q3, b < s.heap.objs.size) (q : R (ItS3 X.K q1 q2 q3 N) H) :
    wpAny (model X.prog X.w) X.A (call (.type "zip") [v1, v2, v3]) (fun v s1 => wpAny (model X.prog X.w) X.A (pyIter v) (PIE X pins σ (.Tuple elts kk tpos) R) E s1) E s := by
  refine zip_begins3 B1 B2 B3 h1 h2 h3 fun h' hz hTI hTO e1 e2 e3 hsz hk => wpAny_pyIter_zip hz ?_
  have I2 : Inv X pins σ H { s with heap := h' } := I.kept (t' := s.toks) hk
  exact ⟨s.heap.objs.size + 5, [s.heap.objs.size + 5, s.heap.objs.size + 3, s.heap.objs.size + 4, s.heap.objs.size, s.heap.objs.size + 1, s.heap.objs.size + 2], _, _, H, rfl, I2,
    turn_zipS3 (N := N) (zip_sep3 l1 l2 l3) (fun b hb => Nat.ne_of_lt (l1 b hb)) (fun b hb => Nat.ne_of_lt (Nat.lt_succ_of_lt (l2 b hb))) (fun b hb => Nat.ne_of_lt (Nat.lt_succ_of_lt (Nat.lt_succ_of_lt (l3 b hb)))), ⟨Nat.zero_le _, hz, hTI, ⟨_, _, _, hTO⟩, t1 _ _ e1, t2 _ _ e2, t3 _ _ e3⟩, fresh6 I, q⟩
end
def iZipS3 (K : PySem.W.Frag) (ta : TA) : TI := fun σ H R => ta σ H fun vs H1 => ∃ a b c xs ys zs q1 q2 q3, vs = [.ref a, .ref b, .ref c] ∧ (q1 = .l a ∨ q1 = .t a) ∧ (q2 = .l b ∨ q2 = .t b) ∧ (q3 = .l c ∨ q3 = .t c) ∧ srcV K H1 q1 xs ∧ srcV K H1 q2 ys ∧ srcV K H1 q3 zs ∧ R (ItS3 K q1 q2 q3 (min (min xs.length ys.length) zs.length)) H1
theorem pi_zipS3 {X : Cx} {e e2 e3 : Expr} {ta : TA} {p pos tpos : Pos} {elts : List Expr} {kk : Nat} (hg : Gl X "zip") (hm : X.mg "zip" = none) (ha : PA X [e, e2, e3] ta)
    (hs : starEach [e, e2, e3] X.env = (false, eval e X.env) :: starEach [e2, e3] X.env := by rfl) (hpl : (backTo pos (starEach [e2, e3] X.env)).any (·.1) = false := by rfl) :
    PI X (.Tuple elts kk tpos) (.Call (.Name "zip" p) [e, e2, e3] [] pos) (iZipS3 X.K ta) := by
  refine ⟨fun pins s σ H R I h => ?_⟩
  refine Call_ (ld_blt I hg hm PyProof.Rows.boot_zip (PyProof.Rows.callWith_type1 (thn (ha.run pos pins s σ H _ I h) fun us s1 ⟨vs, H1, I1, r1, q1⟩ => ?_) hs hpl))
  obtain ⟨a, b, c, xs, ys, zs, qa, qb, qc, ex, ea, eb, ec, hx, hy, hz, q⟩ := q1
  subst ex
  obtain ⟨o1, B1, b1, c1, d1, f1⟩ := src_begins I1 ea hx
  obtain ⟨o2, B2, b2, c2, d2, f2⟩ := src_begins I1 eb hy
  obtain ⟨o3, B3, b3, c3, d3, f3⟩ := src_begins I1 ec hz
  cases r1 with
  | cons r rr =>
    cases rr with
    | cons r' rr =>
      cases rr with
      | cons r'' rr =>
        cases rr
        cases r
        cases r'
        cases r''
        exact zip_start3 I1 b1 b2 b3 c1 c2 c3 d1 d2 d3 f1 f2 f3 q
/-! ### as data -/
def zipL3 (xs ys zs : List D) : List D := List.zipWith (fun x (u : D × D) => .tup [x, u.1, u.2]) xs (ys.zip zs)
theorem zipL3_get {ds es fs : List D} {i : Nat} {z : D} (h : (zipL3 ds es fs)[i]? = some z) : ∃ d e f, ds[i]? = some d ∧ es[i]? = some e ∧ fs[i]? = some f ∧ z = .tup [d, e, f] := by
  unfold zipL3 at h
  rw [List.getElem?_zipWith] at h
  cases q : ds[i]? with
  | none => rw [q] at h; cases h
  | some d =>
    cases q2 : (es.zip fs)[i]? with
    | none => rw [q, q2] at h; cases h
    | some u =>
      rw [q, q2] at h
      have hz := List.getElem?_zip_eq_some.mp q2
      cases h
      exact ⟨d, u.1, u.2, rfl, hz.1, hz.2, rfl⟩
theorem zipL3_len (xs ys zs : List D) : (zipL3 xs ys zs).length = min xs.length (min ys.length zs.length) := by
  unfold zipL3; rw [List.length_zipWith, List.length_zip]
def zipS3 : List D → Option (List D)
  | [d, e, f] => (sqD d).bind fun xs => (sqD e).bind fun ys => (sqD f).map fun zs => zipL3 xs ys zs
  | _ => none
@[simp] theorem zipS3_three (d e f : D) : zipS3 [d, e, f] = (sqD d).bind fun xs => (sqD e).bind fun ys => (sqD f).map fun zs => zipL3 xs ys zs := rfl
def mZipS3 (ms : M (List D)) : M (List D) := mbind ms fun ds => mopt (zipS3 ds)
@[simp] theorem ev_mZipS3 (ms : M (List D)) (ρ : Sl) (p : Pst) : mZipS3 ms ρ p = mbind ms (fun ds => mopt (zipS3 ds)) ρ p := by cases p; rfl
theorem im_zipS3 {m : M (List D)} (h : IM m) : IM (mZipS3 m) := im_bind h fun _ => im_opt _
theorem three_line : 3 ≤ sizeLine := by decide
theorem zip_item3 {K : PySem.W.Frag} {F H : Hp} {p : Pst} {pa : Option Addr} {T : Addr} {v w u : V} {d e f : D} (gs : GS F H pa p) (hT : H T = none) (r1 : Rep K F p.g pa v d) (r2 : Rep K F p.g pa w e) (r3 : Rep K F p.g pa u f) :
    ∃ F', Gr F H p.g pa F' (upd H T (.tup [v, w, u])) p.g pa ∧ GS F' (upd H T (.tup [v, w, u])) pa p ∧ Rep K F' p.g pa (.ref T) (.tup [d, e, f]) :=
  have fu : Fz F p.g pa (upd F T (.tup [v, w, u])) p.g pa := Fz.upd (gs.fnone hT)
  ⟨_, Gr.alloc gs hT, gs.alloc hT, Rep.tup' upd_same three_line (.cons (r1.mono fu) (.cons (r2.mono fu) (.cons (r3.mono fu) .nil)))⟩
theorem reps3' {K : PySem.W.Frag} {F : Hp} {g : Nat} {pa : Option Addr} {xs : List V} {d e f : D} (r : Reps K F g pa xs [d, e, f]) : ∃ v w u, xs = [v, w, u] ∧ Rep K F g pa v d ∧ Rep K F g pa w e ∧ Rep K F g pa u f := by
  rcases r.cases with ⟨_, h⟩ | ⟨x, y, xs', ys', rfl, h, r1, r2⟩
  · cases h
  · cases h
    obtain ⟨v, w, rfl, r3, r4⟩ := reps2 r2
    exact ⟨x, v, w, rfl, r1, r3, r4⟩
theorem iter_zipS3 {K : PySem.W.Frag} {F : Hp} {g : Nat} {pa : Option Addr} {q1 q2 q3 : Src} {vs ws us : List V} {ds es fs : List D} (h : SrcF F q1 vs) (r : Reps K F g pa vs ds) (h' : SrcF F q2 ws) (r' : Reps K F g pa ws es) (h'' : SrcF F q3 us) (r'' : Reps K F g pa us fs) :
    IterOk K F g pa (ItS3 K q1 q2 q3 (min (min vs.length ws.length) us.length)) (zipL3 ds es fs) := by
  intro i F1 H1 pa1 p1 fz gs1
  have h1 : srcV K H1 q1 vs := h.v fun a o e => gs1.sub _ _ (fz.sub _ _ e)
  have h2 : srcV K H1 q2 ws := h'.v fun a o e => gs1.sub _ _ (fz.sub _ _ e)
  have h3 : srcV K H1 q3 us := h''.v fun a o e => gs1.sub _ _ (fz.sub _ _ e)
  have hl : (zipL3 ds es fs).length = min (min vs.length ws.length) us.length := by rw [zipL3_len, r.1, r'.1, r''.1]; omega
  refine ⟨fun hi => ⟨by omega, vs, ws, us, h1, h2, h3, rfl⟩, fun z hz => ?_⟩
  have hlt : i < (zipL3 ds es fs).length := (List.getElem?_eq_some_iff.mp hz).1
  obtain ⟨d, e, f, q1, q2, q3, rfl⟩ := zipL3_get hz
  obtain ⟨v, hv, rv⟩ := (r.mono fz).get q1
  obtain ⟨w, hw, rw'⟩ := (r'.mono fz).get q2
  obtain ⟨u, hu, ru'⟩ := (r''.mono fz).get q3
  refine ⟨⟨by omega, vs, ws, us, h1, h2, h3, rfl⟩, fun x H' ⟨T, y1, y2, y3, e1, e2, e3, hx, hy, hz⟩ => ?_⟩
  subst e1 e3
  have t1 := hx vs h1
  rw [hv] at t1
  cases t1
  have t2 := hy ws h2
  rw [hw] at t2
  cases t2
  have t3 := hz us h3
  rw [hu] at t3
  cases t3
  exact zip_item3 gs1 e2 rv rw' ru'
section
variable {X : Cx} {Wx : WX} {a b c : Expr} {ms : M (List D)} {p pos : Pos}
theorem pmi_zipS3 {elts : List Expr} {kk : Nat} {tpos : Pos} (hg : Gl X "zip") (hm : X.mg "zip" = none) (ha : PMa X Wx [a, b, c] ms) (hs : starEach [a, b, c] X.env = (false, eval a X.env) :: starEach [b, c] X.env := by rfl) (hpl : (backTo pos (starEach [b, c] X.env)).any (·.1) = false := by rfl) :
    PMi X Wx (.Tuple elts kk tpos) (.Call (.Name "zip" p) [a, b, c] [] pos) (mZipS3 ms) := ⟨(pi_zipS3 hg hm ha.pa hs hpl).imp fun σ H R ⟨F, pa, p, ρ, gs, s, o⟩ => by
  refine TMa.of gs s (o.bind.mono fun ds p1 F1 H1 pa1 gr1 gs1 o1 s1 vs rs => ?_)
  obtain ⟨z, ez, o2⟩ := o1.opt
  unfold zipS3 at ez
  split at ez <;> first | (cases ez; done) | skip
  rename_i d e f
  cases q : sqD d with
  | none => rw [q] at ez; cases ez
  | some xs =>
    cases q2 : sqD e with
    | none => rw [q, q2] at ez; cases ez
    | some ys =>
      cases q3 : sqD f with
      | none => rw [q, q2, q3] at ez; cases ez
      | some zs =>
        rw [q, q2, q3] at ez
        cases ez
        obtain ⟨v, w, u, rfl, r1, r2, r3⟩ := reps3' rs
        obtain ⟨a, s1, vs, rfl, ea, f1, hz, ra⟩ := sq_src (H := H1) (p := p1) r1 q
        obtain ⟨b, s2, ws, rfl, eb, f2, hz', rb⟩ := sq_src (H := H1) (p := p1) r2 q2
        obtain ⟨c, s3, us, rfl, ec, f3, hz'', rc⟩ := sq_src (H := H1) (p := p1) r3 q3
        exact ⟨a, b, c, vs, ws, us, s1, s2, s3, rfl, ea, eb, ec, f1.v gs1.sub, f2.v gs1.sub, f3.v gs1.sub, o2.ret gs1 _ (iter_zipS3 f1 ra f2 rb f3 rc) (by rw [zipL3_len]; omega)⟩⟩
end
end PF

namespace PF
open PySem PySem.Spec PyProof.Rows L2
/-! ### enumerate over zip -/
abbrev IsZipF (h : Heap) (z TI TO : Addr) (v0 f : Value) : Prop :=
  h.get? z = some { cls := .type "zip", dict := none, data := .fields #[v0, f, .bool false, .ref TI, .ref TO], slots := #[] }
def ZipAny (h : Heap) (z TI TO : Addr) : Prop := ∃ (v0 : Value) (f : Bool), (v0 = .none ∨ ∃ T : Nat, v0 = rawInt T) ∧ IsZipF h z TI TO v0 (.bool f)
section
variable {prog : Program} {w : World} {A : Around} {E : Value → Shared → Prop} {s : Shared} {z TI TO i1 i2 : Addr} {fp1 fp2 : List Addr} {n1 n2 i : Nat} {P1 P2 : Nat → Value → Prop} {St1 St2 : Nat → Heap → Prop} {a1 a2 : Value}
theorem wpAny_alive {a : Addr} {Q : Option Obj → Shared → Prop} (h : Q (s.heap.get? a) s) : wpAny (model prog w) A (loadIfAlive a) Q E s := fun _ _ _ => h
theorem wpAny_tupleAny {Q : Bool → Shared → Prop} (hz : ZipAny s.heap z TI TO) (hfree : ∀ v0 f, IsZipF s.heap z TI TO v0 f → Q true s) (hheld : ∀ h', ZipAny h' z TI TO → Heap.SameBut z s.heap h' → Q false { s with heap := h' }) :
    wpAny (model prog w) A (Builtin.SmallTypes.ownedTupleIsFree (.ref z)) Q E s := by
  obtain ⟨v0, f, hv, hz⟩ := hz
  unfold Builtin.SmallTypes.ownedTupleIsFree
  rcases hv with rfl | ⟨T, rfl⟩
  · exact wpAny_bind (wpAny_field hz rfl (x := .none) rfl (wpAny_pure (hfree _ _ hz)))
  · refine wpAny_bind (wpAny_field hz rfl (x := rawInt T) rfl ?_)
    show wpAny _ _ (loadIfAlive ((T : Int).toNat) >>= _) _ _ _
    rw [Int.toNat_natCast]
    refine wpAny_bind (wpAny_alive ?_)
    cases hT : s.heap.get? T with
    | none =>
      simp only [Option.isNone_none, if_true]
      exact wpAny_pure (hfree _ _ hz)
    | some oT =>
      simp only [Option.isNone_some, Bool.false_eq_true, if_false]
      refine wpAny_bind (wpAny_field hz rfl (x := .bool f) rfl ?_)
      cases f with
      | true =>
        rw [if_neg (show ¬ ((Value.bool true != Value.bool true) = true) from Bool.false_ne_true)]
        exact wpAny_pure (hheld s.heap ⟨_, _, .inr ⟨T, rfl⟩, hz⟩ (Heap.SameBut.refl _ _))
      | false =>
        rw [if_pos (show (Value.bool false != Value.bool true) = true from rfl)]
        exact wpAny_bind (wpAny_setField_rec hz (by simp) fun h₁ hz₁ hs₁ => wpAny_pure (hheld h₁ ⟨_, true, .inr ⟨T, rfl⟩, hz₁⟩ hs₁))
theorem zipAny_next_item {Q : Value → Shared → Prop} (S : ZipSep2 z TI TO i1 i2 fp1 fp2) (D1 : Draws prog w A i1 fp1 n1 P1 St1) (D2 : Draws prog w A i2 fp2 n2 P2 St2)
    (hz : ZipAny s.heap z TI TO) (hTI : IsTupOf2 s.heap TI (.ref i1) (.ref i2)) (hTO : IsTupOf2 s.heap TO a1 a2) (st1 : St1 i s.heap) (st2 : St2 i s.heap) (hlt1 : i < n1) (hlt2 : i < n2)
    (hQ : ∀ x1 x2 h' tk, P1 i x1 → P2 i x2 → ZipAny h' z TI TO → (∃ b1 b2, IsTupOf2 h' TO b1 b2) → St1 (i + 1) h' → St2 (i + 1) h' → IsTupOf2 h' s.heap.objs.size x1 x2 → h'.objs.size = s.heap.objs.size + 1 →
      (∀ c o, c ≠ z → c ≠ TO → c ≠ i1 → c ≠ i2 → s.heap.get? c = some o → h'.get? c = some o) → Q (.ref s.heap.objs.size) { s with heap := h', toks := tk }) :
    wpAny (model prog w) A (Builtin.«zip.__next__» ⟨[.ref z], []⟩) (fun fin s' => ∃ v, fin = .done (.ret v) ∧ Q v s') E s := by
  obtain ⟨hp, g, d, tk0, os⟩ := s
  obtain ⟨w0, fl, hv0, hzz0⟩ := id hz
  show wpAny _ _ (field (.ref z) 2 >>= _) _ _ _
  refine wpAny_bind (wpAny_field hzz0 rfl (x := .bool false) rfl ?_)
  show wpAny _ _ (field (.ref z) 3 >>= _) _ _ _
  refine wpAny_bind (wpAny_field hzz0 rfl (x := .ref TI) rfl ?_)
  refine wpAny_bind (wpAny_seqItems hTI rfl ?_)
  show wpAny _ _ (Builtin.SmallTypes.ownedTupleIsFree (.ref z) >>= _) _ _ _
  refine wpAny_bind (wpAny_tupleAny hz (fun v0 f hz => ?_) fun h₁ hz₁ hs₁ => ?_)
  · simp only [if_true]
    refine wpAny_bind (wpAny_rule ?_)
    refine wpAny_bind (wpAny_field hz rfl (x := .ref TO) rfl ?_)
    refine wpAny_bind (wpAny_setField_rec hz (by simp) fun g0 hz0 hs0 => ?_)
    replace hz0 : IsZipF g0 z TI TO .ellipsis f := hz0
    replace hs0 : Heap.SameBut z hp g0 := hs0
    refine wpAny_bind ?_
    simp only [List.zipIdx_cons, List.zipIdx_nil, List.forIn_cons, List.forIn_nil]
    refine wpAny_bind (wpAny_bind (wpAny_onRaise ?_))
    show wpAny _ _ (Builtin.SmallTypes.nextOf (.ref i1) >>= _) _ _ ⟨g0, g, d, tk0, os⟩
    refine wpAny_bind (D1.item i _ _ _ hlt1 (D1.over st1 hs0 S.zf1) fun x1 p1 tk1 hx1 sn1 hp1 => wpAny_pure ?_)
    replace hp1 : Heap.SameBut i1 g0 p1 := hp1
    have hU1 : IsTupOf2 p1 TO a1 a2 := hp1.extBut _ _ S.Ti1 (hs0.extBut _ _ S.TOz hTO)
    refine wpAny_bind (wpAny_seqItems (s := ⟨p1, g, d, tk1, os⟩) hU1 rfl ?_)
    refine wpAny_bind (updateSeq_IsTupOf2 (s := ⟨p1, g, d, tk1, os⟩) hU1 fun g1 hT1 hs1 => ?_)
    replace hT1 : IsTupOf2 g1 TO x1 a2 := hT1
    replace hs1 : Heap.SameBut TO p1 g1 := hs1
    refine wpAny_bind (wpAny_letGo (wpAny_pure ?_))
    refine wpAny_bind (wpAny_bind (wpAny_onRaise ?_))
    show wpAny _ _ (Builtin.SmallTypes.nextOf (.ref i2) >>= _) _ _ ⟨g1, g, d, tk1, os⟩
    refine wpAny_bind (D2.item i _ _ _ hlt2 (D2.over (D2.over (D2.over st2 hs0 S.zf2) hp1 S.sep1_2) hs1 S.Tf2) fun x2 p2 tk2 hx2 sn2 hp2 => wpAny_pure ?_)
    replace hp2 : Heap.SameBut i2 g1 p2 := hp2
    have hU2 : IsTupOf2 p2 TO x1 a2 := hp2.extBut _ _ S.Ti2 hT1
    refine wpAny_bind (wpAny_seqItems (s := ⟨p2, g, d, tk2, os⟩) hU2 rfl ?_)
    refine wpAny_bind (updateSeq_IsTupOf2 (s := ⟨p2, g, d, tk2, os⟩) hU2 fun g2 hT2 hs2 => ?_)
    replace hT2 : IsTupOf2 g2 TO x1 x2 := hT2
    replace hs2 : Heap.SameBut TO p2 g2 := hs2
    refine wpAny_bind (wpAny_letGo (wpAny_pure (wpAny_pure ?_)))
    refine wpAny_bind (wpAny_seqItems (s := ⟨g2, g, d, tk2, os⟩) hT2 rfl ?_)
    refine wpAny_bind (wpAny_newTuple ?_)
    have hsz : g2.objs.size = hp.objs.size := by rw [hs2.1, hp2.1, hs1.1, hp1.1, hs0.1]
    have hzz : IsZipF g2 z TI TO .ellipsis f := (hs2.extBut _ _ S.TOz.symm (hp2.extBut _ _ S.zi2 (hs1.extBut _ _ S.TOz.symm (hp1.extBut _ _ S.zi1 hz0))))
    have hkk : ∀ c o, c ≠ z → c ≠ TO → c ≠ i1 → c ≠ i2 → hp.get? c = some o → g2.get? c = some o := fun c o cz cT c1 c2 e =>
      (hs2.extBut _ _ cT (hp2.extBut _ _ c2 (hs1.extBut _ _ cT (hp1.extBut _ _ c1 (hs0.extBut _ _ cz e)))))
    have hj1 : St1 (i + 1) g2 := (D1.over (D1.over (D1.over sn1 hs1 S.Tf1) hp2 S.sep2_1) hs2 S.Tf1)
    have hj2 : St2 (i + 1) g2 := (D2.over sn2 hs2 S.Tf2)
    have hzlt : z < g2.objs.size := Heap.lt_size hzz
    show wpAny _ _ (Builtin.SmallTypes.ownedTupleHandOut (.ref z) (.ref g2.objs.size) >>= _) _ _ ⟨g2.push { cls := .type "tuple", data := .seq #[x1, x2] }, g, d, tk2, os⟩
    refine wpAny_bind ?_
    unfold Builtin.SmallTypes.ownedTupleHandOut
    have hz₆ : IsZipF (g2.push { cls := .type "tuple", data := .seq #[x1, x2] }) z TI TO .ellipsis f := Heap.get?_push_of_some _ hzz
    refine wpAny_bind (wpAny_setField_rec hz₆ (by simp) fun h₇ hz₇ hs₇ => ?_)
    replace hz₇ : IsZipF h₇ z TI TO (rawInt g2.objs.size) f := hz₇
    refine wpAny_setField_rec hz₇ (by simp) fun h₈ hz₈ hs₈ => ?_
    replace hz₈ : IsZipF h₈ z TI TO (rawInt g2.objs.size) (.bool false) := hz₈
    replace hs₇ : Heap.SameBut z (g2.push { cls := .type "tuple", data := .seq #[x1, x2] }) h₇ := hs₇
    replace hs₈ : Heap.SameBut z h₇ h₈ := hs₈
    have up : ∀ c o, c ≠ z → g2.get? c = some o → h₈.get? c = some o := fun c o c1 e => hs₈.extBut _ _ c1 (hs₇.extBut _ _ c1 (Heap.get?_push_of_some _ e))
    have hT₈ : IsTupOf2 h₈ g2.objs.size x1 x2 := hs₈.extBut _ _ (Nat.ne_of_gt hzlt) (hs₇.extBut _ _ (Nat.ne_of_gt hzlt) (Heap.get?_push_size _ rfl))
    have hz8 : h₈.objs.size = g2.objs.size + 1 := by rw [hs₈.1, hs₇.1, Heap.size_push]
    rw [hsz] at hz₈ hT₈ hz8
    refine wpAny_pure ⟨_, rfl, ?_⟩
    show Q (.ref g2.objs.size) ⟨h₈, g, d, tk2, os⟩
    rw [hsz]
    exact hQ x1 x2 h₈ tk2 hx1 hx2 ⟨_, false, .inr ⟨_, rfl⟩, hz₈⟩ ⟨_, _, up _ _ S.TOz hT2⟩ (D1.frame _ _ _ hj1 fun b hb o e => up b o (fun q => S.zf1 (q ▸ hb)) e) (D2.frame _ _ _ hj2 fun b hb o e => up b o (fun q => S.zf2 (q ▸ hb)) e) hT₈ hz8 fun c o cz cT c1 c2 e => up c o cz (hkk c o cz cT c1 c2 e)
  · replace hs₁ : Heap.SameBut z hp h₁ := hs₁
    simp only [Bool.false_eq_true, if_false]
    refine wpAny_bind ?_
    rw [← Array.forIn_toList]
    simp only [List.forIn_cons, List.forIn_nil]
    refine wpAny_bind (wpAny_bind (wpAny_holding ?_))
    show wpAny _ _ (Builtin.SmallTypes.nextOf (.ref i1) >>= _) _ _ ⟨h₁, g, d, tk0, os⟩
    refine wpAny_bind (D1.item i _ _ _ hlt1 (D1.over st1 hs₁ S.zf1) fun x1 h₂ tk1 hx1 sn1 hp1 => wpAny_pure ?_)
    replace hp1 : Heap.SameBut i1 h₁ h₂ := hp1
    refine wpAny_pure ?_
    refine wpAny_bind (wpAny_bind (wpAny_holding ?_))
    show wpAny _ _ (Builtin.SmallTypes.nextOf (.ref i2) >>= _) _ _ ⟨h₂, g, d, tk1, os⟩
    refine wpAny_bind (D2.item i _ _ _ hlt2 (D2.over (D2.over st2 hs₁ S.zf2) hp1 S.sep1_2) fun x2 h₃ tk2 hx2 sn2 hp2 => wpAny_pure ?_)
    replace hp2 : Heap.SameBut i2 h₂ h₃ := hp2
    refine wpAny_pure (wpAny_pure ?_)
    show wpAny _ _ (newTuple [x1, x2] >>= _) _ _ _
    refine wpAny_bind (wpAny_newTuple ?_)
    have hsz : h₃.objs.size = hp.objs.size := by rw [hp2.1, hp1.1, hs₁.1]
    have hz₃ : ZipAny h₃ z TI TO := by
      obtain ⟨v, f, hv, hz⟩ := hz₁
      exact ⟨v, f, hv, hp2.extBut _ _ S.zi2 (hp1.extBut _ _ S.zi1 hz)⟩
    have hk : ∀ c o, c ≠ z → c ≠ i1 → c ≠ i2 → hp.get? c = some o → h₃.get? c = some o := fun c o c1 c2 c3 e => hp2.extBut _ _ c3 (hp1.extBut _ _ c2 (hs₁.extBut _ _ c1 e))
    have hj1 : St1 (i + 1) h₃ := D1.over sn1 hp2 S.sep2_1
    refine wpAny_pure ⟨_, rfl, ?_⟩
    show Q (.ref h₃.objs.size) _
    have hp : IsTupOf2 (h₃.push { cls := .type "tuple", data := .seq #[x1, x2] }) h₃.objs.size x1 x2 := Heap.get?_push_size _ rfl
    have hz4 : (h₃.push { cls := .type "tuple", data := .seq #[x1, x2] }).objs.size = h₃.objs.size + 1 := Heap.size_push ..
    rw [hsz] at hp hz4 ⊢
    refine hQ x1 x2 _ tk2 hx1 hx2 ?_ ⟨_, _, Heap.get?_push_of_some _ (hk TO _ S.TOz S.Ti1 S.Ti2 hTO)⟩ (D1.frame _ _ _ hj1 fun b hb o e => Heap.get?_push_of_some _ e) (D2.frame _ _ _ sn2 fun b hb o e => Heap.get?_push_of_some _ e) hp hz4 fun c o c1 c2 c3 c4 e => Heap.get?_push_of_some _ (hk c o c1 c3 c4 e)
    obtain ⟨v, f, hv, hz⟩ := hz₃
    exact ⟨v, f, hv, Heap.get?_push_of_some _ hz⟩
theorem zipAny_next_end {Q : Fin → Shared → Prop} (S : ZipSep2 z TI TO i1 i2 fp1 fp2) (D1 : Draws prog w A i1 fp1 n1 P1 St1) (D2 : Draws prog w A i2 fp2 n2 P2 St2)
    (hz : ZipAny s.heap z TI TO) (hTI : IsTupOf2 s.heap TI (.ref i1) (.ref i2)) (hTO : IsTupOf2 s.heap TO a1 a2) (st1 : St1 i s.heap) (st2 : St2 i s.heap) (hle1 : i ≤ n1) (hle2 : i ≤ n2) (hend : i = n1 ∨ i = n2)
    (hE : ∀ h' tk e, (∀ c o, c ≠ z → c ≠ TO → c ≠ i1 → c ≠ i2 → s.heap.get? c = some o → h'.get? c = some o) → (∃ o, h'.get? e = some o ∧ o.cls = .type "StopIteration") → E (.ref e) { s with heap := h', toks := tk }) :
    wpAny (model prog w) A (Builtin.«zip.__next__» ⟨[.ref z], []⟩) Q E s := by
  obtain ⟨hp, g, d, tk0, os⟩ := s
  obtain ⟨w0, fl, hv0, hzz0⟩ := id hz
  show wpAny _ _ (field (.ref z) 2 >>= _) _ _ _
  refine wpAny_bind (wpAny_field hzz0 rfl (x := .bool false) rfl ?_)
  show wpAny _ _ (field (.ref z) 3 >>= _) _ _ _
  refine wpAny_bind (wpAny_field hzz0 rfl (x := .ref TI) rfl ?_)
  refine wpAny_bind (wpAny_seqItems hTI rfl ?_)
  show wpAny _ _ (Builtin.SmallTypes.ownedTupleIsFree (.ref z) >>= _) _ _ _
  refine wpAny_bind (wpAny_tupleAny hz (fun v0 f hz => ?_) fun h₁ hz₁ hs₁ => ?_)
  · simp only [if_true]
    refine wpAny_bind (wpAny_rule ?_)
    refine wpAny_bind (wpAny_field hz rfl (x := .ref TO) rfl ?_)
    refine wpAny_bind (wpAny_setField_rec hz (by simp) fun g0 hz0 hs0 => ?_)
    replace hz0 : IsZipF g0 z TI TO .ellipsis f := hz0
    replace hs0 : Heap.SameBut z hp g0 := hs0
    refine wpAny_bind ?_
    simp only [List.zipIdx_cons, List.zipIdx_nil, List.forIn_cons, List.forIn_nil]
    refine wpAny_bind (wpAny_bind (wpAny_onRaise ?_))
    show wpAny _ _ (Builtin.SmallTypes.nextOf (.ref i1) >>= _) _ _ ⟨g0, g, d, tk0, os⟩
    by_cases hlt1 : i < n1
    · refine wpAny_bind (D1.item i _ _ _ hlt1 (D1.over st1 hs0 S.zf1) fun x1 p1 tk1 hx1 sn1 hp1 => wpAny_pure ?_)
      replace hp1 : Heap.SameBut i1 g0 p1 := hp1
      have hU1 : IsTupOf2 p1 TO a1 a2 := hp1.extBut _ _ S.Ti1 (hs0.extBut _ _ S.TOz hTO)
      refine wpAny_bind (wpAny_seqItems (s := ⟨p1, g, d, tk1, os⟩) hU1 rfl ?_)
      refine wpAny_bind (updateSeq_IsTupOf2 (s := ⟨p1, g, d, tk1, os⟩) hU1 fun g1 hT1 hs1 => ?_)
      replace hT1 : IsTupOf2 g1 TO x1 a2 := hT1
      replace hs1 : Heap.SameBut TO p1 g1 := hs1
      refine wpAny_bind (wpAny_letGo (wpAny_pure ?_))
      have hi2 : i = n2 := by omega
      refine wpAny_bind (wpAny_bind (wpAny_onRaise ?_))
      show wpAny _ _ (Builtin.SmallTypes.nextOf (.ref i2) >>= _) _ _ ⟨g1, g, d, tk1, os⟩
      refine wpAny_bind (D2.done ⟨g1, g, d, tk1, os⟩ _ _ (by rw [← hi2]; exact (D2.over (D2.over (D2.over st2 hs0 S.zf2) hp1 S.sep1_2) hs1 S.Tf2)) fun q e hq he => ?_)
      replace hq : Heap.ExtBut i2 g1 q := hq
      obtain ⟨oe, hoe, hce⟩ := he
      replace hoe : q.get? e = some oe := hoe
      have hzq : IsZipF q z TI TO .ellipsis f := hq _ _ S.zi2 (hs1.extBut _ _ S.TOz.symm (hp1.extBut _ _ S.zi1 hz0))
      have hez : e ≠ z := fun x => by subst x; rw [hzq] at hoe; cases hoe; simp at hce
      refine wpAny_setField_rec (s := ⟨q, g, d, tk1, os⟩) hzq (by simp) fun q' _ hq' => ?_
      replace hq' : Heap.SameBut z q q' := hq'
      exact hE q' tk1 e (fun c o cz cT c1 c2 x => hq'.extBut _ _ cz (hq _ _ c2 (hs1.extBut _ _ cT (hp1.extBut _ _ c1 (hs0.extBut _ _ cz x))))) ⟨oe, hq'.extBut _ _ hez hoe, hce⟩
    · have hi1 : i = n1 := by omega
      refine wpAny_bind (D1.done ⟨g0, g, d, tk0, os⟩ _ _ (by rw [← hi1]; exact (D1.over st1 hs0 S.zf1)) fun q e hq he => ?_)
      replace hq : Heap.ExtBut i1 g0 q := hq
      obtain ⟨oe, hoe, hce⟩ := he
      replace hoe : q.get? e = some oe := hoe
      have hzq : IsZipF q z TI TO .ellipsis f := hq _ _ S.zi1 hz0
      have hez : e ≠ z := fun x => by subst x; rw [hzq] at hoe; cases hoe; simp at hce
      refine wpAny_setField_rec (s := ⟨q, g, d, tk0, os⟩) hzq (by simp) fun q' _ hq' => ?_
      replace hq' : Heap.SameBut z q q' := hq'
      exact hE q' tk0 e (fun c o cz cT c1 c2 x => hq'.extBut _ _ cz (hq _ _ c1 (hs0.extBut _ _ cz x))) ⟨oe, hq'.extBut _ _ hez hoe, hce⟩
  · replace hs₁ : Heap.SameBut z hp h₁ := hs₁
    simp only [Bool.false_eq_true, if_false]
    refine wpAny_bind ?_
    rw [← Array.forIn_toList]
    simp only [List.forIn_cons, List.forIn_nil]
    refine wpAny_bind (wpAny_bind (wpAny_holding ?_))
    show wpAny _ _ (Builtin.SmallTypes.nextOf (.ref i1) >>= _) _ _ ⟨h₁, g, d, tk0, os⟩
    by_cases hlt1 : i < n1
    · have hi2 : i = n2 := by omega
      refine wpAny_bind (D1.item i _ _ _ hlt1 (D1.over st1 hs₁ S.zf1) fun x1 h₂ tk1 hx1 sn1 hp1 => wpAny_pure ?_)
      replace hp1 : Heap.SameBut i1 h₁ h₂ := hp1
      refine wpAny_pure ?_
      refine wpAny_bind (wpAny_bind (wpAny_holding ?_))
      show wpAny _ _ (Builtin.SmallTypes.nextOf (.ref i2) >>= _) _ _ ⟨h₂, g, d, tk1, os⟩
      refine wpAny_bind (D2.done ⟨h₂, g, d, tk1, os⟩ _ _ (by rw [← hi2]; exact D2.over (D2.over st2 hs₁ S.zf2) hp1 S.sep1_2) fun q e hq he => ?_)
      replace hq : Heap.ExtBut i2 h₂ q := hq
      exact hE q tk1 e (fun c o cz cT c1 c2 x => hq _ _ c2 (hp1.extBut _ _ c1 (hs₁.extBut _ _ cz x))) he
    · have hi1 : i = n1 := by omega
      refine wpAny_bind (D1.done ⟨h₁, g, d, tk0, os⟩ _ _ (by rw [← hi1]; exact D1.over st1 hs₁ S.zf1) fun q e hq he => ?_)
      replace hq : Heap.ExtBut i1 h₁ q := hq
      exact hE q tk0 e (fun c o cz cT c1 c2 x => hq _ _ c1 (hs₁.extBut _ _ cz x)) he
/-- enumerate over an iterator whose next makes new cells -/
theorem enumAny_next_item {e it : Addr} {c : Int} {old : Value} {R : Value → Heap → Prop} {Q : Value → Shared → Prop} (he : IsEnum s.heap e it c old)
    (hN : wpAny (model prog w) A (Builtin.SmallTypes.nextOf (.ref it)) (fun x s1 => ∃ h1 tk, s1 = { s with heap := h1, toks := tk } ∧ IsEnum h1 e it c old ∧ R x h1) E s)
    (hQ : ∀ x h1 tk h', R x h1 → IsEnumOut h' e it (c + 1) x h1.objs.size → h'.get? h1.objs.size = some { cls := .type "tuple", data := .seq #[.int c tk, x] } → h'.objs.size = h1.objs.size + 1 → e < h1.objs.size →
      (∀ b o, b ≠ e → h1.get? b = some o → h'.get? b = some o) → Q (.ref h1.objs.size) { s with heap := h', toks := tk + 1 }) :
    wpAny (model prog w) A (Builtin.«enumerate.__next__» ⟨[.ref e], []⟩) (fun fin s' => ∃ v, fin = .done (.ret v) ∧ Q v s') E s := by
  obtain ⟨hp, g, d, tk₀, os⟩ := s
  show wpAny _ _ (field (.ref e) 2 >>= _) _ _ _
  refine wpAny_bind (wpAny_field he rfl (x := .ref it) rfl ?_)
  refine wpAny_bind (thn hN fun x s1 ⟨h₁, tk, es, he₁, hR⟩ => ?_)
  subst es
  show wpAny _ _ (field (.ref e) 3 >>= _) _ _ ⟨h₁, g, d, tk, os⟩
  refine wpAny_bind (wpAny_field he₁ rfl (x := rawInt c) rfl ?_)
  show wpAny _ _ (field (.ref e) 4 >>= _) _ _ ⟨h₁, g, d, tk, os⟩
  refine wpAny_bind (wpAny_field he₁ rfl (x := .none) rfl ?_)
  show wpAny _ _ (mkInt c >>= _) _ _ ⟨h₁, g, d, tk, os⟩
  refine wpAny_bind (wpAny_mkInt ?_)
  show wpAny _ _ (setField (.ref e) 3 (rawInt (c + 1)) >>= _) _ _ ⟨h₁, g, d, tk + 1, os⟩
  refine wpAny_bind (wpAny_setField_rec he₁ (by simp) fun h₂ he₂ hs₂ => ?_)
  replace hs₂ : Heap.SameBut e h₁ h₂ := hs₂
  replace he₂ : IsEnum h₂ e it (c + 1) old := he₂
  show wpAny _ _ (setField (.ref e) 4 .none >>= _) _ _ ⟨h₂, g, d, tk + 1, os⟩
  refine wpAny_bind (wpAny_setField_rec he₂ (by simp) fun h₃ he₃ hs₃ => ?_)
  replace hs₃ : Heap.SameBut e h₂ h₃ := hs₃
  replace he₃ : IsEnum h₃ e it (c + 1) old := he₃
  show wpAny _ _ (newTuple [.int c tk, x] >>= _) _ _ ⟨h₃, g, d, tk + 1, os⟩
  refine wpAny_bind (wpAny_newTuple ?_)
  have he₄ : IsEnum (h₃.push { cls := .type "tuple", data := .seq #[.int c tk, x] }) e it (c + 1) old := Heap.get?_push_of_some _ he₃
  generalize hh₄ : h₃.push { cls := .type "tuple", data := .seq #[.int c tk, x] } = h₄ at he₄
  have hsz : h₃.objs.size = h₁.objs.size := by rw [hs₃.1, hs₂.1]
  have hel : e < h₁.objs.size := Heap.lt_size he₁
  have ht₄ : h₄.get? h₁.objs.size = some { cls := .type "tuple", data := .seq #[.int c tk, x] } := by rw [← hh₄, ← hsz]; exact Heap.get?_push_size _ rfl
  have hz₄ : h₄.objs.size = h₁.objs.size + 1 := by rw [← hh₄, Heap.size_push, hsz]
  have hk₄ : ∀ b o, b ≠ e → h₁.get? b = some o → h₄.get? b = some o := fun b o hbe hb => by
    rw [← hh₄]; exact Heap.get?_push_of_some _ (hs₃.extBut b o hbe (hs₂.extBut b o hbe hb))
  show wpAny _ _ (Builtin.SmallTypes.ownedTupleIsFree (.ref e) >>= _) _ _ ⟨h₄, g, d, tk + 1, os⟩
  rw [hsz]
  clear hh₄ he₃ hs₃ he₂ hs₂ hsz h₃ h₂
  refine wpAny_bind ?_
  · unfold Builtin.SmallTypes.ownedTupleIsFree
    refine wpAny_bind (wpAny_field he₄ rfl (x := .none) rfl (wpAny_pure ?_))
    simp only [if_true]
    refine wpAny_bind (wpAny_rule ?_)
    refine wpAny_bind (wpAny_field he₄ rfl (x := old) rfl ?_)
    refine wpAny_bind (wpAny_setField_rec he₄ (by simp) fun h₅ he₅ hs₅ => ?_)
    replace hs₅ : Heap.SameBut e h₄ h₅ := hs₅
    replace he₅ : IsEnum h₅ e it (c + 1) x := he₅
    show wpAny _ _ (Builtin.SmallTypes.ownedTupleHandOut (.ref e) (.ref h₁.objs.size) >>= _) _ _ ⟨h₅, g, d, tk + 1, os⟩
    refine wpAny_bind ?_
    · unfold Builtin.SmallTypes.ownedTupleHandOut
      refine wpAny_bind (wpAny_setField_rec he₅ (by simp) fun h₆ he₆ hs₆ => ?_)
      replace hs₆ : Heap.SameBut e h₅ h₆ := hs₆
      replace he₆ : IsEnumOut h₆ e it (c + 1) x h₁.objs.size := he₆
      refine wpAny_setField_rec he₆ (by simp) fun h₇ he₇ hs₇ => ?_
      replace hs₇ : Heap.SameBut e h₆ h₇ := hs₇
      replace he₇ : IsEnumOut h₇ e it (c + 1) x h₁.objs.size := he₇
      refine wpAny_bind (wpAny_letGo (wpAny_pure ⟨_, rfl, hQ x h₁ tk h₇ hR he₇ ?_ ?_ hel ?_⟩))
      · exact hs₇.extBut _ _ (Nat.ne_of_gt hel) (hs₆.extBut _ _ (Nat.ne_of_gt hel) (hs₅.extBut _ _ (Nat.ne_of_gt hel) ht₄))
      · rw [hs₇.1, hs₆.1, hs₅.1, hz₄]
      · exact fun b o hbe hb => hs₇.extBut b o hbe (hs₆.extBut b o hbe (hs₅.extBut b o hbe (hk₄ b o hbe hb)))
end
end PF

namespace PF
open PySem PySem.Spec PyProof.Rows L2
open Sem (wp)
open AutoSeq1 (wpAny_loadPart')
theorem meets_enumerate_newZ (z TI TO : Addr) :
    Meets (Builtin.«enumerate.__new__» ⟨[.type "enumerate", .ref z], []⟩) (fun _ R s => IsZip s.heap z TI TO .none ∧
      R (.ok (.ret (.ref s.heap.objs.size))) { s with heap := s.heap.push { cls := .type "enumerate", data := .fields #[.none, .bool false, .ref z, rawInt 0, .none, .none] } }) :=
  .of_wp fun prog w A R s h => by
    obtain ⟨hp, g, d, tk, os⟩ := s; obtain ⟨hl, h⟩ := h
    have hsub := sub_enumerate
    have hL : IsZip (Shared.heap ⟨hp, g, d, tk, os⟩) z TI TO .none := hl
    wp_walk using wpAny_loadPart' hl
    refine wpAny_stack_any fun st => wpAny_pure ?_
    split
    · rename_i c _ _ _ _ _
      cases (c == Value.type "enumerate")
      · wp_walk using wpAny_loadPart' hl, wpAny_pyIter_zip hL
        exact ⟨_, rfl, h⟩
      · wp_walk using wpAny_loadPart' hl, wpAny_pyIter_zip hL
        exact ⟨_, rfl, h⟩
    · wp_walk using wpAny_loadPart' hl, wpAny_pyIter_zip hL
      exact ⟨_, rfl, h⟩
section
variable {prog : Program} {w : World} {A : Around} {E : Value → Shared → Prop} {s : Shared}
theorem call_enumerate_zip {z TI TO : Addr} {Q : Value → Shared → Prop} (hz : IsZip s.heap z TI TO .none)
    (h : ∀ h', IsEnum h' s.heap.objs.size z 0 .none → h'.objs.size = s.heap.objs.size + 1 → (∀ b o, s.heap.get? b = some o → h'.get? b = some o) → Q (.ref s.heap.objs.size) { s with heap := h' }) :
    wpAny (model prog w) A (call (.type "enumerate") [.ref z]) Q E s := by
  refine callType_new F.called_enumerate (by decide) (F.typeCall_enumerate_1 _) (F.newCall_enumerate_1 _) (fun obj => F.args_object_init_2 obj _) F.entry_enumerate_new
    (meets_enumerate_newZ z TI TO) ⟨hz, ?_⟩
  have he : IsEnum (s.heap.push { cls := .type "enumerate", data := .fields #[.none, .bool false, .ref z, rawInt 0, .none, .none] }) s.heap.objs.size z 0 .none := Heap.get?_push_size _ rfl
  show _ ∧ _
  exact ⟨⟨_, he, rfl⟩, h _ he (Heap.size_push ..) fun b o x => Heap.get?_push_of_some _ x⟩
end
end PF

namespace PF
open PySem PySem.Spec PyProof.Rows L2
section
variable {prog : Program} {w : World} {A : Around} {E : Value → Shared → Prop} {s : Shared} {z TI TO i1 i2 : Addr} {fp1 fp2 : List Addr} {n1 n2 i : Nat} {P1 P2 : Nat → Value → Prop} {St1 St2 : Nat → Heap → Prop} {a1 a2 : Value}
theorem nextOf_zipAny_item {Q : Value → Shared → Prop} (S : ZipSep2 z TI TO i1 i2 fp1 fp2) (D1 : Draws prog w A.in1 i1 fp1 n1 P1 St1) (D2 : Draws prog w A.in1 i2 fp2 n2 P2 St2)
    (hz : ZipAny s.heap z TI TO) (hTI : IsTupOf2 s.heap TI (.ref i1) (.ref i2)) (hTO : IsTupOf2 s.heap TO a1 a2) (st1 : St1 i s.heap) (st2 : St2 i s.heap) (hlt1 : i < n1) (hlt2 : i < n2)
    (hQ : ∀ x1 x2 h' tk, P1 i x1 → P2 i x2 → ZipAny h' z TI TO → (∃ b1 b2, IsTupOf2 h' TO b1 b2) → St1 (i + 1) h' → St2 (i + 1) h' → IsTupOf2 h' s.heap.objs.size x1 x2 → h'.objs.size = s.heap.objs.size + 1 →
      (∀ c o, c ≠ z → c ≠ TO → c ≠ i1 → c ≠ i2 → s.heap.get? c = some o → h'.get? c = some o) → Q (.ref s.heap.objs.size) { s with heap := h', toks := tk }) :
    wpAny (model prog w) A (Builtin.SmallTypes.nextOf (.ref z)) Q E s := by
  have hT : s.TypeIs (.ref z) "zip" := by
    obtain ⟨_, _, _, hz⟩ := hz
    exact ⟨_, hz, rfl⟩
  unfold Builtin.SmallTypes.nextOf
  exact wpAny_bind (wpAny_callSpecial?_slot (name := Str.ofString "__next__") hT F.slot_zip_next
    (wpAny_call_entry F.slot_zip_next hT F.entry_zip_next
      (zipAny_next_item S D1 D2 hz hTI hTO st1 st2 hlt1 hlt2 fun x1 x2 h' tk y1 y2 b1 b2 d1 d2 b5 b6 b7 => wpAny_pure (hQ x1 x2 h' tk y1 y2 b1 b2 d1 d2 b5 b6 b7)) (F.args_zip_next_1 _)))
theorem nextOf_zipAny_end {Q : Value → Shared → Prop} (S : ZipSep2 z TI TO i1 i2 fp1 fp2) (D1 : Draws prog w A.in1 i1 fp1 n1 P1 St1) (D2 : Draws prog w A.in1 i2 fp2 n2 P2 St2)
    (hz : ZipAny s.heap z TI TO) (hTI : IsTupOf2 s.heap TI (.ref i1) (.ref i2)) (hTO : IsTupOf2 s.heap TO a1 a2) (st1 : St1 i s.heap) (st2 : St2 i s.heap) (hle1 : i ≤ n1) (hle2 : i ≤ n2) (hend : i = n1 ∨ i = n2)
    (hE : ∀ h' tk e, (∀ c o, c ≠ z → c ≠ TO → c ≠ i1 → c ≠ i2 → s.heap.get? c = some o → h'.get? c = some o) → (∃ o, h'.get? e = some o ∧ o.cls = .type "StopIteration") → E (.ref e) { s with heap := h', toks := tk }) :
    wpAny (model prog w) A (Builtin.SmallTypes.nextOf (.ref z)) Q E s := by
  have hT : s.TypeIs (.ref z) "zip" := by
    obtain ⟨_, _, _, hz⟩ := hz
    exact ⟨_, hz, rfl⟩
  unfold Builtin.SmallTypes.nextOf
  exact wpAny_bind (wpAny_callSpecial?_slot (name := Str.ofString "__next__") hT F.slot_zip_next
    (wpAny_call_entry F.slot_zip_next hT F.entry_zip_next (zipAny_next_end S D1 D2 hz hTI hTO st1 st2 hle1 hle2 hend hE) (F.args_zip_next_1 _)))
theorem pyNext_enumAny_item {e it : Addr} {c : Int} {old : Value} {R : Value → Heap → Prop} {Q : Option Value → Shared → Prop} (he : IsEnum s.heap e it c old)
    (hN : ∀ E, wpAny (model prog w) A.in1 (Builtin.SmallTypes.nextOf (.ref it)) (fun x s1 => ∃ h1 tk, s1 = { s with heap := h1, toks := tk } ∧ IsEnum h1 e it c old ∧ R x h1) E s)
    (hQ : ∀ x h1 tk h', R x h1 → IsEnumOut h' e it (c + 1) x h1.objs.size → h'.get? h1.objs.size = some { cls := .type "tuple", data := .seq #[.int c tk, x] } → h'.objs.size = h1.objs.size + 1 → e < h1.objs.size →
      (∀ b o, b ≠ e → h1.get? b = some o → h'.get? b = some o) → Q (some (.ref h1.objs.size)) { s with heap := h', toks := tk + 1 }) :
    wpAny (model prog w) A (pyNext (.ref e)) Q E s := by
  have hT : s.TypeIs (.ref e) "enumerate" := ⟨_, he, rfl⟩
  unfold pyNext
  exact wpAny_bind (wpAny_attempt (wpAny_callSpecial?_slot (name := Str.ofString "__next__") hT F.slot_enumerate_next
    (wpAny_call_entry F.slot_enumerate_next hT F.entry_enumerate_next
      (enumAny_next_item he (hN _) fun x h1 tk h' a b c d k q => wpAny_pure (hQ x h1 tk h' a b c d k q)) (F.args_enumerate_next_1 _))))
theorem pyNext_enumAny_end {e it : Addr} {c : Int} {old : Value} {Q : Option Value → Shared → Prop} (he : IsEnum s.heap e it c old)
    (hN : ∀ (Q' : Value → Shared → Prop) (E' : Value → Shared → Prop), (∀ h' tk e, (∃ o, h'.get? e = some o ∧ o.cls = .type "StopIteration") → Q none { s with heap := h', toks := tk } → E' (.ref e) { s with heap := h', toks := tk }) → wpAny (model prog w) A.in1 (Builtin.SmallTypes.nextOf (.ref it)) Q' E' s) :
    wpAny (model prog w) A (pyNext (.ref e)) Q E s := by
  have hT : s.TypeIs (.ref e) "enumerate" := ⟨_, he, rfl⟩
  unfold pyNext
  refine wpAny_bind (wpAny_attempt (wpAny_callSpecial?_slot (name := Str.ofString "__next__") hT F.slot_enumerate_next
    (wpAny_call_entry F.slot_enumerate_next hT F.entry_enumerate_next ?_ (F.args_enumerate_next_1 _))))
  show wpAny _ _ (field (.ref e) 2 >>= _) _ _ _
  refine wpAny_bind (wpAny_field he rfl (x := .ref it) rfl ?_)
  refine wpAny_bind (hN _ _ fun h' tk x hx hq => ?_)
  obtain ⟨o, ho, hc⟩ := hx
  refine wpAny_bind (wpAny_isInstance (T := "StopIteration") (b := true) ⟨o, ho, hc⟩ isSubtype_stop ?_)
  exact wpAny_pure hq
end
/-- enumerate over zip over two sources, N turns -/
def ItZ (K : PySem.W.Frag) (q1 q2 : Src) (N : Nat) : It :=
  ⟨fun i H => i < N ∧ ∃ xs ys, srcV K H q1 xs ∧ srcV K H q2 ys ∧ N = min xs.length ys.length,
    fun i H v H' => ∃ T1 T2 x y, v = .ref T2 ∧ H T1 = none ∧ upd H T1 (.tup [x, y]) T2 = none ∧ H' = upd (upd H T1 (.tup [x, y])) T2 (.tup [.int (i : Nat), .ref T1]) ∧ (∀ xs, srcV K H q1 xs → xs[i]? = some x) ∧ ∀ ys, srcV K H q2 ys → ys[i]? = some y,
    fun i H => N ≤ i ∧ ∃ xs ys, srcV K H q1 xs ∧ srcV K H q2 ys ∧ N = min xs.length ys.length⟩
theorem ZipAny.keep {h h' : Heap} {z TI TO : Addr} (k : ZipAny h z TI TO) (hk : ∀ o, h.get? z = some o → h'.get? z = some o) : ZipAny h' z TI TO := by
  obtain ⟨v, f, hv, hz⟩ := k
  exact ⟨v, f, hv, hk _ hz⟩
theorem turn_enumZ {P : Program} {w : World} {K : PySem.W.Frag} {elts : List Expr} {kk : Nat} {tpos : Pos} {q1 q2 : Src} {e z TI TO i1 i2 : Addr} {N : Nat} (S : ZipSep2 z TI TO i1 i2 (i1 :: srcA q1) (i2 :: srcA q2)) (n1 : ∀ b ∈ srcA q1, b ≠ i1) (n2 : ∀ b ∈ srcA q2, b ≠ i2) (ne : e ≠ z ∧ e ≠ TO ∧ e ≠ i1 ∧ e ≠ i2 ∧ e ≠ TI) (ns1 : e ∉ srcA q1) (ns2 : e ∉ srcA q2) :
    Turn P w K (.Tuple elts kk tpos) (ItZ K q1 q2 N) [e, z, TI, TO, i1, i2] e (fun i h => i ≤ N ∧ (∃ old, IsEnum h e z (i : Nat) old) ∧ ZipAny h z TI TO ∧ IsTupOf2 h TI (.ref i1) (.ref i2) ∧ (∃ x y, IsTupOf2 h TO x y) ∧ srcSt i1 i h q1 ∧ srcSt i2 i h q2) where
  mem := by simp
  obj := fun i h st c hc => by
    obtain ⟨_, ⟨old, he⟩, ⟨v, f, hv, hz⟩, hTI, ⟨x, y, hTO⟩, h1, h2⟩ := st
    have e' : c = e ∨ c = z ∨ c = TI ∨ c = TO ∨ c = i1 ∨ c = i2 := by simpa using hc
    rcases e' with q | q | q | q | q | q
    · rw [q]; exact ⟨_, he, fun v q => nomatch q⟩
    · rw [q]; exact ⟨_, hz, fun v q => nomatch q⟩
    · rw [q]; exact ⟨_, hTI, fun v q => nomatch q⟩
    · rw [q]; exact ⟨_, hTO, fun v q => nomatch q⟩
    · rw [q]; exact srcSt_obj h1
    · rw [q]; exact srcSt_obj h2
  keep := fun i h h' st k => by
    obtain ⟨hN, ⟨old, he⟩, hz, hTI, ⟨x, y, hTO⟩, h1, h2⟩ := st
    exact ⟨hN, ⟨old, k e (by simp) _ he⟩, hz.keep fun o q => k z (by simp) o q, k TI (by simp) _ hTI, ⟨x, y, k TO (by simp) _ hTO⟩, srcSt_keep (fun o q => k i1 (by simp) o q) h1, srcSt_keep (fun o q => k i2 (by simp) o q) h2⟩
  item := by
    intro X hP hw hK hc i pins s σ H E I hf st hg
    subst hP hw hK
    obtain ⟨hN, ⟨old, he⟩, hz, hTI, ⟨x0, y0, hTO⟩, h1, h2⟩ := st
    obtain ⟨hlt, xs, ys, hx, hy, hn⟩ := hg
    obtain ⟨P1, St1, D1, a1, b1, c1⟩ := src_draws (A := X.A.in1.in1) (I.ok.hd hc) I n1 hx
    obtain ⟨P2, St2, D2, a2, b2, c2⟩ := src_draws (A := X.A.in1.in1) (I.ok.hd hc) I n2 hy
    refine pyNext_enumAny_item (c := (i : Nat)) (old := old) (R := fun v h1 => v = .ref s.heap.objs.size ∧ h1.objs.size = s.heap.objs.size + 1 ∧ (∃ x1 x2, P1 i x1 ∧ P2 i x2 ∧ IsTupOf2 h1 s.heap.objs.size x1 x2) ∧ ZipAny h1 z TI TO ∧ (∃ b1 b2, IsTupOf2 h1 TO b1 b2) ∧ srcSt i1 (i + 1) h1 q1 ∧ srcSt i2 (i + 1) h1 q2 ∧
      (∀ c o, c ≠ z → c ≠ TO → c ≠ i1 → c ≠ i2 → s.heap.get? c = some o → h1.get? c = some o)) he (fun E => ?_) fun v h1' tk h' hR hOut hT2 hsz hel hk => ?_
    · refine nextOf_zipAny_item S D1 D2 hz hTI hTO (a1 i h1) (a2 i h2) (by omega) (by omega) fun x1 x2 h' tk p1 p2 z1 z2 s1 s2 t1 t2 k => ?_
      exact ⟨h', tk, rfl, k e _ ne.1 ne.2.1 ne.2.2.1 ne.2.2.2.1 he, rfl, t2, ⟨x1, x2, p1, p2, t1⟩, z1, z2, b1 _ _ s1, b2 _ _ s2, k⟩
    · obtain ⟨rfl, sz1, ⟨u1, u2, p1, p2, hT1⟩, z1, ⟨o1, o2, zTO⟩, t1, t2, k1⟩ := hR
      refine ⟨.ref h1'.objs.size, rfl, wpAny_letOwnedTupleGo_enum hOut fun h'' he'' hs'' => ?_⟩
      replace hs'' : Heap.SameBut e h' h'' := hs''
      obtain ⟨x, gx, rx⟩ := c1 i u1 p1
      obtain ⟨y, gy, ry⟩ := c2 i u2 p2
      have kk2 : ∀ b o, b ≠ e → h1'.get? b = some o → h''.get? b = some o := fun b o hb q => hs''.extBut _ _ hb (hk b o hb q)
      -- the inner tuple
      have new1 : ObjOk X.prog X.w (upd H s.heap.objs.size (.tup [x, y])) h1' s.heap.objs.size (.tup [x, y]) := ⟨by show 2 ≤ sizeLine; decide, [u1, u2], .cons rx (.cons ry .nil), ⟨_, hT1, rfl, _, rfl⟩⟩
      have I1 : Inv X pins σ (upd H s.heap.objs.size (.tup [x, y])) { s with heap := h1', toks := tk } := I.turnedNew (t' := tk) (fun b o hb q => k1 b o (fun m => hb (by simp [m])) (fun m => hb (by simp [m])) (fun m => hb (by simp [m])) (fun m => hb (by simp [m])) q) hf (Nat.le_refl _) new1
      have hlt2 : ∀ c ∈ [e, z, TI, TO, i1, i2], c < s.heap.objs.size := fun c hcm => by
        have e' : c = e ∨ c = z ∨ c = TI ∨ c = TO ∨ c = i1 ∨ c = i2 := by simpa using hcm
        rcases e' with q | q | q | q | q | q
        · rw [q]; exact Heap.lt_size he
        · rw [q]; obtain ⟨_, _, _, hz⟩ := hz; exact Heap.lt_size hz
        · rw [q]; exact Heap.lt_size hTI
        · rw [q]; exact Heap.lt_size hTO
        · rw [q]; obtain ⟨_, e1, _⟩ := srcSt_obj h1; exact Heap.lt_size e1
        · rw [q]; obtain ⟨_, e2, _⟩ := srcSt_obj h2; exact Heap.lt_size e2
      have hf1 : ∀ b ∈ [e, z, TI, TO, i1, i2], FpOk X pins (upd H s.heap.objs.size (.tup [x, y])) b := fun b hb => by
        obtain ⟨f1, f2⟩ := hf b hb
        exact ⟨by rw [upd_ne (Nat.ne_of_lt (hlt2 b hb))]; exact f1, f2⟩
      have hne2 : s.heap.objs.size ≠ e := Nat.ne_of_gt (hlt2 e (by simp))
      have hT2' : h''.get? h1'.objs.size = some { cls := .type "tuple", data := .seq #[.int (i : Nat) tk, .ref s.heap.objs.size] } := hs''.extBut _ _ (Nat.ne_of_gt hel) hT2
      have new2 : ObjOk X.prog X.w (upd (upd H s.heap.objs.size (.tup [x, y])) h1'.objs.size (.tup [.int (i : Nat), .ref s.heap.objs.size])) h'' h1'.objs.size (.tup [.int (i : Nat), .ref s.heap.objs.size]) :=
        ⟨by show 2 ≤ sizeLine; decide, [.int (i : Nat) tk, .ref s.heap.objs.size], .cons ⟨tk, rfl⟩ (.cons rfl .nil), ⟨_, hT2', rfl, _, rfl⟩⟩
      have I2 : Inv X pins σ (upd (upd H s.heap.objs.size (.tup [x, y])) h1'.objs.size (.tup [.int (i : Nat), .ref s.heap.objs.size])) { s with heap := h'', toks := tk + 1 } := I1.turnedNew (t' := tk + 1) (ch := [e, z, TI, TO, i1, i2]) (fun b o hb q => kk2 b o (fun m => hb (by simp [m])) q) hf1 (Nat.le_refl _) new2
      refine ⟨.ref h1'.objs.size, _, I2, rfl, ⟨s.heap.objs.size, h1'.objs.size, x, y, rfl, I.hok.fresh (Nat.le_refl _), I1.hok.fresh (Nat.le_refl _), rfl, fun l hl => by rw [src_inj I hl hx]; exact gx, fun l hl => by rw [src_inj I hl hy]; exact gy⟩,
        ⟨hlt, ⟨_, he''⟩, z1.keep fun o q => kk2 z o ne.1.symm q, kk2 _ _ ne.2.2.2.2.symm (k1 TI _ S.TIz S.TITO S.TIi1 S.TIi2 hTI), ⟨_, _, kk2 _ _ ne.2.1.symm zTO⟩, srcSt_keep (fun o q => kk2 _ o ne.2.2.1.symm q) t1, srcSt_keep (fun o q => kk2 _ o ne.2.2.2.1.symm q) t2⟩, fun c hcm => ?_⟩
      have hc2 := hlt2 c hcm
      rw [upd_ne (Nat.ne_of_lt (by rw [sz1]; exact Nat.lt_succ_of_lt hc2)), upd_ne (Nat.ne_of_lt hc2)]
      exact (hf c hcm).1
  done := by
    intro X hP hw hK hc i pins s σ H E I hf st hg
    subst hP hw hK
    obtain ⟨hN, ⟨old, he⟩, hz, hTI, ⟨x0, y0, hTO⟩, h1, h2⟩ := st
    obtain ⟨hge, xs, ys, hx, hy, hn⟩ := hg
    obtain ⟨P1, St1, D1, a1, b1, c1⟩ := src_draws (A := X.A.in1.in1) (I.ok.hd hc) I n1 hx
    obtain ⟨P2, St2, D2, a2, b2, c2⟩ := src_draws (A := X.A.in1.in1) (I.ok.hd hc) I n2 hy
    refine pyNext_enumAny_end he fun Q' E' hE => ?_
    refine nextOf_zipAny_end S D1 D2 hz hTI hTO (a1 i h1) (a2 i h2) (by omega) (by omega) (by omega) fun h' tk ex hk hx => hE h' tk ex hx ⟨rfl, I.turnedL (t' := tk) (ch := [e, z, TI, TO, i1, i2]) (fun c o hb q => hk c o (fun m => hb (by simp [m])) (fun m => hb (by simp [m])) (fun m => hb (by simp [m])) (fun m => hb (by simp [m])) q) hf⟩
  self := fun A i s Q E st h => by
    obtain ⟨old, he⟩ := st.2.1
    exact wpAny_pyIter_enum he h
end PF

namespace PF
open PySem PySem.Spec PyProof.Rows L2
def iEnumZ (K : PySem.W.Frag) (ta : TA) : TI := fun σ H R => ta σ H fun vs H1 => ∃ a b xs ys q1 q2, vs = [.ref a, .ref b] ∧ (q1 = .l a ∨ q1 = .t a) ∧ (q2 = .l b ∨ q2 = .t b) ∧ srcV K H1 q1 xs ∧ srcV K H1 q2 ys ∧ R (ItZ K q1 q2 (min xs.length ys.length)) H1
theorem pi_enumZ {X : Cx} {e e2 : Expr} {ta : TA} {p p2 pos pos2 tpos : Pos} {elts : List Expr} {kk : Nat} (hge : Gl X "enumerate") (hme : X.mg "enumerate" = none) (hg : Gl X "zip") (hm : X.mg "zip" = none) (ha : PA X [e, e2] ta)
    (hs : starEach [e, e2] X.env = (false, eval e X.env) :: starEach [e2] X.env := by rfl) (hpl : (backTo pos2 (starEach [e2] X.env)).any (·.1) = false := by rfl)
    (hz : starEach [.Call (.Name "zip" p2) [e, e2] [] pos2] X.env = (false, eval (.Call (.Name "zip" p2) [e, e2] [] pos2) X.env) :: starEach [] X.env := by rfl) (hpl2 : (backTo pos (starEach [] X.env)).any (·.1) = false := by rfl) :
    PI X (.Tuple elts kk tpos) (.Call (.Name "enumerate" p) [.Call (.Name "zip" p2) [e, e2] [] pos2] [] pos) (iEnumZ X.K ta) := by
  refine ⟨fun pins s σ H R I h => ?_⟩
  refine Call_ (ld_blt I hge hme boot_enumerate (PyProof.Rows.callWith_type1 ?_ hz hpl2))
  refine PyProof.Rows.args_cons ?_ hz
  refine Call_ (ld_blt I hg hm PyProof.Rows.boot_zip (PyProof.Rows.callWith_type1 (thn (ha.run pos2 pins s σ H _ I h) fun us s1 ⟨vs, H1, I1, r1, q1⟩ => ?_) hs hpl))
  obtain ⟨a, b, xs, ys, qa, qb, ex, ea, eb, hx, hy, q⟩ := q1
  subst ex
  obtain ⟨o1, B1, b1, c1, d1, f1⟩ := src_begins I1 ea hx
  obtain ⟨o2, B2, b2, c2, d2, f2⟩ := src_begins I1 eb hy
  cases r1 with
  | cons r rr =>
    cases rr with
    | cons r' rr =>
      cases rr
      cases r
      cases r'
      refine zip_begins2 b1 b2 c1 c2 fun h' hz' hTI hTO e1 e2 hsz hk => PyProof.Rows.args_nil ?_
      have I2 : Inv X pins σ H1 { s1 with heap := h' } := I1.kept (t' := s1.toks) hk
      refine call_enumerate_zip hz' fun h'' he hsz2 hk2 => wpAny_pyIter_enum he ?_
      have I3 : Inv X pins σ H1 { s1 with heap := h'' } := I2.kept (t' := s1.toks) hk2
      have he5 : h'.objs.size = s1.heap.objs.size + 5 := hsz
      have hfp : ∀ c ∈ [h'.objs.size, s1.heap.objs.size + 4, s1.heap.objs.size + 2, s1.heap.objs.size + 3, s1.heap.objs.size, s1.heap.objs.size + 1], FpOk X pins H1 c := fun c hcm => by
        have hle : s1.heap.objs.size ≤ c := by
          have e' : c = h'.objs.size ∨ c = s1.heap.objs.size + 4 ∨ c = s1.heap.objs.size + 2 ∨ c = s1.heap.objs.size + 3 ∨ c = s1.heap.objs.size ∨ c = s1.heap.objs.size + 1 := by simpa using hcm
          rcases e' with z | z | z | z | z | z <;> rw [z]
          · rw [he5]; exact Nat.le_add_right _ _
          · exact Nat.le_add_right _ _
          · exact Nat.le_add_right _ _
          · exact Nat.le_add_right _ _
          · exact Nat.le_refl _
          · exact Nat.le_add_right _ _
        exact I1.fpOk hle (I1.hok.fresh hle)
      have apart : ∀ k : Nat, k < 5 → h'.objs.size ≠ s1.heap.objs.size + k := fun k hk => by rw [he5]; omega
      have old : ∀ c : Addr, c < s1.heap.objs.size → h'.objs.size ≠ c := fun c hc => by rw [he5]; exact Nat.ne_of_gt (Nat.lt_of_lt_of_le hc (Nat.le_add_right _ _))
      refine ⟨h'.objs.size, _, _, _, H1, rfl, I3, turn_enumZ (N := min xs.length ys.length) (zip_sep2 f1 f2) (fun b hb => Nat.ne_of_lt (f1 b hb)) (fun b hb => Nat.ne_of_lt (Nat.lt_succ_of_lt (f2 b hb)))
        ⟨apart 4 (by omega), apart 3 (by omega), apart 0 (by omega), apart 1 (by omega), apart 2 (by omega)⟩ (fun hm => old _ (f1 _ hm) rfl) (fun hm => old _ (f2 _ hm) rfl),
        ⟨Nat.zero_le _, ⟨_, he⟩, ⟨.none, false, .inl rfl, hk2 _ _ hz'⟩, hk2 _ _ hTI, ⟨_, _, hk2 _ _ hTO⟩, d1 _ _ (hk2 _ _ e1), d2 _ _ (hk2 _ _ e2)⟩, hfp, q⟩
/-! ### as data -/
def mEnumZ (ms : M (List D)) : M (List D) := mbind ms fun ds => mopt ((zipS ds).map enumL)
@[simp] theorem ev_mEnumZ (ms : M (List D)) (ρ : Sl) (p : Pst) : mEnumZ ms ρ p = mbind ms (fun ds => mopt ((zipS ds).map enumL)) ρ p := by cases p; rfl
theorem im_enumZ {m : M (List D)} (h : IM m) : IM (mEnumZ m) := im_bind h fun _ => im_opt _
theorem iter_enumZ {K : PySem.W.Frag} {F : Hp} {g : Nat} {pa : Option Addr} {q1 q2 : Src} {vs ws : List V} {ds es : List D} (h : SrcF F q1 vs) (r : Reps K F g pa vs ds) (h' : SrcF F q2 ws) (r' : Reps K F g pa ws es) : IterOk K F g pa (ItZ K q1 q2 (min vs.length ws.length)) (enumL (zipL ds es)) := by
  intro i F1 H1 pa1 p1 fz gs1
  have h1 : srcV K H1 q1 vs := h.v fun a o e => gs1.sub _ _ (fz.sub _ _ e)
  have h2 : srcV K H1 q2 ws := h'.v fun a o e => gs1.sub _ _ (fz.sub _ _ e)
  have hl : (enumL (zipL ds es)).length = min vs.length ws.length := by simp only [enumL, List.length_mapIdx, zipL, List.length_zipWith]; rw [r.1, r'.1]
  refine ⟨fun hi => ⟨by omega, vs, ws, h1, h2, rfl⟩, fun z hz => ?_⟩
  have hlt : i < (enumL (zipL ds es)).length := (List.getElem?_eq_some_iff.mp hz).1
  unfold enumL at hz
  rw [List.getElem?_mapIdx] at hz
  cases qz : (zipL ds es)[i]? with
  | none => rw [qz] at hz; cases hz
  | some zz =>
    rw [qz] at hz
    cases hz
    obtain ⟨d, e, q1, q2, rfl⟩ := zipL_get qz
    obtain ⟨v, hv, rv⟩ := (r.mono fz).get q1
    obtain ⟨w, hw, rw'⟩ := (r'.mono fz).get q2
    refine ⟨⟨by omega, vs, ws, h1, h2, rfl⟩, fun x H' ⟨T1, T2, y1, y2, e1, e2, e3, e4, hx, hy⟩ => ?_⟩
    subst e1 e4
    have t1 := hx vs h1
    rw [hv] at t1
    cases t1
    have t2 := hy ws h2
    rw [hw] at t2
    cases t2
    obtain ⟨F2, gr2, gs2, r2⟩ := zip_item gs1 e2 rv rw'
    obtain ⟨F3, gr3, gs3, r3⟩ := zip_item gs2 e3 (.int (i : Nat)) r2
    exact ⟨F3, gr2.trans gr3, gs3, r3⟩
section
variable {X : Cx} {Wx : WX} {a b : Expr} {ms : M (List D)} {p p2 pos pos2 : Pos}
theorem pmi_enumZ {elts : List Expr} {kk : Nat} {tpos : Pos} (hge : Gl X "enumerate") (hme : X.mg "enumerate" = none) (hg : Gl X "zip") (hm : X.mg "zip" = none) (ha : PMa X Wx [a, b] ms)
    (hs : starEach [a, b] X.env = (false, eval a X.env) :: starEach [b] X.env := by rfl) (hpl : (backTo pos2 (starEach [b] X.env)).any (·.1) = false := by rfl)
    (hz : starEach [.Call (.Name "zip" p2) [a, b] [] pos2] X.env = (false, eval (.Call (.Name "zip" p2) [a, b] [] pos2) X.env) :: starEach [] X.env := by rfl) (hpl2 : (backTo pos (starEach [] X.env)).any (·.1) = false := by rfl) :
    PMi X Wx (.Tuple elts kk tpos) (.Call (.Name "enumerate" p) [.Call (.Name "zip" p2) [a, b] [] pos2] [] pos) (mEnumZ ms) := ⟨(pi_enumZ hge hme hg hm ha.pa hs hpl hz hpl2).imp fun σ H R ⟨F, pa, p, ρ, gs, s, o⟩ => by
  refine TMa.of gs s (o.bind.mono fun ds p1 F1 H1 pa1 gr1 gs1 o1 s1 vs rs => ?_)
  obtain ⟨z, ez, o2⟩ := o1.opt
  unfold zipS at ez
  split at ez <;> first | (cases ez; done) | skip
  rename_i d e
  cases q : sqD d with
  | none => rw [q] at ez; cases ez
  | some xs =>
    cases q2 : sqD e with
    | none => rw [q, q2] at ez; cases ez
    | some ys =>
      rw [q, q2] at ez
      cases ez
      obtain ⟨v, w, rfl, r1, r2⟩ := reps2 rs
      obtain ⟨a, s1, vs, rfl, ea, f1, hz, ra⟩ := sq_src (H := H1) (p := p1) r1 q
      obtain ⟨b, s2, ws, rfl, eb, f2, hz', rb⟩ := sq_src (H := H1) (p := p1) r2 q2
      exact ⟨a, b, vs, ws, s1, s2, rfl, ea, eb, f1.v gs1.sub, f2.v gs1.sub, o2.ret gs1 _ (iter_enumZ f1 ra f2 rb) (by
        have := zipL_len xs ys
        simp only [enumL, List.length_mapIdx]
        exact Nat.le_trans this hz)⟩⟩
end
end PF

namespace PF
open PySem PySem.Spec PyProof.Rows L2
/-! ### not in, in a tuple of any data -/
def rNotInT (K : PySem.W.Frag) : R2 := fun x y H Q => ∃ d ds, Dp K H x d ∧ Dp K H y (.tuple ds) ∧ SeqAt.shaped d = true ∧ SeqAt.shaped (.tuple ds) = true ∧ Q (.bl (!ds.any fun z => PyData.eqv z d)) H
section
variable {X : Cx} {Wx : WX} {a b : Expr} {ma mb : M D} {pos : Pos}
theorem op_notInT (hu : X.A.units + 65 < cLine) : OpR X (compareOp .NotIn) (rNotInT X.K) := by
  intro pins s σ H x y v u Q I rx ry h
  obtain ⟨d, ds, hd, he, sd, se, q⟩ := h
  obtain ⟨as, r1⟩ := Dp.reads I d x v hd rx
  obtain ⟨bs, r2⟩ := Dp.reads I (.tuple ds) y u he ry
  exact SeqAt.notIn_tuple_reads r2 r1 (SeqAt.canLay_of_shaped se) (SeqAt.canLay_of_shaped sd) (room_in_shaped sd hu) ⟨.bl _, H, I, rfl, q⟩
def dNotInT : D → D → Option Bool := fun d e => (dInT d e).map fun b => !b
theorem cmps_notInT : CmpS X (rNotInT X.K) dNotInT := by
  intro x y d e z F H p pa Q gs rx ry ez k
  unfold dNotInT at ez
  cases e <;> first | (simp [dInT] at ez; done) | skip
  rename_i xs
  simp only [dInT] at ez
  split at ez
  · rename_i hc
    simp only [Bool.and_eq_true] at hc
    have h2 := ry.dp gs.sub (pl_of hc.2)
    have s2 := shaped_ok hc.2
    simp only [toPy] at h2 s2
    refine ⟨_, _, rx.dp gs.sub (pl_of hc.1), h2, shaped_ok hc.1, s2, ?_⟩
    rw [any_toPys]
    simp only [Option.map_some, Option.some.injEq] at ez
    rw [ez]; exact k
  · simp at ez
theorem pmt_notInT (hu : Un X) (ha : PM X Wx a ma) (hb : PM X Wx b mb) (hm : behindInMarks .NotIn b = false := by rfl) : PMt X Wx (.Compare a [.NotIn] [b] pos) (mCmp dNotInT ma mb) := pmt_cmp (op_notInT hu) cmps_notInT ha hb hm
theorem pm_notInT (hu : Un X) (ha : PM X Wx a ma) (hb : PM X Wx b mb) (hm : behindInMarks .NotIn b = false := by rfl) : PM X Wx (.Compare a [.NotIn] [b] pos) (mB (mCmp dNotInT ma mb)) := pm_cmp (op_notInT hu) cmps_notInT ha hb hm
end
/-! ### several targets of a list -/
def tgLst (n : Nat) (fs : List D → Sl → Pst → Option (Sl × Pst)) : D → Sl → Pst → Option (Sl × Pst) := fun d ρ p => match d with
  | .lst xs => if xs.length = n then fs xs ρ p else none
  | _ => none
theorem tg_lst {En : Ent} {Wx : WX} {K : PySem.W.Frag} {mg : Str → Option Value} {n : Nat} {g : TGs} {fs : List D → Sl → Pst → Option (Sl × Pst)} (h : TgsOk K mg En Wx g fs) : TgOk K mg En Wx (gLst K n g) (tgLst n fs) := by
  intro F H pa p x d σ ρ ρ' p' Q s r e k
  cases d <;> first | (simp [tgLst] at e; done) | skip
  simp only [tgLst] at e
  split at e
  · rename_i hn
    obtain ⟨a, ws, rfl, h1, hz, rs⟩ := r.lstH s.gs
    exact ⟨a, ws, rfl, SqL.of h1, by rw [rs.1]; exact hn, h F H pa p ws _ σ ρ ρ' p' Q s rs e k⟩
  · cases e
theorem it_lst (n) {fs} (h : ITgs fs) : ITg (tgLst n fs) := fun d ρ p q => by
  cases d <;> first | rfl | skip
  simp only [tgLst]
  split
  · exact h _ ρ p q
  · rfl
end PF

namespace HT
open PySem PyProof.Rows
section
variable {prog : Program} {w : World} {A : Around} {E : Value → Shared → Prop} {s : Shared}
theorem adjust_rev (n : Nat) : Builtin.Slice.sliceAdjust none none (-1) (n : Int) = ((n : Int) - 1, -1) := by
  unfold Builtin.Slice.sliceAdjust
  simp
theorem places_rev (n : Nat) : Builtin.Slice.slicePlaces ((n : Int) - 1) (-1) (-1) = n := by
  unfold Builtin.Slice.slicePlaces
  have h1 : ¬ ((-1 : Int) > 0) := by decide
  have h2 : (-(-1 : Int)) = 1 := by decide
  simp only [h1, if_false, h2, Int.ediv_one]
  split <;> omega
theorem sliceApplied_revN {sl : Addr} {vl vu vs : Value} {n : Nat} {Q : Int × Int × Nat → Shared → Prop} (hs : s.heap.IsSliceOf sl vl vu vs) (pl : IsPart vl none) (pu : IsPart vu none) (ps : IsPart vs (some (-1)))
    (h : Q ((n : Int) - 1, -1, n) s) : wpAny (model prog w) A (Builtin.Slice.sliceApplied (.ref sl) (pure (n : Int))) Q E s := by
  obtain ⟨os, hos, hcs, hds⟩ := id hs
  unfold Builtin.Slice.sliceApplied Builtin.Slice.sliceFields
  refine wpAny_bind (wpAny_bind (wpAny_field hos hds (x := vl) rfl (wpAny_bind (wpAny_field hos hds (x := vu) rfl (wpAny_bind (wpAny_field hos hds (x := vs) rfl (wpAny_pure ?_)))))))
  refine wpAny_bind (slicePart_ ps ?_)
  show wpAny _ _ (if ((-1 : Int) == 0) = true then _ else _) _ _ s
  rw [if_neg (by decide)]
  refine wpAny_bind (slicePart_ pl (wpAny_bind (slicePart_ pu (wpAny_bind (wpAny_pure ?_)))))
  show wpAny _ _ (match Builtin.Slice.sliceAdjust none none (-1) (n : Int) with | (lo, hi) => pure (lo, (-1 : Int), Builtin.Slice.slicePlaces lo hi (-1))) _ _ s
  rw [adjust_rev]
  show wpAny _ _ (pure (((n : Int) - 1), (-1 : Int), Builtin.Slice.slicePlaces ((n : Int) - 1) (-1) (-1))) _ _ s
  rw [places_rev]
  exact wpAny_pure h
theorem pick_rev (xs : Array Value) : ((List.range xs.size).filterMap fun (m : Nat) => xs[((xs.size : Int) - 1 + (m : Int) * (-1)).toNat]?).toArray = xs.toList.reverse.toArray := by
  have e : (fun (m : Nat) => xs[((xs.size : Int) - 1 + (m : Int) * (-1)).toNat]?) = (fun k => xs[k]?) ∘ fun m => xs.size - 1 - m := by
    funext m
    show xs[((xs.size : Int) - 1 + (m : Int) * (-1)).toNat]? = xs[xs.size - 1 - m]?
    have : ((xs.size : Int) - 1 + (m : Int) * (-1)).toNat = xs.size - 1 - m := by omega
    rw [this]
  rw [e, ← List.filterMap_map, PySem.W.krv_range, List.filterMap_reverse, PySem.W.krv_all]
theorem getItem_tuple_revN {t sl : Addr} {items : Array Value} {vl vu vs : Value} {Q : Value → Shared → Prop} (ht : IsTup s.heap t items) (hs : s.heap.IsSliceOf sl vl vu vs) (pl : IsPart vl none) (pu : IsPart vu none) (ps : IsPart vs (some (-1)))
    (h : Q (.ref s.heap.objs.size) { s with heap := s.heap.push { cls := .type "tuple", data := .seq items.toList.reverse.toArray } }) (hsz : items.size ≤ sizeLine) : wpAny (model prog w) A (getItem (.ref t) (.ref sl)) Q E s := by
  have htake : sizeOk (.seq items.toList.reverse.toArray) := by
    show items.toList.reverse.toArray.size ≤ sizeLine
    rw [List.size_toArray, List.length_reverse, Array.length_toList]; exact hsz
  obtain ⟨os, hos, hcs, hds⟩ := id hs
  have hTs : s.TypeIs (.ref sl) "slice" := ⟨os, hos, hcs⟩
  unfold getItem
  try with_reducible refine wpAny_holding ?_
  first | refine wpAny_bind (wpAny_pure ?_) | skip
  refine wpAny_bind (wpAny_sequenceKey ht.typeIs (by decide) ?_)
  refine wpAny_bind (wpAny_callSpecial?_slot (name := Str.ofString "__getitem__") ht.typeIs PyProof.Rows.slot_tuple_getitem
    (wpAny_call_entry PyProof.Rows.slot_tuple_getitem ht.typeIs entry_tuple_getitem ?_ (args_tuple_getitem _ _)))
  show wpAny _ _ (Builtin.Tuple.tupleItemsOf (.ref t) >>= _) _ _ s
  refine wpAny_bind (tupleItemsOf_ ht ?_)
  refine wpAny_bind (wpAny_typeOf hTs ?_)
  rw [if_pos (by decide)]
  refine wpAny_bind (sliceApplied_revN hs pl pu ps ?_)
  have hno : ¬ ((((items.size : Int) - 1) == 0 && (-1 : Int) == 1 && items.size == items.size) = true) := by
    intro q
    rw [Bool.and_eq_true, Bool.and_eq_true] at q
    exact absurd q.1.2 (by decide)
  show wpAny _ _ (if (((items.size : Int) - 1) == 0 && (-1 : Int) == 1 && items.size == items.size) = true then _ else _) _ _ s
  rw [if_neg hno, pick_rev]
  first
    | exact wpAny_bind (m := Builtin.Tuple.tupleExact _) (wpAny_newObj_type (wpAny_pure ⟨_, rfl, wpAny_pure h⟩) htake)
    | exact wpAny_bind (m := Builtin.Tuple.tupleExact _) (wpAny_newObj_type (wpAny_bind (wpAny_pure (wpAny_pure ⟨_, rfl, wpAny_pure h⟩))) htake)
    | exact wpAny_bind (wpAny_bind (m := Builtin.Tuple.tupleExact _) (wpAny_newObj_type (wpAny_pure (wpAny_pure ⟨_, rfl, wpAny_pure h⟩)) htake))
    | exact wpAny_bind (wpAny_bind (m := Builtin.Tuple.tupleExact _) (wpAny_newObj_type (wpAny_pure ⟨_, rfl, wpAny_pure h⟩) htake))
end
end HT
namespace PF
open PySem PySem.Spec PyProof.Rows L2
/-! ### xs[::-1], xs a list or a tuple -/
def tRevD (K : PySem.W.Frag) (te : TE) : TE := fun σ H Q => te σ H fun x H1 => (∃ a xs, x = .ref a ∧ SqL K H1 a xs ∧ ∀ p, H1 p = none → Q (.ref p) (upd H1 p (.lst xs.reverse))) ∨ (∃ a xs, x = .ref a ∧ SqT K H1 a xs ∧ ∀ p, H1 p = none → Q (.ref p) (upd H1 p (.tup xs.reverse)))
theorem pe_revD {X : Cx} {e : Expr} {te : TE} {k : Nat} {p1 p2 p3 pos : Pos} (he : PE X e te) : PE X (.Subscript e (.Slice none none (some (.UnaryOp .USub (.Constant (.int 1) k p1) p2)) p3) pos) (tRevD X.K te) := by
  refine ⟨fun pins s σ H Q I h => ?_⟩
  refine Subscript_ (thn (he.run pins s σ H _ I h) fun v s1 ⟨x, H1, I1, r1, q1⟩ => ?_)
  have hst : PO X (some (.UnaryOp .USub (.Constant (.int 1) k p1) p2)) (tPart (tUn (rU fun i => .int (-i)) (tC (.int 1)))) := po_some (pe_un un_neg pe_int)
  refine wpAny_Slice (thn (po_none.run pins s1 σ H1 (fun o H2 => o = none ∧ H2 = H1) I1 ⟨rfl, rfl⟩) fun vl s2 ⟨l, H2, I2, pl, el, e2⟩ => ?_)
  subst el e2
  refine thn (po_none.run pins s2 σ H2 (fun o H3 => o = none ∧ H3 = H2) I2 ⟨rfl, rfl⟩) fun vu s3 ⟨u, H3, I3, pu, eu, e3⟩ => ?_
  subst eu e3
  refine thn (hst.run pins s3 σ H3 (fun o H4 => o = some (-1) ∧ H4 = H3) I3 ⟨1, rfl, -1, rfl, rfl, rfl⟩) fun vs s4 ⟨o, H4, I4, ps, eo, e4⟩ => ?_
  subst eo e4
  have I5 : Inv X pins σ H4 { s4 with heap := s4.heap.push { cls := .type "slice", data := .fields #[vl, vu, vs] } } := I4.kept (t' := s4.toks) fun b ob q => Heap.get?_push_of_some _ q
  rcases q1 with ⟨a, xs, ex, hx, q⟩ | ⟨a, xs, ex, hx, q⟩
  · subst ex
    cases r1
    obtain ⟨its, r, ht, hz⟩ := I5.list hx
    have hlen := r.length
    show wpAny (model X.prog X.w) X.A (subscriptTail e (.Slice none none (some (.UnaryOp .USub (.Constant (.int 1) k p1) p2)) p3) (.ref a) (.ref s4.heap.objs.size)) (EP X pins σ Q) X.xe { s4 with heap := s4.heap.push { cls := .type "slice", data := .fields #[vl, vu, vs] } }
    refine tail_any (ops := [.ref a, .ref s4.heap.objs.size]) ht.isList.typeIs (PySem.slot_list_getitem.lookup) ?_ (by with_unfolding_all rfl)
    refine wpAny_getItem_list_slice ht.isList (Heap.IsSliceOf.new _ vl vu vs) pl pu ps (by decide) ?_ (by rw [List.size_toArray]; omega)
    rw [PySem.W.krv_pick]
    refine ⟨.ref _, _, I5.laid (t' := s4.toks) (o := .lst xs.reverse) (fun b ob q => Heap.get?_push_of_some _ q) (Nat.le_refl _) ?_, rfl, q _ (I5.hok.fresh (Nat.le_refl _))⟩
    exact ⟨by rw [List.length_reverse]; exact hz, _, 0, r.reverse, Heap.get?_push_size _ rfl⟩
  · subst ex
    cases r1
    obtain ⟨its, r, ht, hz⟩ := I5.tuple hx
    have hlen := r.length
    show wpAny (model X.prog X.w) X.A (subscriptTail e (.Slice none none (some (.UnaryOp .USub (.Constant (.int 1) k p1) p2)) p3) (.ref a) (.ref s4.heap.objs.size)) (EP X pins σ Q) X.xe { s4 with heap := s4.heap.push { cls := .type "slice", data := .fields #[vl, vu, vs] } }
    refine tail_any (ops := [.ref a, .ref s4.heap.objs.size]) ht.typeIs (PyProof.Rows.slot_tuple_getitem.lookup) ?_ (by with_unfolding_all rfl)
    refine HT.getItem_tuple_revN ht (Heap.IsSliceOf.new _ vl vu vs) pl pu ps ?_ (by rw [List.size_toArray]; omega)
    refine ⟨.ref _, _, I5.laid (t' := s4.toks) (o := .tup xs.reverse) (fun b ob q => Heap.get?_push_of_some _ q) (Nat.le_refl _) ?_, rfl, q _ (I5.hok.fresh (Nat.le_refl _))⟩
    exact ⟨by rw [List.length_reverse]; exact hz, _, r.reverse, ⟨_, Heap.get?_push_size _ rfl, rfl, _, rfl⟩⟩
def revD : D → Option D
  | .lst xs => some (.lst xs.reverse)
  | .tup xs => some (.tup xs.reverse)
  | _ => none
@[simp] theorem revD_lst (xs : List D) : revD (.lst xs) = some (.lst xs.reverse) := rfl
@[simp] theorem revD_tup (xs : List D) : revD (.tup xs) = some (.tup xs.reverse) := rfl
def mRevD (me : M D) : M D := mbind me fun d => mopt (revD d)
@[simp] theorem ev_mRevD (me : M D) (ρ : Sl) (p : Pst) : mRevD me ρ p = mbind me (fun d => mopt (revD d)) ρ p := by cases p; rfl
theorem im_revD {me : M D} (h : IM me) : IM (mRevD me) := im_bind h fun _ => im_opt _
theorem pm_revD {X : Cx} {Wx : WX} {e : Expr} {me : M D} {k : Nat} {p1 p2 p3 pos : Pos} (he : PM X Wx e me) : PM X Wx (.Subscript e (.Slice none none (some (.UnaryOp .USub (.Constant (.int 1) k p1) p2)) p3) pos) (mRevD me) := ⟨(pe_revD he.pe).imp fun σ H Q ⟨F, pa, p, ρ, gs, s, o⟩ => by
  refine TM.of gs s (o.bind.mono fun d p1 F1 H1 pa1 gr1 gs1 o1 s1 v1 r1 => ?_)
  obtain ⟨z, ez, o2⟩ := o1.opt
  unfold revD at ez
  split at ez <;> first | (cases ez; done) | skip
  · rename_i xs
    cases ez
    obtain ⟨a, ws, rfl, hl, hz, rs⟩ := r1.lstH gs1
    exact .inl ⟨a, ws, rfl, SqL.of hl, fun q hq => o2 _ _ pa1 (Gr.alloc gs1 hq) (gs1.alloc hq) _ (Rep.lst' upd_same (by rw [List.length_reverse]; exact hz) (rs.reverse.mono fun _ _ h => h.mono (Fz.upd (gs1.fnone hq))))⟩
  · rename_i xs
    cases ez
    obtain ⟨t, ws, rfl, ht, hz, rw'⟩ := r1.tup_inv
    exact .inr ⟨t, ws, rfl, SqT.of (gs1.sub _ _ ht), fun q hq => o2 _ _ pa1 (Gr.alloc gs1 hq) (gs1.alloc hq) _ (Rep.tup' upd_same (by rw [List.length_reverse]; exact hz) (rw'.reverse.mono fun _ _ h => h.mono (Fz.upd (gs1.fnone hq))))⟩⟩
/-! ### a def that is never reached -/
def F_stuck : Fn := fun _ _ => .stuck
theorem if_stuck : IF F_stuck := fun _ _ _ => rfl
theorem fnx_stuck {P : Program} {w : World} {K : PySem.W.Frag} {mg : Str → Option Value} {base : Heap} {x : Str} {params : Arguments} {body : List Stmt} {scope : Scope} {f : Addr} {fd : FuncData} {ps : List Str} {k : Nat}
    (F : FunD K x x params body scope [] [] f fd) (hm : mg x = some (.ref f)) : FnX P w K mg base x params k ps F_stuck := by
  obtain ⟨oc, od, dV, kV, doc, pm, an, cdv, ct, osl, rfl, lk, hcd, hD, _⟩ := F.ex
  obtain rfl : dV = .none := by
    rcases hD with ⟨_, h⟩ | ⟨h, _⟩
    · exact h
    · exact absurd rfl h
  refine ⟨f, _, hm, F.kp, ⟨body, scope, kV, doc, pm, an, cdv, ct, rfl⟩, ⟨fun ds p h => absurd rfl h, fun A outer s H args us vs ds Fz0 pa p Q E hr hgd e0 hbt rv gs rs o => o.elim⟩⟩
end PF

namespace PF
open PySem PySem.Spec PyProof.Rows L2
open Sem (wp)
/-! ### enumerate over a list or a tuple -/
theorem meets_enumerate_newB1 {v : Value} {o : Obj} {H : Heap → Prop} (B : Begins v o H) :
    Meets (Builtin.«enumerate.__new__» ⟨[.type "enumerate", v], []⟩) (fun _ R s => H s.heap ∧
      R (.ok (.ret (.ref (s.heap.push o).objs.size))) { s with heap := (s.heap.push o).push { cls := .type "enumerate", data := .fields #[.none, .bool false, .ref s.heap.objs.size, rawInt 0, .none, .none] } }) :=
  .of_wp fun prog w A R s h => by
    obtain ⟨hp, g, d, tk, os⟩ := s; obtain ⟨h1, h⟩ := h
    have hsub := sub_enumerate
    have q1 : ∀ {A' : Around} {E : Value → Shared → Prop} {Q : Value → Shared → Prop}, Q (.ref hp.objs.size) ⟨hp.push o, g, d, tk, os⟩ → wpAny (model prog w) A' (pyIter v) Q E ⟨hp, g, d, tk, os⟩ :=
      fun q => B.iter prog w _ _ ⟨hp, g, d, tk, os⟩ _ h1 q
    wp_walk using q1
    refine wpAny_stack_any fun st => wpAny_pure ?_
    split
    · rename_i c _ _ _ _ _
      cases (c == Value.type "enumerate")
      · wp_walk using q1
        exact ⟨_, rfl, h⟩
      · wp_walk using q1
        exact ⟨_, rfl, h⟩
    · wp_walk using q1
      exact ⟨_, rfl, h⟩
section
variable {prog : Program} {w : World} {A : Around} {E : Value → Shared → Prop} {s : Shared}
theorem enum_begins1 {v : Value} {o : Obj} {H : Heap → Prop} {Q : Value → Shared → Prop} (B : Begins v o H) (h1 : H s.heap)
    (h : ∀ h', IsEnum h' (s.heap.objs.size + 1) s.heap.objs.size 0 .none → h'.get? s.heap.objs.size = some o → h'.objs.size = s.heap.objs.size + 2 →
      (∀ b o, s.heap.get? b = some o → h'.get? b = some o) → Q (.ref (s.heap.objs.size + 1)) { s with heap := h' }) :
    wpAny (model prog w) A (call (.type "enumerate") [v]) Q E s := by
  refine callType_new F.called_enumerate (by decide) (F.typeCall_enumerate_1 _) (F.newCall_enumerate_1 _) (fun obj => F.args_object_init_2 obj _) F.entry_enumerate_new
    (meets_enumerate_newB1 B) ⟨h1, ?_⟩
  have hz : (s.heap.push o).objs.size = s.heap.objs.size + 1 := Heap.size_push ..
  show _ ∧ _
  rw [hz]
  have he : IsEnum ((s.heap.push o).push { cls := .type "enumerate", data := .fields #[.none, .bool false, .ref s.heap.objs.size, rawInt 0, .none, .none] }) (s.heap.objs.size + 1) s.heap.objs.size 0 .none := by
    have := Heap.get?_push_size (s.heap.push o) (o := { cls := .type "enumerate", data := .fields #[.none, .bool false, .ref s.heap.objs.size, rawInt 0, .none, .none] }) rfl
    rw [hz] at this; exact this
  refine ⟨⟨_, he, rfl⟩, h _ he (Heap.get?_push_of_some _ (Heap.get?_push_size _ B.free)) (by rw [Heap.size_push, hz]) fun b o x => Heap.get?_push_of_some _ (Heap.get?_push_of_some _ x)⟩
end
def ItEn (K : PySem.W.Frag) (q : Src) (N : Nat) : It :=
  ⟨fun i H => i < N ∧ ∃ xs, srcV K H q xs ∧ N = xs.length,
    fun i H v H' => ∃ T x, v = .ref T ∧ H T = none ∧ H' = upd H T (.tup [.int (i : Nat), x]) ∧ ∀ xs, srcV K H q xs → xs[i]? = some x,
    fun i H => N ≤ i ∧ ∃ xs, srcV K H q xs ∧ N = xs.length⟩
theorem turn_enumS {P : Program} {w : World} {K : PySem.W.Frag} {elts : List Expr} {kk : Nat} {tpos : Pos} {q : Src} {e it : Addr} {N : Nat} (n1 : ∀ b ∈ srcA q, b ≠ it) (ne : e ≠ it) (ns : e ∉ srcA q) :
    Turn P w K (.Tuple elts kk tpos) (ItEn K q N) [e, it] e (fun i h => i ≤ N ∧ (∃ old, IsEnum h e it ((i : Nat) : Int) old) ∧ srcSt it i h q) where
  mem := by simp
  obj := fun i h st b hb => by
    obtain ⟨_, ⟨old, he⟩, h1⟩ := st
    have e' : b = e ∨ b = it := by simpa using hb
    rcases e' with z | z
    · rw [z]; exact ⟨_, he, fun v q => nomatch q⟩
    · rw [z]; exact srcSt_obj h1
  keep := fun i h h' st k => let ⟨hN, ⟨old, he⟩, h1⟩ := st; ⟨hN, ⟨old, k e (by simp) _ he⟩, srcSt_keep (fun o q => k it (by simp) o q) h1⟩
  item := by
    intro X hP hw hK hc i pins s σ H E I hf st hg
    subst hP hw hK
    obtain ⟨hN, ⟨old, he⟩, h1⟩ := st
    obtain ⟨hlt, xs, hx, hn⟩ := hg
    obtain ⟨P1, St1, D1, a1, b1, c1⟩ := src_draws (A := X.A.in1) (I.ok.hd hc) I n1 hx
    have hel : e < s.heap.objs.size := Heap.lt_size he
    have hil : it < s.heap.objs.size := by obtain ⟨_, q, _⟩ := srcSt_obj h1; exact Heap.lt_size q
    refine wpAny_pyNext_enum_itemD D1 he (a1 i h1) (by omega) ne (fun hm => (List.mem_cons.mp hm).elim ne ns) fun u h' tk hP ho hst' hT hsz hk => ?_
    obtain ⟨x, gx, ru⟩ := c1 i u hP
    refine ⟨_, rfl, wpAny_letOwnedTupleGo_enum (s := { s with heap := h', toks := tk + 1 }) ho fun h'' he' sb => ?_⟩
    have hT2 : h''.get? s.heap.objs.size = some { cls := .type "tuple", data := .seq #[.int i tk, u] } := (sb.2 _ (Nat.ne_of_gt hel)).trans hT
    have new : ObjOk X.prog X.w (upd H s.heap.objs.size (.tup [.int (i : Nat), x])) h'' s.heap.objs.size (.tup [.int (i : Nat), x]) :=
      ⟨by show 2 ≤ sizeLine; decide, [.int i tk, u], .cons ⟨_, rfl⟩ (.cons ru .nil), ⟨_, hT2, rfl, _, rfl⟩⟩
    have I1 : Inv X pins σ (upd H s.heap.objs.size (.tup [.int (i : Nat), x])) { s with heap := h'', toks := tk + 1 } :=
      I.turnedNew (ch := [e, it]) (fun b ob hb q => (sb.2 b (fun z => hb (by simp [z]))).trans (hk b ob (fun z => hb (by simp [z])) (fun z => hb (by simp [z])) q)) hf (Nat.le_refl _) new
    refine ⟨.ref s.heap.objs.size, _, I1, rfl, ⟨_, x, rfl, I.hok.fresh (Nat.le_refl _), rfl, fun ys hy => by rw [src_inj I hy hx]; exact gx⟩, ⟨hlt, ⟨u, ?_⟩, srcSt_keep (fun o q => (sb.2 it (Ne.symm ne)).trans q) (b1 _ _ hst')⟩, fun b hb => ?_⟩
    · have e1 : ((i + 1 : Nat) : Int) = (i : Int) + 1 := by omega
      rw [e1]; exact he'
    · have hb' : b < s.heap.objs.size := by
        have e' : b = e ∨ b = it := by simpa using hb
        rcases e' with z | z
        · rw [z]; exact hel
        · rw [z]; exact hil
      rw [upd_ne (Nat.ne_of_lt hb')]
      exact (hf b hb).1
  done := by
    intro X hP hw hK hc i pins s σ H E I hf st hg
    subst hP hw hK
    obtain ⟨hN, ⟨old, he⟩, h1⟩ := st
    obtain ⟨hge, xs, hx, hn⟩ := hg
    obtain ⟨P1, St1, D1, a1, b1, c1⟩ := src_draws (A := X.A.in1) (I.ok.hd hc) I n1 hx
    obtain ⟨f0, f1, f2, f3, f4, f5⟩ := hf it (by simp)
    have e1 : i = xs.length := by omega
    subst e1
    exact wpAny_pyNext_enum_endD D1 he (a1 _ h1) fun h' eb => ⟨rfl, I.turned (t' := s.toks) (fun b o hb q => eb b o hb q) f0 f1 f3 f4 f5⟩
  self := fun A i s Q E st h => let ⟨_, ⟨_, he⟩, _⟩ := st; wpAny_pyIter_enum he h
def iEnumS (K : PySem.W.Frag) (ta : TA) : TI := fun σ H R => ta σ H fun vs H1 => ∃ a xs q, vs = [.ref a] ∧ (q = .l a ∨ q = .t a) ∧ srcV K H1 q xs ∧ R (ItEn K q xs.length) H1
theorem pi_enumS {X : Cx} {e : Expr} {ta : TA} {p pos tpos : Pos} {elts : List Expr} {kk : Nat} (hg : Gl X "enumerate") (hm : X.mg "enumerate" = none) (ha : PA X [e] ta) (hs : starEach [e] X.env = [(false, eval e X.env)] := by rfl) :
    PI X (.Tuple elts kk tpos) (.Call (.Name "enumerate" p) [e] [] pos) (iEnumS X.K ta) := by
  refine ⟨fun pins s σ H R I h => ?_⟩
  refine Call_ (ld_blt I hg hm boot_enumerate (PyProof.Rows.callWith_type1 (thn (ha.run pos pins s σ H _ I h) fun us s1 ⟨vs, H1, I1, r1, q1⟩ => ?_) hs rfl))
  obtain ⟨a, xs, qa, ex, ea, hx, q⟩ := q1
  subst ex
  obtain ⟨o1, B1, b1, c1, d1, f1⟩ := src_begins I1 ea hx
  cases r1 with
  | cons r rr =>
    cases rr
    cases r
    refine enum_begins1 b1 c1 fun h' he hit hsz hk => wpAny_pyIter_enum he ?_
    have I2 : Inv X pins σ H1 { s1 with heap := h' } := I1.kept (t' := s1.toks) hk
    refine ⟨s1.heap.objs.size + 1, [s1.heap.objs.size + 1, s1.heap.objs.size], _, _, H1, rfl, I2, turn_enumS (N := xs.length) (fun b hb => Nat.ne_of_lt (f1 b hb)) (Nat.succ_ne_self _) (fun hm => absurd (f1 _ hm) (Nat.not_lt.mpr (Nat.le_succ _))), ⟨Nat.zero_le _, ⟨.none, he⟩, d1 _ _ hit⟩, fun b hb => ?_, q⟩
    have e' : b = s1.heap.objs.size + 1 ∨ b = s1.heap.objs.size := by simpa using hb
    have hle : s1.heap.objs.size ≤ b := by
      rcases e' with z | z
      · rw [z]; exact Nat.le_add_right _ _
      · rw [z]; exact Nat.le_refl _
    exact I1.fpOk hle (I1.hok.fresh hle)
/-! ### as data -/
def enumS : List D → Option (List D)
  | [d] => (sqD d).map enumL
  | _ => none
@[simp] theorem enumS_one (d : D) : enumS [d] = (sqD d).map enumL := rfl
def mEnumS (ms : M (List D)) : M (List D) := mbind ms fun ds => mopt (enumS ds)
@[simp] theorem ev_mEnumS (ms : M (List D)) (ρ : Sl) (p : Pst) : mEnumS ms ρ p = mbind ms (fun ds => mopt (enumS ds)) ρ p := by cases p; rfl
theorem im_enumS {m : M (List D)} (h : IM m) : IM (mEnumS m) := im_bind h fun _ => im_opt _
theorem iter_enumS {K : PySem.W.Frag} {F : Hp} {g : Nat} {pa : Option Addr} {q : Src} {vs : List V} {ds : List D} (h : SrcF F q vs) (r : Reps K F g pa vs ds) : IterOk K F g pa (ItEn K q vs.length) (enumL ds) := by
  intro i F1 H1 pa1 p1 fz gs1
  have h1 : srcV K H1 q vs := h.v fun a o e => gs1.sub _ _ (fz.sub _ _ e)
  have hl : (enumL ds).length = vs.length := by simp only [enumL, List.length_mapIdx]; rw [r.1]
  refine ⟨fun hi => ⟨by omega, vs, h1, rfl⟩, fun z hz => ?_⟩
  have hlt : i < (enumL ds).length := (List.getElem?_eq_some_iff.mp hz).1
  unfold enumL at hz
  rw [List.getElem?_mapIdx] at hz
  cases qz : ds[i]? with
  | none => rw [qz] at hz; cases hz
  | some d =>
    rw [qz] at hz
    cases hz
    obtain ⟨v, hv, rv⟩ := (r.mono fz).get qz
    refine ⟨⟨by omega, vs, h1, rfl⟩, fun x H' ⟨T, y, e1, e2, e4, hx⟩ => ?_⟩
    subst e1 e4
    have t1 := hx vs h1
    rw [hv] at t1
    cases t1
    obtain ⟨F2, gr2, gs2, r2⟩ := zip_item gs1 e2 (.int (i : Nat)) rv
    exact ⟨F2, gr2, gs2, r2⟩
section
variable {X : Cx} {Wx : WX} {a : Expr} {ms : M (List D)} {p pos : Pos}
theorem pmi_enumS {elts : List Expr} {kk : Nat} {tpos : Pos} (hg : Gl X "enumerate") (hm : X.mg "enumerate" = none) (ha : PMa X Wx [a] ms) (hs : starEach [a] X.env = [(false, eval a X.env)] := by rfl) :
    PMi X Wx (.Tuple elts kk tpos) (.Call (.Name "enumerate" p) [a] [] pos) (mEnumS ms) := ⟨(pi_enumS hg hm ha.pa hs).imp fun σ H R ⟨F, pa, p, ρ, gs, s, o⟩ => by
  refine TMa.of gs s (o.bind.mono fun ds p1 F1 H1 pa1 gr1 gs1 o1 s1 vs rs => ?_)
  obtain ⟨z, ez, o2⟩ := o1.opt
  unfold enumS at ez
  split at ez <;> first | (cases ez; done) | skip
  rename_i d
  cases q : sqD d with
  | none => rw [q] at ez; cases ez
  | some xs =>
    rw [q] at ez
    cases ez
    obtain ⟨v, rfl, r1⟩ := reps1 rs
    obtain ⟨a, s1, vs, rfl, ea, f1, hz, ra⟩ := sq_src (H := H1) (p := p1) r1 q
    exact ⟨a, vs, s1, rfl, ea, f1.v gs1.sub, o2.ret gs1 _ (iter_enumS f1 ra) (by simpa [enumL] using hz)⟩⟩
end
end PF

namespace PF
open PySem PySem.Spec PyProof.Rows L2
open Sem (wp)
/-! ### any over a tuple of ints -/
def rAnyI (K : PySem.W.Frag) : List V → Hp → VK → Prop := fun vs H Q => ∃ (a : Addr) (ns : List Int), vs = [V.ref a] ∧ SqT K H a (ns.map V.int) ∧ Q (.bl (ns.any fun n => n != 0)) H
theorem plainAll_ints : ∀ ns : List Int, PyData.plainAll (ns.map PyData.int) = true
  | [] => rfl
  | n :: ns => by
    rw [List.map_cons]
    simp only [PyData.plainAll, PyData.plain, plainAll_ints ns, Bool.and_self]
section
variable {X : Cx}
theorem cr_anyI (hc : X.calm = true) : CallR X (.builtin "any") (rAnyI X.K) := by
  intro pins s σ H vs us Q I r h
  obtain ⟨a, ns, rfl, hT, q⟩ := h
  obtain ⟨its, rv, ht, _⟩ := I.tuple hT
  rw [Vals.ref1 r]
  have hr := PyProof.Rows.IntsAre.reads s.heap rv.ints
  refine PySem.W.any_tuple_data (xs := ns.map .int) (I.ok.hd hc) ht (by simpa using hr) (plainAll_ints ns) (fun x hx => ?_) fun h' tk hk => ?_
  · obtain ⟨n, _, rfl⟩ := List.mem_map.mp hx
    exact True.intro
  · refine ⟨.bl _, H, I.kept hk, ?_, q⟩
    rw [List.any_map]
    rfl
def rAnyX (K : PySem.W.Frag) : List V → Hp → VK → Prop := fun vs H Q => rAny K vs H Q ∨ rAnyI K vs H Q
theorem cr_anyX (hc : X.calm = true) : CallR X (.builtin "any") (rAnyX X.K) := fun pins s σ H vs us Q I r h => h.elim (cr_any hc pins s σ H vs us Q I r) (cr_anyI hc pins s σ H vs us Q I r)
def dAnyX : List D → Option D
  | [.tup xs] => (intsOf xs).map fun ns => .bl (ns.any fun n => n != 0)
  | ds => dAny ds
@[simp] theorem dAnyX_lst (xs : List D) : dAnyX [.lst xs] = dAny [.lst xs] := rfl
theorem dAnyX_ints (ns : List Int) : dAnyX [.tup (ns.map .int)] = some (.bl (ns.any fun n => n != 0)) := by simp [dAnyX, intsOf_map]
theorem calls_anyX : CallS X (rAnyX X.K) dAnyX := by
  intro xs ds z F H p pa Q gs rs ez k
  unfold dAnyX at ez
  split at ez
  · rename_i ys
    obtain ⟨v, rfl, r⟩ := reps1 rs
    obtain ⟨a, vs, rfl, h, hz, r2⟩ := r.tupH gs
    cases q : intsOf ys with
    | none => rw [q] at ez; cases ez
    | some ns =>
      rw [q] at ez
      simp only [Option.map_some, Option.some.injEq] at ez
      subst ez
      exact .inr ⟨a, ns, rfl, SqT.of (by rw [← reps_ints r2 q]; exact h), k _ _ _ .refl gs (.bl _)⟩
  · exact .inl (calls_any xs ds z F H p pa Q gs rs ez k)
end
/-! ### the least of a list of pairs of ints -/
def rMinPO (K : PySem.W.Frag) : List V → Hp → VK → Prop := fun vs H Q => ∃ (a : Addr) (xs : List V) (k : V → Int × Int) (q : Int × Int) (qs : List (Int × Int)), vs = [V.ref a] ∧ SqL K H a xs ∧ (∀ x ∈ xs, ∃ t, x = V.ref t ∧ H t = some (.tup [.int (k x).1, .int (k x).2])) ∧
  xs.map k = q :: qs ∧ ∀ x ∈ xs, k x = PySem.W.minOf q qs → Q x H
section
variable {X : Cx}
theorem reads_pairs {pins : List (Addr × Obj)} {s : Shared} {σ : L2.St} {H : Hp} (I : Inv X pins σ H s) (k : V → Int × Int) : ∀ (xs : List V) (its : List Value), Vals xs its → (∀ x ∈ xs, ∃ t, x = V.ref t ∧ H t = some (.tup [.int (k x).1, .int (k x).2])) → ReadsAll s.heap its ((xs.map k).map PySem.W.Datum.toD) []
  | [], _, .nil, _ => .nil
  | x :: xs, _, .cons r rs, h => by
    obtain ⟨t, e, ht⟩ := h x List.mem_cons_self
    obtain ⟨_, its2, r2, o, ho, hc, n, hd⟩ := I.hok _ _ ht
    obtain ⟨u1, u2, rfl, ri, rj⟩ := vals2 r2
    obtain ⟨t1, rfl⟩ := ri
    obtain ⟨t2, rfl⟩ := rj
    have rr := reads_pairs I k xs _ rs fun z hz => h z (List.mem_cons_of_mem _ hz)
    subst e
    cases r
    exact ReadsAll.cons (as := []) (bs := []) (Reads.tuple ho hc hd (ReadsAll.cons (as := []) (bs := []) (.int _ _) (ReadsAll.cons (as := []) (bs := []) (.int _ _) .nil))) rr
theorem vals_back_at : ∀ {xs : List V} {us : List Value} {i : Nat} {u : Value}, Vals xs us → us[i]? = some u → ∃ x, xs[i]? = some x ∧ L2.RelV x u
  | [], [], i, u, _, h => by simp at h
  | x :: xs, v :: us, 0, u, r, h => by
    cases r with
    | cons r rs => simp at h; subst h; exact ⟨_, rfl, r⟩
  | x :: xs, v :: us, i + 1, u, r, h => by
    cases r with
    | cons r rs =>
      obtain ⟨y, h1, h2⟩ := vals_back_at (i := i) (u := u) rs (by simpa using h)
      exact ⟨y, by simpa using h1, h2⟩
theorem cr_minPO (hu : Un X) (hc : X.calm = true) : CallR X (.builtin "min") (rMinPO X.K) := by
  intro pins s σ H vs us Q I r h
  obtain ⟨a, xs, k, q, qs, rfl, hs, hx, hq, kk⟩ := h
  obtain ⟨its, rv, hl, hz⟩ := I.list hs
  rw [Vals.ref1 r]
  have hr := reads_pairs I k xs its rv hx
  rw [hq] at hr
  have hu' : X.A.units + 65 < cLine := hu
  refine PySem.W.min_list_datum (x := q) (xs := qs) (I.ok.hd hc) hl.isList ⟨[], by simpa using hr⟩ (by show X.A.units + 1 + 1 < _; omega) fun i v h' tk hi hold hk => ?_
  have hi' : its[i]? = some v := by simpa using hi
  obtain ⟨x, hxi, rx⟩ := vals_back_at rv hi'
  have hm := List.mem_of_getElem? hxi
  obtain ⟨t, e, ht⟩ := hx x hm
  subst e
  cases rx
  refine ⟨.ref t, H, I.kept hk, rfl, kk _ hm ?_⟩
  obtain ⟨_, its2, r2, o, ho, hcl, n, hd⟩ := I.hok _ _ ht
  obtain ⟨u1, u2, rfl, ri, rj⟩ := vals2 r2
  obtain ⟨t1, rfl⟩ := ri
  obtain ⟨t2, rfl⟩ := rj
  obtain ⟨as, rd⟩ := hold
  clear kk hr hq
  have rd : Reads h' (.ref t) (.tuple [.int (PySem.W.minOf q qs).1, .int (PySem.W.minOf q qs).2]) as := rd
  generalize k (V.ref t) = kt at *
  generalize PySem.W.minOf q qs = mm at *
  obtain ⟨k1, k2⟩ := kt
  obtain ⟨m1, m2⟩ := mm
  simp only at rd hd
  cases rd with
  | tuple ho' hc' hd' ra =>
    rw [hk _ _ ho] at ho'
    cases ho'
    rw [hd] at hd'
    cases hd'
    cases ra with
    | cons r1 ra =>
      cases ra with
      | cons r2 ra =>
        cases r1
        cases r2
        rfl
end
def rMinX (K : PySem.W.Frag) : List V → Hp → VK → Prop := fun vs H Q => rMin K vs H Q ∨ rMinPO K vs H Q
section
variable {X : Cx}
theorem cr_minX (hu : Un X) (hc : X.calm = true) : CallR X (.builtin "min") (rMinX X.K) := fun pins s σ H vs us Q I r h => h.elim (cr_min hc pins s σ H vs us Q I r) (cr_minPO hu hc pins s σ H vs us Q I r)
def dMinP : List D → Option D
  | [.lst xs] => (match pairsOf xs with
    | some (q :: qs) => some (pairD (PySem.W.minOf q qs))
    | _ => none)
  | _ => none
def dMinX (ds : List D) : Option D := (dMin1 ds).or (dMinP ds)
theorem calls_minP : CallS X (rMinPO X.K) dMinP := by
  intro xs ds z F H p pa Q gs rs ez k
  unfold dMinP at ez
  split at ez <;> first | (cases ez; done) | skip
  rename_i ys
  obtain ⟨v, rfl, r⟩ := reps1 rs
  obtain ⟨a, vs, rfl, h, hz, r2⟩ := r.lstH gs
  split at ez <;> first | (cases ez; done) | skip
  rename_i q0 qs0 hq0
  cases ez
  have eys := pairsOf_eq hq0
  subst eys
  obtain ⟨qs, hqs⟩ : ∃ qs, qs = q0 :: qs0 := ⟨_, rfl⟩
  have key : ∀ (i : Nat) (x : V), vs[i]? = some x → ∃ pr, (q0 :: qs0)[i]? = some pr ∧ pairAt H x = pr ∧ (∃ t, x = V.ref t ∧ H t = some (.tup [.int pr.1, .int pr.2])) ∧ Rep X.K F p.g pa x (pairD pr) := fun i x hx => by
    obtain ⟨d, hd, rd⟩ := r2.get' hx
    rw [List.getElem?_map] at hd
    cases qi : (q0 :: qs0)[i]? with
    | none => rw [qi] at hd; cases hd
    | some pr =>
      rw [qi] at hd
      cases hd
      obtain ⟨t, ws, rfl, ht, _, rw'⟩ := rd.tupH gs
      obtain ⟨w1, w2, rfl, q1, q2⟩ := reps2 rw'
      cases q1; cases q2
      exact ⟨pr, rfl, (by simp only [pairAt, ht]), ⟨t, rfl, ht⟩, rd⟩
  have hmap : vs.map (pairAt H) = q0 :: qs0 := by
    apply List.ext_getElem?
    intro i
    rw [List.getElem?_map]
    cases hv : vs[i]? with
    | none =>
      have l1 := r2.1
      rw [List.length_map] at l1
      have : (q0 :: qs0)[i]? = none := List.getElem?_eq_none (by have := List.getElem?_eq_none_iff.mp hv; omega)
      rw [this]; rfl
    | some x =>
      obtain ⟨pr, h1, h2, _, _⟩ := key i x hv
      rw [h1, ← h2]; rfl
  have hmem : ∀ x ∈ vs, (∃ t, x = V.ref t ∧ H t = some (.tup [.int (pairAt H x).1, .int (pairAt H x).2])) ∧ Rep X.K F p.g pa x (pairD (pairAt H x)) := fun x hx => by
    obtain ⟨i, hi⟩ := List.mem_iff_getElem?.mp hx
    obtain ⟨pr, _, h2, h3, h4⟩ := key i x hi
    rw [h2]
    exact ⟨h3, h4⟩
  refine ⟨a, vs, pairAt H, q0, qs0, rfl, SqL.of h, fun x hx => (hmem x hx).1, hmap, fun x hx hm => ?_⟩
  have := (hmem x hx).2
  rw [hm] at this
  exact k _ _ _ .refl gs this
theorem calls_minX : CallS X (rMinX X.K) dMinX := by
  intro xs ds z F H p pa Q gs rs ez k
  unfold dMinX at ez
  cases e : dMin1 ds with
  | some w =>
    rw [e] at ez
    exact .inl (calls_min1 xs ds z F H p pa Q gs rs (by rw [e]; exact ez) k)
  | none =>
    rw [e] at ez
    exact .inr (calls_minP xs ds z F H p pa Q gs rs ez k)
end
theorem dMinX_pairs (q : Int × Int) (qs : List (Int × Int)) : dMinX [.lst ((q :: qs).map pairD)] = some (pairD (PySem.W.minOf q qs)) := by
  have e1 : dMin1 [.lst ((q :: qs).map pairD)] = none := rfl
  unfold dMinX
  rw [e1, Option.none_or]
  simp only [dMinP, pairsOf_map]
theorem minOf_spec : ∀ (qs : List (Int × Int)) (q : Int × Int), PySem.W.minOf q qs ∈ q :: qs ∧ ∀ y ∈ q :: qs, (PySem.W.minOf q qs).1 ≤ y.1
  | [], q => ⟨List.mem_singleton.mpr rfl, fun y hy => by rw [List.mem_singleton.mp hy]; exact Int.le_refl _⟩
  | r :: qs, q => by
    have e : PySem.W.minOf q (r :: qs) = PySem.W.minOf (if PySem.W.DatumOrd.lt r q = true then r else q) qs := rfl
    obtain ⟨h1, h2⟩ := minOf_spec qs (if PySem.W.DatumOrd.lt r q = true then r else q)
    rw [e]
    have lt : PySem.W.DatumOrd.lt r q = (if r.1 = q.1 then decide (r.2 < q.2) else decide (r.1 < q.1)) := rfl
    by_cases hc : PySem.W.DatumOrd.lt r q = true
    · rw [if_pos hc] at h1 h2 ⊢
      refine ⟨?_, fun y hy => ?_⟩
      · rcases List.mem_cons.mp h1 with k | k
        · rw [k]; exact List.mem_cons_of_mem _ List.mem_cons_self
        · exact List.mem_cons_of_mem _ (List.mem_cons_of_mem _ k)
      · rcases List.mem_cons.mp hy with rfl | k
        · have := h2 r List.mem_cons_self
          rw [lt] at hc
          split at hc <;> simp at hc <;> omega
        · exact h2 y k
    · rw [if_neg hc] at h1 h2 ⊢
      refine ⟨?_, fun y hy => ?_⟩
      · rcases List.mem_cons.mp h1 with k | k
        · rw [k]; exact List.mem_cons_self
        · exact List.mem_cons_of_mem _ (List.mem_cons_of_mem _ k)
      · rcases List.mem_cons.mp hy with rfl | k
        · exact h2 y List.mem_cons_self
        · rcases List.mem_cons.mp k with rfl | k
          · have := h2 q List.mem_cons_self
            rw [lt] at hc
            split at hc <;> simp at hc <;> omega
          · exact h2 y (List.mem_cons_of_mem _ k)
/-! ### a tuple so many times -/
theorem tuple_mulW1 (l : Addr) (items : Array Value) (n : Nat) (dd : Option Addr) (sl : Array (Option Value)) (u : Tok) :
    Meets (Builtin.«tuple.__mul__» ⟨[.ref l, .int 1 u], []⟩) (fun _ R s => s.heap.get? l = some { cls := .type "tuple", dict := dd, data := .seq items n, slots := sl } ∧
      R (.ok (.ret (Value.ref l))) s) :=
  .of_wp fun prog w A R s h => by
    obtain ⟨hp, g, d, tk, os⟩ := s
    obtain ⟨hl, h⟩ := h
    have f1 := AutoSeq1.idx_int
    have c1 : (items.isEmpty || (1 : Int) == 1) = true := by simp
    wp_walk using wpAny_loadPart' hl
    repeat (first
      | (refine wpAny_ite_true (decide_eq_true (by first | exact c1 | rfl | decide)) ?_; wp_walk using wpAny_loadPart' hl)
      | (refine wpAny_ite_false (decide_eq_false (by decide)) ?_; wp_walk using wpAny_loadPart' hl))
    exact ⟨_, rfl, h⟩
def rRepT1 (K : PySem.W.Frag) : R2 := fun x y H Q => ∃ l xs, x = .ref l ∧ y = .int 1 ∧ SqT K H l xs ∧ Q (.ref l) H
section
variable {X : Cx}
theorem op_repT1 : OpR X (binaryOp .Mult) (rRepT1 X.K) := by
  intro pins s σ H x y v u Q I rx ry h
  obtain ⟨l, xs, rfl, rfl, hT, q⟩ := h
  cases rx
  obtain ⟨t, rfl⟩ := ry
  obtain ⟨its, r, ⟨⟨cls, dd, data, sl⟩, ho, hc, n, hd⟩, hs⟩ := I.tuple hT
  simp only at hc hd
  subst hc hd
  refine wpAny_binaryOp_repeat_ref (T := "tuple") (U := "int") (by decide) ⟨_, ho, rfl⟩ (fun s' => typeIs_int s' 1 t) noFill_tuple_mul F.fills_int_mul F.slot_int_rmul repeat_tuple F.slot_int_index.lookup
    (call_meets F.slot_int_rmul (typeIs_int s 1 t) F.entry_int_rmul (F.args_int_rmul_2 _ _) (int_rmul_tuple 1 t l its.toArray n dd sl)
      ⟨ho, rfl, ⟨_, ho, rfl⟩, call_meets F.slot_tuple_mul ⟨_, ho, rfl⟩ F.entry_tuple_mul (F.args_tuple_mul_2 _ _) (tuple_mulW1 l its.toArray n dd sl t) ⟨ho, ?_⟩⟩)
  exact ⟨.ref l, H, I.tok _, rfl, q⟩
def dRepT : D → D → Option D
  | .tup xs, .int k => if xs ≠ [] ∧ 2 ≤ k ∧ k ≤ 1000 ∧ xs.length ≤ 1000 then some (.tup (List.replicate k.toNat xs).flatten) else none
  | _, _ => none
def dRepT1 : D → D → Option D
  | .tup xs, .int k => if k = 1 then some (.tup xs) else none
  | _, _ => none
theorem ops_repT : OpS X (rRepT X.K) dRepT := by
  intro x y d e z F H p pa Q gs rx ry ez k
  cases d <;> cases e <;> first | (simp [dRepT] at ez; done) | skip
  simp only [dRepT] at ez
  split at ez
  · rename_i hc
    simp only [Option.some.injEq] at ez
    subst ez
    cases ry
    obtain ⟨l, xs, rfl, hl, hz1, r1⟩ := rx.tupH gs
    have hlen := r1.1
    refine ⟨l, _, xs, rfl, rfl, SqT.of hl, fun e => hc.1 (by subst e; exact List.eq_nil_of_length_eq_zero hlen.symm), hc.2.1, hc.2.2.1, by rw [hlen]; exact hc.2.2.2, fun q hq => ?_⟩
    refine k _ _ _ (Gr.alloc gs hq) (gs.alloc hq) (Rep.tup' upd_same ?_ ((AllR.rep r1 _).mono fun _ _ h => h.mono (Fz.upd (gs.fnone hq))))
    have := hc.2.2.2
    have h3 := hc.2.2.1
    rw [PyProof.Rows.lm_len_rep_flat, sizeLine_eq]
    rename_i kk
    have a1 : kk.toNat * (List.length _) ≤ 1000 * 1000 := Nat.mul_le_mul (by omega) hc.2.2.2
    omega
  · cases ez
theorem ops_repT1 : OpS X (rRepT1 X.K) dRepT1 := by
  intro x y d e z F H p pa Q gs rx ry ez k
  cases d <;> cases e <;> first | (simp [dRepT1] at ez; done) | skip
  simp only [dRepT1] at ez
  split at ez
  · rename_i hc
    simp only [Option.some.injEq] at ez
    subst ez hc
    cases ry
    have rx' := rx
    obtain ⟨l, xs, rfl, hl, hz1, r1⟩ := rx.tupH gs
    exact ⟨l, xs, rfl, rfl, SqT.of hl, k _ _ _ .refl gs rx'⟩
  · cases ez
def dMulX : D → D → Option D
  | .tup xs, .int k => (dRepT (.tup xs) (.int k)).or (dRepT1 (.tup xs) (.int k))
  | d, e => dMul d e
variable {Wx : WX} {a b e : Expr} {es : List Expr} {ma mb : M D} {ms : M (List D)} {p pos : Pos}
theorem pm_mulX (ha : PM X Wx a ma) (hb : PM X Wx b mb) : PM X Wx (.BinOp a .Mult b pos) (mOp dMulX ma mb) :=
  pm_op (op_mul.or (op_rep.or (op_repT.or op_repT1))) ((ops_mulI.or (ops_rep.or (ops_repT.or ops_repT1))).imp fun d e z h => by
    cases d <;> cases e <;> first
      | (simp [dMulX, dMul] at h; done)
      | (simp only [dMulX, dMul, dMulI, dI2c, dRep, dRepT, dRepT1] at h ⊢; simp only [Option.some_or, Option.none_or, Option.or_none]; exact h)) ha hb
@[simp] theorem dMulX_int (i : Int) (e : D) : dMulX (.int i) e = dMul (.int i) e := by cases e <;> rfl
@[simp] theorem dMulX_lst (xs : List D) (e : D) : dMulX (.lst xs) e = dMul (.lst xs) e := by cases e <;> rfl
theorem dMulX_tup {xs : List D} {n : Nat} (h0 : xs ≠ []) (h1 : 1 ≤ n) (h2 : n ≤ 1000) (h3 : xs.length ≤ 1000) : dMulX (.tup xs) (.int (n : Int)) = some (.tup (List.replicate n xs).flatten) := by
  simp only [dMulX, dRepT, dRepT1]
  by_cases hn : n = 1
  · subst hn
    rw [if_neg (by omega), if_pos (by rfl)]
    simp
  · rw [if_pos ⟨h0, by omega, by omega, h3⟩]
    simp
theorem b_minX (hu : Un X) (hc : X.calm = true) (hm : X.mg "min" = none) (ha : PMa X Wx (e :: es) ms) (hg : Gl X "min" := by rfl) (he : starEach (e :: es) X.env = (false, eval e X.env) :: starEach es X.env := by rfl) (hpl : (backTo pos (starEach es X.env)).any (·.1) = false := by rfl) : PM X Wx (.Call (.Name "min" p) (e :: es) [] pos) (mCall dMinX ms) := pm_callB (cr_minX hu hc) calls_minX hg hm boot_min ha (by decide) (by decide) he hpl
theorem b_anyX (hc : X.calm = true) (hm : X.mg "any" = none) (ha : PMa X Wx (e :: es) ms) (hg : Gl X "any" := by rfl) (he : starEach (e :: es) X.env = (false, eval e X.env) :: starEach es X.env := by rfl) (hpl : (backTo pos (starEach es X.env)).any (·.1) = false := by rfl) : PM X Wx (.Call (.Name "any" p) (e :: es) [] pos) (mCall dAnyX ms) := pm_callB (cr_anyX hc) calls_anyX hg hm boot_any ha (by decide) (by decide) he hpl
end
end PF

namespace HeadT
open PySem PySem.Spec PyProof.Rows L2
def top (i : Nat) : Stmt := PySem.Challenge.pw_wholegrids_k41_whole_ends_rims_and_round.main.body.getD i (.Pass ⟨0, 0, 0, 0⟩)
abbrev s_is_integer : Stmt := top 12
def d_is_integer : He.DefD := ⟨("is_integer", none), "is_integer", "is_integer", defArgs s_is_integer, defBody s_is_integer, defScope s_is_integer, [], []⟩
abbrev s_is_within : Stmt := top 13
def d_is_within : He.DefD := ⟨("is_within", none), "is_within", "is_within", defArgs s_is_within, defBody s_is_within, defScope s_is_within, [], []⟩
abbrev s_is_list : Stmt := top 14
def d_is_list : He.DefD := ⟨("is_list", none), "is_list", "is_list", defArgs s_is_list, defBody s_is_list, defScope s_is_list, [], []⟩
abbrev s_want_at_most : Stmt := top 15
def d_want_at_most : He.DefD := ⟨("want_at_most", none), "want_at_most", "want_at_most", defArgs s_want_at_most, defBody s_want_at_most, defScope s_want_at_most, [], []⟩
abbrev s_is_row_of : Stmt := top 21
def d_is_row_of : He.DefD := ⟨("is_row_of", none), "is_row_of", "is_row_of", defArgs s_is_row_of, defBody s_is_row_of, defScope s_is_row_of, [], []⟩
abbrev s_is_table_of : Stmt := top 22
def d_is_table_of : He.DefD := ⟨("is_table_of", none), "is_table_of", "is_table_of", defArgs s_is_table_of, defBody s_is_table_of, defScope s_is_table_of, [], []⟩
abbrev s_check_table : Stmt := top 23
def d_check_table : He.DefD := ⟨("check_table", none), "check_table", "check_table", defArgs s_check_table, defBody s_check_table, defScope s_check_table, [], []⟩
abbrev s_is_vector_of : Stmt := top 24
def d_is_vector_of : He.DefD := ⟨("is_vector_of", none), "is_vector_of", "is_vector_of", defArgs s_is_vector_of, defBody s_is_vector_of, defScope s_is_vector_of, [], []⟩
abbrev s_check_vector : Stmt := top 25
def d_check_vector : He.DefD := ⟨("check_vector", none), "check_vector", "check_vector", defArgs s_check_vector, defBody s_check_vector, defScope s_check_vector, [], []⟩
abbrev s_product_of : Stmt := top 26
def d_product_of : He.DefD := ⟨("product_of", none), "product_of", "product_of", defArgs s_product_of, defBody s_product_of, defScope s_product_of, [], []⟩
abbrev s_turned_of : Stmt := top 27
def d_turned_of : He.DefD := ⟨("turned_of", none), "turned_of", "turned_of", defArgs s_turned_of, defBody s_turned_of, defScope s_turned_of, [], []⟩
abbrev s_times_of : Stmt := top 28
def d_times_of : He.DefD := ⟨("times_of", none), "times_of", "times_of", defArgs s_times_of, defBody s_times_of, defScope s_times_of, [], []⟩
abbrev s_combined_of : Stmt := top 29
def d_combined_of : He.DefD := ⟨("combined_of", none), "combined_of", "combined_of", defArgs s_combined_of, defBody s_combined_of, defScope s_combined_of, [], []⟩
abbrev s_small : Stmt := top 30
def d_small : He.DefD := ⟨("small", none), "small", "small", defArgs s_small, defBody s_small, defScope s_small, [], []⟩
abbrev s_turned : Stmt := top 31
def d_turned : He.DefD := ⟨("turned", none), "turned", "turned", defArgs s_turned, defBody s_turned, defScope s_turned, [], []⟩
abbrev s_combined : Stmt := top 32
def d_combined : He.DefD := ⟨("combined", none), "combined", "combined", defArgs s_combined, defBody s_combined, defScope s_combined, [], []⟩
abbrev s_times_table : Stmt := top 33
def d_times_table : He.DefD := ⟨("times_table", none), "times_table", "times_table", defArgs s_times_table, defBody s_times_table, defScope s_times_table, [], []⟩
abbrev s_are_integers_of : Stmt := top 35
def d_are_integers_of : He.DefD := ⟨("are_integers_of", none), "are_integers_of", "are_integers_of", defArgs s_are_integers_of, defBody s_are_integers_of, defScope s_are_integers_of, [], []⟩
abbrev s_is_chain_of : Stmt := top 37
def d_is_chain_of : He.DefD := ⟨("is_chain_of", none), "is_chain_of", "is_chain_of", defArgs s_is_chain_of, defBody s_is_chain_of, defScope s_is_chain_of, [], []⟩
abbrev s_check_chain : Stmt := top 38
def d_check_chain : He.DefD := ⟨("check_chain", none), "check_chain", "check_chain", defArgs s_check_chain, defBody s_check_chain, defScope s_check_chain, [], []⟩
abbrev s_check_lines : Stmt := top 39
def d_check_lines : He.DefD := ⟨("check_lines", none), "check_lines", "check_lines", defArgs s_check_lines, defBody s_check_lines, defScope s_check_lines, [], []⟩
abbrev s_is_round_of : Stmt := top 40
def d_is_round_of : He.DefD := ⟨("is_round_of", none), "is_round_of", "is_round_of", defArgs s_is_round_of, defBody s_is_round_of, defScope s_is_round_of, [], []⟩
abbrev s_is_chain : Stmt := top 41
def d_is_chain : He.DefD := ⟨("is_chain", none), "is_chain", "is_chain", defArgs s_is_chain, defBody s_is_chain, defScope s_is_chain, [], []⟩
abbrev s_ends_of : Stmt := top 42
def d_ends_of : He.DefD := ⟨("ends_of", none), "ends_of", "ends_of", defArgs s_ends_of, defBody s_ends_of, defScope s_ends_of, [], []⟩
abbrev s_rim : Stmt := top 43
def d_rim : He.DefD := ⟨("rim", none), "rim", "rim", defArgs s_rim, defBody s_rim, defScope s_rim, [], []⟩
abbrev s_is_round : Stmt := top 44
def d_is_round : He.DefD := ⟨("is_round", none), "is_round", "is_round", defArgs s_is_round, defBody s_is_round, defScope s_is_round, [], []⟩
abbrev s_turned_chain : Stmt := top 45
def d_turned_chain : He.DefD := ⟨("turned_chain", none), "turned_chain", "turned_chain", defArgs s_turned_chain, defBody s_turned_chain, defScope s_turned_chain, [], []⟩
abbrev s__law_pot : Stmt := top 47
def d__law_pot : He.DefD := ⟨("_law_pot", none), "_law_pot", "_law_pot", defArgs s__law_pot, defBody s__law_pot, defScope s__law_pot, [], []⟩
abbrev s__law_draw : Stmt := top 48
def d__law_draw : He.DefD := ⟨("_law_draw", none), "_law_draw", "_law_draw", defArgs s__law_draw, defBody s__law_draw, defScope s__law_draw, [], []⟩
abbrev s__law_product : Stmt := top 49
def d__law_product : He.DefD := ⟨("_law_product", none), "_law_product", "_law_product", defArgs s__law_product, defBody s__law_product, defScope s__law_product, [], []⟩
abbrev s__law_turned : Stmt := top 50
def d__law_turned : He.DefD := ⟨("_law_turned", none), "_law_turned", "_law_turned", defArgs s__law_turned, defBody s__law_turned, defScope s__law_turned, [], []⟩
abbrev s__law_combined : Stmt := top 51
def d__law_combined : He.DefD := ⟨("_law_combined", none), "_law_combined", "_law_combined", defArgs s__law_combined, defBody s__law_combined, defScope s__law_combined, [], []⟩
abbrev s__law_led : Stmt := top 52
def d__law_led : He.DefD := ⟨("_law_led", none), "_law_led", "_law_led", defArgs s__law_led, defBody s__law_led, defScope s__law_led, [], []⟩
abbrev s__law_kernel : Stmt := top 53
def d__law_kernel : He.DefD := ⟨("_law_kernel", none), "_law_kernel", "_law_kernel", defArgs s__law_kernel, defBody s__law_kernel, defScope s__law_kernel, [], []⟩
abbrev s__law_chain : Stmt := top 54
def d__law_chain : He.DefD := ⟨("_law_chain", none), "_law_chain", "_law_chain", defArgs s__law_chain, defBody s__law_chain, defScope s__law_chain, [], []⟩
abbrev s__law_round : Stmt := top 55
def d__law_round : He.DefD := ⟨("_law_round", none), "_law_round", "_law_round", defArgs s__law_round, defBody s__law_round, defScope s__law_round, [], []⟩
abbrev s__law_right : Stmt := top 56
def d__law_right : He.DefD := ⟨("_law_right", none), "_law_right", "_law_right", defArgs s__law_right, defBody s__law_right, defScope s__law_right, [], []⟩
abbrev s_law : Stmt := top 57
def d_law : He.DefD := ⟨("law", none), "law", "law", defArgs s_law, defBody s_law, defScope s_law, [], []⟩
def fn0 : List He.DefD := [d_is_integer, d_is_within, d_is_list, d_want_at_most, d_is_row_of, d_is_table_of, d_check_table, d_is_vector_of, d_check_vector, d_product_of, d_turned_of, d_times_of, d_combined_of, d_small, d_turned, d_combined, d_times_table, d_are_integers_of, d_is_chain_of, d_check_chain, d_check_lines, d_is_round_of, d_is_chain, d_ends_of, d_rim, d_is_round, d_turned_chain, d__law_pot, d__law_draw, d__law_product]
def fn1 : List He.DefD := [d__law_turned, d__law_combined, d__law_led, d__law_kernel, d__law_chain, d__law_round, d__law_right, d_law]
def fn : List He.DefD := fn0 ++ fn1
def fa0 : List He.Fa := [.glo "is_integer", .glo "is_within", .glo "is_list", .glo "want_at_most", .glo "is_row_of", .glo "is_table_of", .glo "check_table", .glo "is_vector_of", .glo "check_vector", .glo "product_of", .glo "turned_of", .glo "times_of", .glo "combined_of", .glo "small", .glo "turned", .glo "combined", .glo "times_table", .glo "are_integers_of", .glo "is_chain_of", .glo "check_chain", .glo "check_lines", .glo "is_round_of", .glo "is_chain", .glo "ends_of", .glo "rim", .glo "is_round", .glo "turned_chain", .glo "_law_pot", .glo "_law_draw", .glo "_law_product"]
def fa1 : List He.Fa := [.glo "_law_turned", .glo "_law_combined", .glo "_law_led", .glo "_law_kernel", .glo "_law_chain", .glo "_law_round", .glo "_law_right", .glo "law", .free "abs", .free "all", .free "any", .free "bool", .free "divmod", .free "enumerate", .free "int", .free "isinstance", .free "len", .free "list", .free "max", .free "min", .free "range", .free "repr", .free "sum", .free "tuple", .free "zip", .int "MOST_ROWS" 4, .int "MOST_COLUMNS" 4, .int "MOST_NUMBER" 99, .int "MOST_ENTRY" 999]
def fa : List He.Fa := fa0 ++ fa1
def loose0 : List Str := ["GridError", "StateError", "LimitError", "InvalidTable", "InvalidVector", "InvalidChain", "InvalidFaces", "InvalidLines", "UnlikeSizes", "TooMany", "is_integer", "is_within", "is_list", "want_at_most", "MOST_ROWS", "MOST_COLUMNS", "MOST_NUMBER", "MOST_ENTRY", "is_row_of", "is_table_of", "check_table", "is_vector_of", "check_vector", "product_of", "turned_of", "times_of", "combined_of", "small", "turned", "combined"]
def loose1 : List Str := ["times_table", "are_integers_of", "is_chain_of", "check_chain", "check_lines", "is_round_of", "is_chain", "ends_of", "rim", "is_round", "turned_chain", "_law_pot", "_law_draw", "_law_product", "_law_turned", "_law_combined", "_law_led", "_law_kernel", "_law_chain", "_law_round", "_law_right"]
def loose : List Str := loose0 ++ loose1
abbrev R : PySem.W.OpenRow := PySem.W.OpenLaw.row PySem.Challenge.rw_wholegrids_k41_whole_ends_rims_and_round
abbrev hk : PySem.W.Hook := He.hookD 4 fa fn
def ob (s : PySem.W.SharedT) : He.AlD := He.obsDG 4 fa fn (HandSHeadRun.getT s)
theorem ob_eq (s : PySem.W.SharedT) : ob s = hk.obs s.abs := He.obsDG_eq (HandSHeadRun.getT_eq s)
theorem run (w : World) : HandSHeadRun.RunEq R (PySem.W.view R.prog [57]) hk ob 4000 loose w := by
  intro os
  kernel_rfl
end HeadT

namespace PF
open PySem PySem.Spec PyProof.Rows L2
def FUEL : Nat := 2 ^ 80
/-- is_integer: slots 0 value -/
def N_is_integer : List Str := ["value"]
def ps_is_integer : List Str := ["value"]
def c_is_integer : C := cret (mAndV (mIsi .int (rd 0)) (mNotV (mIsi .bool (rd 0))))
def F_is_integer : Fn := fres 1 1 c_is_integer
theorem en_is_integer (a0 : D) (p : Pst) : F_is_integer [a0] p = sres (c_is_integer [some (.val a0)] p) := rfl
theorem ip_is_integer : IF F_is_integer := if_fres _ _ (by
  unfold c_is_integer
  repeat' first | with_reducible apply im_ret | with_reducible apply im_rd | with_reducible apply im_op | with_reducible apply im_cmp | with_reducible apply im_b | with_reducible apply im_cons | with_reducible apply ic_seq | with_reducible apply ic_if | with_reducible apply ic_ret | with_reducible apply ic_reto | with_reducible apply ic_retown | with_reducible apply ic_asg | with_reducible apply ic_aso | with_reducible apply ic_frz | with_reducible apply ic_asgW | with_reducible apply ic_app | with_reducible apply ic_pop | with_reducible apply ic_expr | with_reducible apply ic_skip | with_reducible apply ic_stuck | with_reducible apply ic_brk | with_reducible apply ic_cnt | with_reducible apply ic_retN | with_reducible apply ic_for | with_reducible apply ic_while | with_reducible apply it_name | with_reducible apply it_tup | with_reducible apply it_cons | with_reducible apply it_nil | with_reducible apply im_fn | with_reducible apply im_fno | with_reducible apply im_lc | with_reducible apply im_yes | with_reducible apply im_and | with_reducible apply im_or | with_reducible apply im_not | with_reducible apply im_if | with_reducible apply im_frz | with_reducible apply im_lim | with_reducible apply im_tup | with_reducible apply im_call | with_reducible apply im_lst | with_reducible apply im_isi | with_reducible apply im_isis | with_reducible apply im_isN | with_reducible apply im_notN | with_reducible apply im_chain | with_reducible apply im_seq | with_reducible apply im_range1 | with_reducible apply im_range2 | with_reducible apply im_enum | with_reducible apply im_zip | with_reducible apply im_t | with_reducible apply im_notV | with_reducible apply im_andV | with_reducible apply im_orV | with_reducible apply im_part | with_reducible apply im_sl | with_reducible apply im_slo | with_reducible apply im_rev | with_reducible apply im_uV | with_reducible apply im_uO | with_reducible apply im_un | with_reducible apply im_opo | with_reducible apply im_ixO | with_reducible apply im_scal | with_reducible apply im_scalt | with_reducible apply im_index | with_reducible apply im_lrg1 | with_reducible apply im_lrg2 | with_reducible apply ic_ext | with_reducible apply ic_asgT | with_reducible apply it_subO | with_reducible apply im_fnO | with_reducible apply im_fnOo | with_reducible apply im_zipS | with_reducible apply im_zipR | with_reducible apply im_rev2 | with_reducible apply im_revD | with_reducible apply im_enumS | with_reducible apply im_zipS3 | with_reducible apply im_enumZ)
/-- is_within: slots 0 value, 1 least, 2 most -/
def N_is_within : List Str := ["value", "least", "most"]
def ps_is_within : List Str := ["value", "least", "most"]
def c_is_within : C := cret (mAndV (mFn F_is_integer 1 0 [0] (mcons (rd 0) (mret [])) (mret [])) (mB (mChain iLe iLe (rd 1) (rd 0) (rd 2))))
def F_is_within : Fn := fres 3 3 c_is_within
theorem en_is_within (a0 a1 a2 : D) (p : Pst) : F_is_within [a0, a1, a2] p = sres (c_is_within [some (.val a0), some (.val a1), some (.val a2)] p) := rfl
theorem ip_is_within : IF F_is_within := if_fres _ _ (by
  unfold c_is_within
  repeat' first | exact ip_is_integer | with_reducible apply im_ret | with_reducible apply im_rd | with_reducible apply im_op | with_reducible apply im_cmp | with_reducible apply im_b | with_reducible apply im_cons | with_reducible apply ic_seq | with_reducible apply ic_if | with_reducible apply ic_ret | with_reducible apply ic_reto | with_reducible apply ic_retown | with_reducible apply ic_asg | with_reducible apply ic_aso | with_reducible apply ic_frz | with_reducible apply ic_asgW | with_reducible apply ic_app | with_reducible apply ic_pop | with_reducible apply ic_expr | with_reducible apply ic_skip | with_reducible apply ic_stuck | with_reducible apply ic_brk | with_reducible apply ic_cnt | with_reducible apply ic_retN | with_reducible apply ic_for | with_reducible apply ic_while | with_reducible apply it_name | with_reducible apply it_tup | with_reducible apply it_cons | with_reducible apply it_nil | with_reducible apply im_fn | with_reducible apply im_fno | with_reducible apply im_lc | with_reducible apply im_yes | with_reducible apply im_and | with_reducible apply im_or | with_reducible apply im_not | with_reducible apply im_if | with_reducible apply im_frz | with_reducible apply im_lim | with_reducible apply im_tup | with_reducible apply im_call | with_reducible apply im_lst | with_reducible apply im_isi | with_reducible apply im_isis | with_reducible apply im_isN | with_reducible apply im_notN | with_reducible apply im_chain | with_reducible apply im_seq | with_reducible apply im_range1 | with_reducible apply im_range2 | with_reducible apply im_enum | with_reducible apply im_zip | with_reducible apply im_t | with_reducible apply im_notV | with_reducible apply im_andV | with_reducible apply im_orV | with_reducible apply im_part | with_reducible apply im_sl | with_reducible apply im_slo | with_reducible apply im_rev | with_reducible apply im_uV | with_reducible apply im_uO | with_reducible apply im_un | with_reducible apply im_opo | with_reducible apply im_ixO | with_reducible apply im_scal | with_reducible apply im_scalt | with_reducible apply im_index | with_reducible apply im_lrg1 | with_reducible apply im_lrg2 | with_reducible apply ic_ext | with_reducible apply ic_asgT | with_reducible apply it_subO | with_reducible apply im_fnO | with_reducible apply im_fnOo | with_reducible apply im_zipS | with_reducible apply im_zipR | with_reducible apply im_rev2 | with_reducible apply im_revD | with_reducible apply im_enumS | with_reducible apply im_zipS3 | with_reducible apply im_enumZ)
/-- is_list: slots 0 value -/
def N_is_list : List Str := ["value"]
def ps_is_list : List Str := ["value"]
def c_is_list : C := cret (mIsis [.list, .tuple] (rd 0))
def F_is_list : Fn := fres 1 1 c_is_list
theorem en_is_list (a0 : D) (p : Pst) : F_is_list [a0] p = sres (c_is_list [some (.val a0)] p) := rfl
theorem ip_is_list : IF F_is_list := if_fres _ _ (by
  unfold c_is_list
  repeat' first | with_reducible apply im_ret | with_reducible apply im_rd | with_reducible apply im_op | with_reducible apply im_cmp | with_reducible apply im_b | with_reducible apply im_cons | with_reducible apply ic_seq | with_reducible apply ic_if | with_reducible apply ic_ret | with_reducible apply ic_reto | with_reducible apply ic_retown | with_reducible apply ic_asg | with_reducible apply ic_aso | with_reducible apply ic_frz | with_reducible apply ic_asgW | with_reducible apply ic_app | with_reducible apply ic_pop | with_reducible apply ic_expr | with_reducible apply ic_skip | with_reducible apply ic_stuck | with_reducible apply ic_brk | with_reducible apply ic_cnt | with_reducible apply ic_retN | with_reducible apply ic_for | with_reducible apply ic_while | with_reducible apply it_name | with_reducible apply it_tup | with_reducible apply it_cons | with_reducible apply it_nil | with_reducible apply im_fn | with_reducible apply im_fno | with_reducible apply im_lc | with_reducible apply im_yes | with_reducible apply im_and | with_reducible apply im_or | with_reducible apply im_not | with_reducible apply im_if | with_reducible apply im_frz | with_reducible apply im_lim | with_reducible apply im_tup | with_reducible apply im_call | with_reducible apply im_lst | with_reducible apply im_isi | with_reducible apply im_isis | with_reducible apply im_isN | with_reducible apply im_notN | with_reducible apply im_chain | with_reducible apply im_seq | with_reducible apply im_range1 | with_reducible apply im_range2 | with_reducible apply im_enum | with_reducible apply im_zip | with_reducible apply im_t | with_reducible apply im_notV | with_reducible apply im_andV | with_reducible apply im_orV | with_reducible apply im_part | with_reducible apply im_sl | with_reducible apply im_slo | with_reducible apply im_rev | with_reducible apply im_uV | with_reducible apply im_uO | with_reducible apply im_un | with_reducible apply im_opo | with_reducible apply im_ixO | with_reducible apply im_scal | with_reducible apply im_scalt | with_reducible apply im_index | with_reducible apply im_lrg1 | with_reducible apply im_lrg2 | with_reducible apply ic_ext | with_reducible apply ic_asgT | with_reducible apply it_subO | with_reducible apply im_fnO | with_reducible apply im_fnOo | with_reducible apply im_zipS | with_reducible apply im_zipR | with_reducible apply im_rev2 | with_reducible apply im_revD | with_reducible apply im_enumS | with_reducible apply im_zipS3 | with_reducible apply im_enumZ)
/-- want_at_most: slots 0 what, 1 limit, 2 number -/
def N_want_at_most : List Str := ["what", "limit", "number"]
def ps_want_at_most : List Str := ["what", "limit", "number"]
def c_want_at_most : C := cif (mCmp dGt (rd 2) (rd 1)) (cstuck) (cskip)
def F_want_at_most : Fn := fres 3 3 c_want_at_most
theorem en_want_at_most (a0 a1 a2 : D) (p : Pst) : F_want_at_most [a0, a1, a2] p = sres (c_want_at_most [some (.val a0), some (.val a1), some (.val a2)] p) := rfl
theorem ip_want_at_most : IF F_want_at_most := if_fres _ _ (by
  unfold c_want_at_most
  repeat' first | with_reducible apply im_ret | with_reducible apply im_rd | with_reducible apply im_op | with_reducible apply im_cmp | with_reducible apply im_b | with_reducible apply im_cons | with_reducible apply ic_seq | with_reducible apply ic_if | with_reducible apply ic_ret | with_reducible apply ic_reto | with_reducible apply ic_retown | with_reducible apply ic_asg | with_reducible apply ic_aso | with_reducible apply ic_frz | with_reducible apply ic_asgW | with_reducible apply ic_app | with_reducible apply ic_pop | with_reducible apply ic_expr | with_reducible apply ic_skip | with_reducible apply ic_stuck | with_reducible apply ic_brk | with_reducible apply ic_cnt | with_reducible apply ic_retN | with_reducible apply ic_for | with_reducible apply ic_while | with_reducible apply it_name | with_reducible apply it_tup | with_reducible apply it_cons | with_reducible apply it_nil | with_reducible apply im_fn | with_reducible apply im_fno | with_reducible apply im_lc | with_reducible apply im_yes | with_reducible apply im_and | with_reducible apply im_or | with_reducible apply im_not | with_reducible apply im_if | with_reducible apply im_frz | with_reducible apply im_lim | with_reducible apply im_tup | with_reducible apply im_call | with_reducible apply im_lst | with_reducible apply im_isi | with_reducible apply im_isis | with_reducible apply im_isN | with_reducible apply im_notN | with_reducible apply im_chain | with_reducible apply im_seq | with_reducible apply im_range1 | with_reducible apply im_range2 | with_reducible apply im_enum | with_reducible apply im_zip | with_reducible apply im_t | with_reducible apply im_notV | with_reducible apply im_andV | with_reducible apply im_orV | with_reducible apply im_part | with_reducible apply im_sl | with_reducible apply im_slo | with_reducible apply im_rev | with_reducible apply im_uV | with_reducible apply im_uO | with_reducible apply im_un | with_reducible apply im_opo | with_reducible apply im_ixO | with_reducible apply im_scal | with_reducible apply im_scalt | with_reducible apply im_index | with_reducible apply im_lrg1 | with_reducible apply im_lrg2 | with_reducible apply ic_ext | with_reducible apply ic_asgT | with_reducible apply it_subO | with_reducible apply im_fnO | with_reducible apply im_fnOo | with_reducible apply im_zipS | with_reducible apply im_zipR | with_reducible apply im_rev2 | with_reducible apply im_revD | with_reducible apply im_enumS | with_reducible apply im_zipS3 | with_reducible apply im_enumZ)
/-- is_row_of: slots 0 value, 1 one -/
def N_is_row_of : List Str := ["value", "one"]
def ps_is_row_of : List Str := ["value"]
def m_is_row_of_1 : M (List D) := mLc [1] (mSeq (rd 0)) (fName 1) (mYes) (mFn F_is_within 3 0 [0, 1, 2] (mcons (rd 1) (mcons (mOp dSub (mret (.int 0)) (mret (.int 99))) (mcons (mret (.int 99)) (mret [])))) (mret []))
def c_is_row_of : C := cseq (cif (mOr (mNot (mT (mIsi .tuple (rd 0)))) (mNot (mChain iLe iLe (mret (.int 1)) (mCall dLen (mcons (rd 0) (mret []))) (mret (.int 4))))) (cret (mret (.bl false))) (cskip)) (cret (mCall dAll (mcons (mfrz (m_is_row_of_1)) (mret []))))
def F_is_row_of : Fn := fres 2 1 c_is_row_of
theorem en_is_row_of (a0 : D) (p : Pst) : F_is_row_of [a0] p = sres (c_is_row_of [some (.val a0), none] p) := rfl
theorem ip_is_row_of : IF F_is_row_of := if_fres _ _ (by
  unfold c_is_row_of
  try unfold m_is_row_of_1
  repeat' first | exact ip_is_within | with_reducible apply im_ret | with_reducible apply im_rd | with_reducible apply im_op | with_reducible apply im_cmp | with_reducible apply im_b | with_reducible apply im_cons | with_reducible apply ic_seq | with_reducible apply ic_if | with_reducible apply ic_ret | with_reducible apply ic_reto | with_reducible apply ic_retown | with_reducible apply ic_asg | with_reducible apply ic_aso | with_reducible apply ic_frz | with_reducible apply ic_asgW | with_reducible apply ic_app | with_reducible apply ic_pop | with_reducible apply ic_expr | with_reducible apply ic_skip | with_reducible apply ic_stuck | with_reducible apply ic_brk | with_reducible apply ic_cnt | with_reducible apply ic_retN | with_reducible apply ic_for | with_reducible apply ic_while | with_reducible apply it_name | with_reducible apply it_tup | with_reducible apply it_cons | with_reducible apply it_nil | with_reducible apply im_fn | with_reducible apply im_fno | with_reducible apply im_lc | with_reducible apply im_yes | with_reducible apply im_and | with_reducible apply im_or | with_reducible apply im_not | with_reducible apply im_if | with_reducible apply im_frz | with_reducible apply im_lim | with_reducible apply im_tup | with_reducible apply im_call | with_reducible apply im_lst | with_reducible apply im_isi | with_reducible apply im_isis | with_reducible apply im_isN | with_reducible apply im_notN | with_reducible apply im_chain | with_reducible apply im_seq | with_reducible apply im_range1 | with_reducible apply im_range2 | with_reducible apply im_enum | with_reducible apply im_zip | with_reducible apply im_t | with_reducible apply im_notV | with_reducible apply im_andV | with_reducible apply im_orV | with_reducible apply im_part | with_reducible apply im_sl | with_reducible apply im_slo | with_reducible apply im_rev | with_reducible apply im_uV | with_reducible apply im_uO | with_reducible apply im_un | with_reducible apply im_opo | with_reducible apply im_ixO | with_reducible apply im_scal | with_reducible apply im_scalt | with_reducible apply im_index | with_reducible apply im_lrg1 | with_reducible apply im_lrg2 | with_reducible apply ic_ext | with_reducible apply ic_asgT | with_reducible apply it_subO | with_reducible apply im_fnO | with_reducible apply im_fnOo | with_reducible apply im_zipS | with_reducible apply im_zipR | with_reducible apply im_rev2 | with_reducible apply im_revD | with_reducible apply im_enumS | with_reducible apply im_zipS3 | with_reducible apply im_enumZ)
/-- is_table_of: slots 0 value, 1 row -/
def N_is_table_of : List Str := ["value", "row"]
def ps_is_table_of : List Str := ["value"]
def m_is_table_of_1 : M (List D) := mLc [1] (mSeq (rd 0)) (fName 1) (mYes) (mFn F_is_row_of 1 0 [0] (mcons (rd 1) (mret [])) (mret []))
def m_is_table_of_2 : M (List D) := mLc [1] (mSeq (rd 0)) (fName 1) (mYes) (mB (mCmp dEq (mCall dLen (mcons (rd 1) (mret []))) (mCall dLen (mcons (mOp dIx (rd 0) (mret (.int 0))) (mret [])))))
def c_is_table_of : C := cseq (cif (mOr (mNot (mT (mFn F_is_list 1 0 [0] (mcons (rd 0) (mret [])) (mret [])))) (mOr (mNot (mChain iLe iLe (mret (.int 1)) (mCall dLen (mcons (rd 0) (mret []))) (mret (.int 4)))) (mNot (mT (mCall dAll (mcons (mfrz (m_is_table_of_1)) (mret []))))))) (cret (mret (.bl false))) (cskip)) (cret (mCall dAll (mcons (mfrz (m_is_table_of_2)) (mret []))))
def F_is_table_of : Fn := fres 2 1 c_is_table_of
theorem en_is_table_of (a0 : D) (p : Pst) : F_is_table_of [a0] p = sres (c_is_table_of [some (.val a0), none] p) := rfl
theorem ip_is_table_of : IF F_is_table_of := if_fres _ _ (by
  unfold c_is_table_of
  try unfold m_is_table_of_2
  try unfold m_is_table_of_1
  repeat' first | exact ip_is_list | exact ip_is_row_of | with_reducible apply im_ret | with_reducible apply im_rd | with_reducible apply im_op | with_reducible apply im_cmp | with_reducible apply im_b | with_reducible apply im_cons | with_reducible apply ic_seq | with_reducible apply ic_if | with_reducible apply ic_ret | with_reducible apply ic_reto | with_reducible apply ic_retown | with_reducible apply ic_asg | with_reducible apply ic_aso | with_reducible apply ic_frz | with_reducible apply ic_asgW | with_reducible apply ic_app | with_reducible apply ic_pop | with_reducible apply ic_expr | with_reducible apply ic_skip | with_reducible apply ic_stuck | with_reducible apply ic_brk | with_reducible apply ic_cnt | with_reducible apply ic_retN | with_reducible apply ic_for | with_reducible apply ic_while | with_reducible apply it_name | with_reducible apply it_tup | with_reducible apply it_cons | with_reducible apply it_nil | with_reducible apply im_fn | with_reducible apply im_fno | with_reducible apply im_lc | with_reducible apply im_yes | with_reducible apply im_and | with_reducible apply im_or | with_reducible apply im_not | with_reducible apply im_if | with_reducible apply im_frz | with_reducible apply im_lim | with_reducible apply im_tup | with_reducible apply im_call | with_reducible apply im_lst | with_reducible apply im_isi | with_reducible apply im_isis | with_reducible apply im_isN | with_reducible apply im_notN | with_reducible apply im_chain | with_reducible apply im_seq | with_reducible apply im_range1 | with_reducible apply im_range2 | with_reducible apply im_enum | with_reducible apply im_zip | with_reducible apply im_t | with_reducible apply im_notV | with_reducible apply im_andV | with_reducible apply im_orV | with_reducible apply im_part | with_reducible apply im_sl | with_reducible apply im_slo | with_reducible apply im_rev | with_reducible apply im_uV | with_reducible apply im_uO | with_reducible apply im_un | with_reducible apply im_opo | with_reducible apply im_ixO | with_reducible apply im_scal | with_reducible apply im_scalt | with_reducible apply im_index | with_reducible apply im_lrg1 | with_reducible apply im_lrg2 | with_reducible apply ic_ext | with_reducible apply ic_asgT | with_reducible apply it_subO | with_reducible apply im_fnO | with_reducible apply im_fnOo | with_reducible apply im_zipS | with_reducible apply im_zipR | with_reducible apply im_rev2 | with_reducible apply im_revD | with_reducible apply im_enumS | with_reducible apply im_zipS3 | with_reducible apply im_enumZ)
/-- check_table: slots 0 value -/
def N_check_table : List Str := ["value"]
def ps_check_table : List Str := ["value"]
def c_check_table : C := cif (mNot (mT (mFn F_is_table_of 1 0 [0] (mcons (rd 0) (mret [])) (mret [])))) (cstuck) (cskip)
def F_check_table : Fn := fres 1 1 c_check_table
theorem en_check_table (a0 : D) (p : Pst) : F_check_table [a0] p = sres (c_check_table [some (.val a0)] p) := rfl
theorem ip_check_table : IF F_check_table := if_fres _ _ (by
  unfold c_check_table
  repeat' first | exact ip_is_table_of | with_reducible apply im_ret | with_reducible apply im_rd | with_reducible apply im_op | with_reducible apply im_cmp | with_reducible apply im_b | with_reducible apply im_cons | with_reducible apply ic_seq | with_reducible apply ic_if | with_reducible apply ic_ret | with_reducible apply ic_reto | with_reducible apply ic_retown | with_reducible apply ic_asg | with_reducible apply ic_aso | with_reducible apply ic_frz | with_reducible apply ic_asgW | with_reducible apply ic_app | with_reducible apply ic_pop | with_reducible apply ic_expr | with_reducible apply ic_skip | with_reducible apply ic_stuck | with_reducible apply ic_brk | with_reducible apply ic_cnt | with_reducible apply ic_retN | with_reducible apply ic_for | with_reducible apply ic_while | with_reducible apply it_name | with_reducible apply it_tup | with_reducible apply it_cons | with_reducible apply it_nil | with_reducible apply im_fn | with_reducible apply im_fno | with_reducible apply im_lc | with_reducible apply im_yes | with_reducible apply im_and | with_reducible apply im_or | with_reducible apply im_not | with_reducible apply im_if | with_reducible apply im_frz | with_reducible apply im_lim | with_reducible apply im_tup | with_reducible apply im_call | with_reducible apply im_lst | with_reducible apply im_isi | with_reducible apply im_isis | with_reducible apply im_isN | with_reducible apply im_notN | with_reducible apply im_chain | with_reducible apply im_seq | with_reducible apply im_range1 | with_reducible apply im_range2 | with_reducible apply im_enum | with_reducible apply im_zip | with_reducible apply im_t | with_reducible apply im_notV | with_reducible apply im_andV | with_reducible apply im_orV | with_reducible apply im_part | with_reducible apply im_sl | with_reducible apply im_slo | with_reducible apply im_rev | with_reducible apply im_uV | with_reducible apply im_uO | with_reducible apply im_un | with_reducible apply im_opo | with_reducible apply im_ixO | with_reducible apply im_scal | with_reducible apply im_scalt | with_reducible apply im_index | with_reducible apply im_lrg1 | with_reducible apply im_lrg2 | with_reducible apply ic_ext | with_reducible apply ic_asgT | with_reducible apply it_subO | with_reducible apply im_fnO | with_reducible apply im_fnOo | with_reducible apply im_zipS | with_reducible apply im_zipR | with_reducible apply im_rev2 | with_reducible apply im_revD | with_reducible apply im_enumS | with_reducible apply im_zipS3 | with_reducible apply im_enumZ)
/-- is_vector_of: slots 0 value, 1 one -/
def N_is_vector_of : List Str := ["value", "one"]
def ps_is_vector_of : List Str := ["value"]
def m_is_vector_of_1 : M (List D) := mLc [1] (mSeq (rd 0)) (fName 1) (mYes) (mFn F_is_within 3 0 [0, 1, 2] (mcons (rd 1) (mcons (mOp dSub (mret (.int 0)) (mret (.int 999))) (mcons (mret (.int 999)) (mret [])))) (mret []))
def c_is_vector_of : C := cseq (cif (mOr (mNot (mT (mIsi .tuple (rd 0)))) (mNot (mChain iLe iLe (mret (.int 1)) (mCall dLen (mcons (rd 0) (mret []))) (mret (.int 4))))) (cret (mret (.bl false))) (cskip)) (cret (mCall dAll (mcons (mfrz (m_is_vector_of_1)) (mret []))))
def F_is_vector_of : Fn := fres 2 1 c_is_vector_of
theorem en_is_vector_of (a0 : D) (p : Pst) : F_is_vector_of [a0] p = sres (c_is_vector_of [some (.val a0), none] p) := rfl
theorem ip_is_vector_of : IF F_is_vector_of := if_fres _ _ (by
  unfold c_is_vector_of
  try unfold m_is_vector_of_1
  repeat' first | exact ip_is_within | with_reducible apply im_ret | with_reducible apply im_rd | with_reducible apply im_op | with_reducible apply im_cmp | with_reducible apply im_b | with_reducible apply im_cons | with_reducible apply ic_seq | with_reducible apply ic_if | with_reducible apply ic_ret | with_reducible apply ic_reto | with_reducible apply ic_retown | with_reducible apply ic_asg | with_reducible apply ic_aso | with_reducible apply ic_frz | with_reducible apply ic_asgW | with_reducible apply ic_app | with_reducible apply ic_pop | with_reducible apply ic_expr | with_reducible apply ic_skip | with_reducible apply ic_stuck | with_reducible apply ic_brk | with_reducible apply ic_cnt | with_reducible apply ic_retN | with_reducible apply ic_for | with_reducible apply ic_while | with_reducible apply it_name | with_reducible apply it_tup | with_reducible apply it_cons | with_reducible apply it_nil | with_reducible apply im_fn | with_reducible apply im_fno | with_reducible apply im_lc | with_reducible apply im_yes | with_reducible apply im_and | with_reducible apply im_or | with_reducible apply im_not | with_reducible apply im_if | with_reducible apply im_frz | with_reducible apply im_lim | with_reducible apply im_tup | with_reducible apply im_call | with_reducible apply im_lst | with_reducible apply im_isi | with_reducible apply im_isis | with_reducible apply im_isN | with_reducible apply im_notN | with_reducible apply im_chain | with_reducible apply im_seq | with_reducible apply im_range1 | with_reducible apply im_range2 | with_reducible apply im_enum | with_reducible apply im_zip | with_reducible apply im_t | with_reducible apply im_notV | with_reducible apply im_andV | with_reducible apply im_orV | with_reducible apply im_part | with_reducible apply im_sl | with_reducible apply im_slo | with_reducible apply im_rev | with_reducible apply im_uV | with_reducible apply im_uO | with_reducible apply im_un | with_reducible apply im_opo | with_reducible apply im_ixO | with_reducible apply im_scal | with_reducible apply im_scalt | with_reducible apply im_index | with_reducible apply im_lrg1 | with_reducible apply im_lrg2 | with_reducible apply ic_ext | with_reducible apply ic_asgT | with_reducible apply it_subO | with_reducible apply im_fnO | with_reducible apply im_fnOo | with_reducible apply im_zipS | with_reducible apply im_zipR | with_reducible apply im_rev2 | with_reducible apply im_revD | with_reducible apply im_enumS | with_reducible apply im_zipS3 | with_reducible apply im_enumZ)
/-- check_vector: slots 0 value, 1 many -/
def N_check_vector : List Str := ["value", "many"]
def ps_check_vector : List Str := ["value", "many"]
def c_check_vector : C := cif (mOr (mNot (mT (mFn F_is_vector_of 1 0 [0] (mcons (rd 0) (mret [])) (mret [])))) (mCmp dNe (mCall dLen (mcons (rd 0) (mret []))) (rd 1))) (cstuck) (cskip)
def F_check_vector : Fn := fres 2 2 c_check_vector
theorem en_check_vector (a0 a1 : D) (p : Pst) : F_check_vector [a0, a1] p = sres (c_check_vector [some (.val a0), some (.val a1)] p) := rfl
theorem ip_check_vector : IF F_check_vector := if_fres _ _ (by
  unfold c_check_vector
  repeat' first | exact ip_is_vector_of | with_reducible apply im_ret | with_reducible apply im_rd | with_reducible apply im_op | with_reducible apply im_cmp | with_reducible apply im_b | with_reducible apply im_cons | with_reducible apply ic_seq | with_reducible apply ic_if | with_reducible apply ic_ret | with_reducible apply ic_reto | with_reducible apply ic_retown | with_reducible apply ic_asg | with_reducible apply ic_aso | with_reducible apply ic_frz | with_reducible apply ic_asgW | with_reducible apply ic_app | with_reducible apply ic_pop | with_reducible apply ic_expr | with_reducible apply ic_skip | with_reducible apply ic_stuck | with_reducible apply ic_brk | with_reducible apply ic_cnt | with_reducible apply ic_retN | with_reducible apply ic_for | with_reducible apply ic_while | with_reducible apply it_name | with_reducible apply it_tup | with_reducible apply it_cons | with_reducible apply it_nil | with_reducible apply im_fn | with_reducible apply im_fno | with_reducible apply im_lc | with_reducible apply im_yes | with_reducible apply im_and | with_reducible apply im_or | with_reducible apply im_not | with_reducible apply im_if | with_reducible apply im_frz | with_reducible apply im_lim | with_reducible apply im_tup | with_reducible apply im_call | with_reducible apply im_lst | with_reducible apply im_isi | with_reducible apply im_isis | with_reducible apply im_isN | with_reducible apply im_notN | with_reducible apply im_chain | with_reducible apply im_seq | with_reducible apply im_range1 | with_reducible apply im_range2 | with_reducible apply im_enum | with_reducible apply im_zip | with_reducible apply im_t | with_reducible apply im_notV | with_reducible apply im_andV | with_reducible apply im_orV | with_reducible apply im_part | with_reducible apply im_sl | with_reducible apply im_slo | with_reducible apply im_rev | with_reducible apply im_uV | with_reducible apply im_uO | with_reducible apply im_un | with_reducible apply im_opo | with_reducible apply im_ixO | with_reducible apply im_scal | with_reducible apply im_scalt | with_reducible apply im_index | with_reducible apply im_lrg1 | with_reducible apply im_lrg2 | with_reducible apply ic_ext | with_reducible apply ic_asgT | with_reducible apply it_subO | with_reducible apply im_fnO | with_reducible apply im_fnOo | with_reducible apply im_zipS | with_reducible apply im_zipR | with_reducible apply im_rev2 | with_reducible apply im_revD | with_reducible apply im_enumS | with_reducible apply im_zipS3 | with_reducible apply im_enumZ)
/-- product_of: slots 0 one, 1 late, 2 near, 3 far -/
def N_product_of : List Str := ["one", "late", "near", "far"]
def ps_product_of : List Str := ["one", "late"]
def m_product_of_1 : M (List D) := mLc [2, 3] (mZipS (mcons (rd 0) (mcons (rd 1) (mret [])))) (fTup (fCons (fName 2) (fCons (fName 3) (fNil)))) (mYes) (mOp dMulX (rd 2) (rd 3))
def c_product_of : C := cret (mCall dSum (mcons (mfrz (m_product_of_1)) (mret [])))
def F_product_of : Fn := fres 4 2 c_product_of
theorem en_product_of (a0 a1 : D) (p : Pst) : F_product_of [a0, a1] p = sres (c_product_of [some (.val a0), some (.val a1), none, none] p) := rfl
theorem ip_product_of : IF F_product_of := if_fres _ _ (by
  unfold c_product_of
  try unfold m_product_of_1
  repeat' first | with_reducible apply im_ret | with_reducible apply im_rd | with_reducible apply im_op | with_reducible apply im_cmp | with_reducible apply im_b | with_reducible apply im_cons | with_reducible apply ic_seq | with_reducible apply ic_if | with_reducible apply ic_ret | with_reducible apply ic_reto | with_reducible apply ic_retown | with_reducible apply ic_asg | with_reducible apply ic_aso | with_reducible apply ic_frz | with_reducible apply ic_asgW | with_reducible apply ic_app | with_reducible apply ic_pop | with_reducible apply ic_expr | with_reducible apply ic_skip | with_reducible apply ic_stuck | with_reducible apply ic_brk | with_reducible apply ic_cnt | with_reducible apply ic_retN | with_reducible apply ic_for | with_reducible apply ic_while | with_reducible apply it_name | with_reducible apply it_tup | with_reducible apply it_cons | with_reducible apply it_nil | with_reducible apply im_fn | with_reducible apply im_fno | with_reducible apply im_lc | with_reducible apply im_yes | with_reducible apply im_and | with_reducible apply im_or | with_reducible apply im_not | with_reducible apply im_if | with_reducible apply im_frz | with_reducible apply im_lim | with_reducible apply im_tup | with_reducible apply im_call | with_reducible apply im_lst | with_reducible apply im_isi | with_reducible apply im_isis | with_reducible apply im_isN | with_reducible apply im_notN | with_reducible apply im_chain | with_reducible apply im_seq | with_reducible apply im_range1 | with_reducible apply im_range2 | with_reducible apply im_enum | with_reducible apply im_zip | with_reducible apply im_t | with_reducible apply im_notV | with_reducible apply im_andV | with_reducible apply im_orV | with_reducible apply im_part | with_reducible apply im_sl | with_reducible apply im_slo | with_reducible apply im_rev | with_reducible apply im_uV | with_reducible apply im_uO | with_reducible apply im_un | with_reducible apply im_opo | with_reducible apply im_ixO | with_reducible apply im_scal | with_reducible apply im_scalt | with_reducible apply im_index | with_reducible apply im_lrg1 | with_reducible apply im_lrg2 | with_reducible apply ic_ext | with_reducible apply ic_asgT | with_reducible apply it_subO | with_reducible apply im_fnO | with_reducible apply im_fnOo | with_reducible apply im_zipS | with_reducible apply im_zipR | with_reducible apply im_rev2 | with_reducible apply im_revD | with_reducible apply im_enumS | with_reducible apply im_zipS3 | with_reducible apply im_enumZ)
/-- turned_of: slots 0 table, 1 column, 2 row -/
def N_turned_of : List Str := ["table", "column", "row"]
def ps_turned_of : List Str := ["table"]
def m_turned_of_1 : M (List D) := mLc [2] (mSeq (rd 0)) (fName 2) (mYes) (mOp dIx (rd 2) (rd 1))
def m_turned_of_2 : M (List D) := mLc [1] (mRange1 (mcons (mCall dLen (mcons (mOp dIx (rd 0) (mret (.int 0))) (mret []))) (mret []))) (fName 1) (mYes) (mCall dTuple (mcons (mfrz (m_turned_of_1)) (mret [])))
def c_turned_of : C := creto (m_turned_of_2)
def F_turned_of : Fn := fres 3 1 c_turned_of
theorem en_turned_of (a0 : D) (p : Pst) : F_turned_of [a0] p = sres (c_turned_of [some (.val a0), none, none] p) := rfl
theorem ip_turned_of : IF F_turned_of := if_fres _ _ (by
  unfold c_turned_of
  try unfold m_turned_of_2
  try unfold m_turned_of_1
  repeat' first | with_reducible apply im_ret | with_reducible apply im_rd | with_reducible apply im_op | with_reducible apply im_cmp | with_reducible apply im_b | with_reducible apply im_cons | with_reducible apply ic_seq | with_reducible apply ic_if | with_reducible apply ic_ret | with_reducible apply ic_reto | with_reducible apply ic_retown | with_reducible apply ic_asg | with_reducible apply ic_aso | with_reducible apply ic_frz | with_reducible apply ic_asgW | with_reducible apply ic_app | with_reducible apply ic_pop | with_reducible apply ic_expr | with_reducible apply ic_skip | with_reducible apply ic_stuck | with_reducible apply ic_brk | with_reducible apply ic_cnt | with_reducible apply ic_retN | with_reducible apply ic_for | with_reducible apply ic_while | with_reducible apply it_name | with_reducible apply it_tup | with_reducible apply it_cons | with_reducible apply it_nil | with_reducible apply im_fn | with_reducible apply im_fno | with_reducible apply im_lc | with_reducible apply im_yes | with_reducible apply im_and | with_reducible apply im_or | with_reducible apply im_not | with_reducible apply im_if | with_reducible apply im_frz | with_reducible apply im_lim | with_reducible apply im_tup | with_reducible apply im_call | with_reducible apply im_lst | with_reducible apply im_isi | with_reducible apply im_isis | with_reducible apply im_isN | with_reducible apply im_notN | with_reducible apply im_chain | with_reducible apply im_seq | with_reducible apply im_range1 | with_reducible apply im_range2 | with_reducible apply im_enum | with_reducible apply im_zip | with_reducible apply im_t | with_reducible apply im_notV | with_reducible apply im_andV | with_reducible apply im_orV | with_reducible apply im_part | with_reducible apply im_sl | with_reducible apply im_slo | with_reducible apply im_rev | with_reducible apply im_uV | with_reducible apply im_uO | with_reducible apply im_un | with_reducible apply im_opo | with_reducible apply im_ixO | with_reducible apply im_scal | with_reducible apply im_scalt | with_reducible apply im_index | with_reducible apply im_lrg1 | with_reducible apply im_lrg2 | with_reducible apply ic_ext | with_reducible apply ic_asgT | with_reducible apply it_subO | with_reducible apply im_fnO | with_reducible apply im_fnOo | with_reducible apply im_zipS | with_reducible apply im_zipR | with_reducible apply im_rev2 | with_reducible apply im_revD | with_reducible apply im_enumS | with_reducible apply im_zipS3 | with_reducible apply im_enumZ)
/-- times_of: slots 0 table, 1 vector, 2 row -/
def N_times_of : List Str := ["table", "vector", "row"]
def ps_times_of : List Str := ["table", "vector"]
def m_times_of_1 : M (List D) := mLc [2] (mSeq (rd 0)) (fName 2) (mYes) (mFn F_product_of 2 0 [0, 1] (mcons (rd 2) (mcons (rd 1) (mret []))) (mret []))
def c_times_of : C := cret (mCall dTuple (mcons (mfrz (m_times_of_1)) (mret [])))
def F_times_of : Fn := fres 3 2 c_times_of
theorem en_times_of (a0 a1 : D) (p : Pst) : F_times_of [a0, a1] p = sres (c_times_of [some (.val a0), some (.val a1), none] p) := rfl
theorem ip_times_of : IF F_times_of := if_fres _ _ (by
  unfold c_times_of
  try unfold m_times_of_1
  repeat' first | exact ip_product_of | with_reducible apply im_ret | with_reducible apply im_rd | with_reducible apply im_op | with_reducible apply im_cmp | with_reducible apply im_b | with_reducible apply im_cons | with_reducible apply ic_seq | with_reducible apply ic_if | with_reducible apply ic_ret | with_reducible apply ic_reto | with_reducible apply ic_retown | with_reducible apply ic_asg | with_reducible apply ic_aso | with_reducible apply ic_frz | with_reducible apply ic_asgW | with_reducible apply ic_app | with_reducible apply ic_pop | with_reducible apply ic_expr | with_reducible apply ic_skip | with_reducible apply ic_stuck | with_reducible apply ic_brk | with_reducible apply ic_cnt | with_reducible apply ic_retN | with_reducible apply ic_for | with_reducible apply ic_while | with_reducible apply it_name | with_reducible apply it_tup | with_reducible apply it_cons | with_reducible apply it_nil | with_reducible apply im_fn | with_reducible apply im_fno | with_reducible apply im_lc | with_reducible apply im_yes | with_reducible apply im_and | with_reducible apply im_or | with_reducible apply im_not | with_reducible apply im_if | with_reducible apply im_frz | with_reducible apply im_lim | with_reducible apply im_tup | with_reducible apply im_call | with_reducible apply im_lst | with_reducible apply im_isi | with_reducible apply im_isis | with_reducible apply im_isN | with_reducible apply im_notN | with_reducible apply im_chain | with_reducible apply im_seq | with_reducible apply im_range1 | with_reducible apply im_range2 | with_reducible apply im_enum | with_reducible apply im_zip | with_reducible apply im_t | with_reducible apply im_notV | with_reducible apply im_andV | with_reducible apply im_orV | with_reducible apply im_part | with_reducible apply im_sl | with_reducible apply im_slo | with_reducible apply im_rev | with_reducible apply im_uV | with_reducible apply im_uO | with_reducible apply im_un | with_reducible apply im_opo | with_reducible apply im_ixO | with_reducible apply im_scal | with_reducible apply im_scalt | with_reducible apply im_index | with_reducible apply im_lrg1 | with_reducible apply im_lrg2 | with_reducible apply ic_ext | with_reducible apply ic_asgT | with_reducible apply it_subO | with_reducible apply im_fnO | with_reducible apply im_fnOo | with_reducible apply im_zipS | with_reducible apply im_zipR | with_reducible apply im_rev2 | with_reducible apply im_revD | with_reducible apply im_enumS | with_reducible apply im_zipS3 | with_reducible apply im_enumZ)
/-- combined_of: slots 0 table, 1 vector -/
def N_combined_of : List Str := ["table", "vector"]
def ps_combined_of : List Str := ["table", "vector"]
def c_combined_of : C := cret (mFn F_times_of 2 0 [0, 1] (mcons (mFn F_turned_of 1 0 [0] (mcons (rd 0) (mret [])) (mret [])) (mcons (rd 1) (mret []))) (mret []))
def F_combined_of : Fn := fres 2 2 c_combined_of
theorem en_combined_of (a0 a1 : D) (p : Pst) : F_combined_of [a0, a1] p = sres (c_combined_of [some (.val a0), some (.val a1)] p) := rfl
theorem ip_combined_of : IF F_combined_of := if_fres _ _ (by
  unfold c_combined_of
  repeat' first | exact ip_times_of | exact ip_turned_of | with_reducible apply im_ret | with_reducible apply im_rd | with_reducible apply im_op | with_reducible apply im_cmp | with_reducible apply im_b | with_reducible apply im_cons | with_reducible apply ic_seq | with_reducible apply ic_if | with_reducible apply ic_ret | with_reducible apply ic_reto | with_reducible apply ic_retown | with_reducible apply ic_asg | with_reducible apply ic_aso | with_reducible apply ic_frz | with_reducible apply ic_asgW | with_reducible apply ic_app | with_reducible apply ic_pop | with_reducible apply ic_expr | with_reducible apply ic_skip | with_reducible apply ic_stuck | with_reducible apply ic_brk | with_reducible apply ic_cnt | with_reducible apply ic_retN | with_reducible apply ic_for | with_reducible apply ic_while | with_reducible apply it_name | with_reducible apply it_tup | with_reducible apply it_cons | with_reducible apply it_nil | with_reducible apply im_fn | with_reducible apply im_fno | with_reducible apply im_lc | with_reducible apply im_yes | with_reducible apply im_and | with_reducible apply im_or | with_reducible apply im_not | with_reducible apply im_if | with_reducible apply im_frz | with_reducible apply im_lim | with_reducible apply im_tup | with_reducible apply im_call | with_reducible apply im_lst | with_reducible apply im_isi | with_reducible apply im_isis | with_reducible apply im_isN | with_reducible apply im_notN | with_reducible apply im_chain | with_reducible apply im_seq | with_reducible apply im_range1 | with_reducible apply im_range2 | with_reducible apply im_enum | with_reducible apply im_zip | with_reducible apply im_t | with_reducible apply im_notV | with_reducible apply im_andV | with_reducible apply im_orV | with_reducible apply im_part | with_reducible apply im_sl | with_reducible apply im_slo | with_reducible apply im_rev | with_reducible apply im_uV | with_reducible apply im_uO | with_reducible apply im_un | with_reducible apply im_opo | with_reducible apply im_ixO | with_reducible apply im_scal | with_reducible apply im_scalt | with_reducible apply im_index | with_reducible apply im_lrg1 | with_reducible apply im_lrg2 | with_reducible apply ic_ext | with_reducible apply ic_asgT | with_reducible apply it_subO | with_reducible apply im_fnO | with_reducible apply im_fnOo | with_reducible apply im_zipS | with_reducible apply im_zipR | with_reducible apply im_rev2 | with_reducible apply im_revD | with_reducible apply im_enumS | with_reducible apply im_zipS3 | with_reducible apply im_enumZ)
/-- small: slots 0 table, 1 most, 2 row, 3 one -/
def N_small : List Str := ["table", "most", "row", "one"]
def ps_small : List Str := ["table"]
def m_small_1 : M (List D) := mLc [3] (mSeq (rd 2)) (fName 3) (mYes) (mCall dAbs (mcons (rd 3) (mret [])))
def b_small_2 : C := casg 1 (mCall dMax1 (mcons (mOp dAdd (mfrz (mlim (mcons (rd 1) (mret [])))) (mfrz (m_small_1))) (mret [])))
def c_small : C := cseq (casg 1 (mret (.int 0))) (cseq (cfor (mSeq (rd 0)) (tgName 2) (b_small_2)) (cseq (cexpr (mFn F_want_at_most 3 0 [0, 1, 2] (mcons (mret (.str "numbers")) (mcons (mret (.int 99)) (mcons (rd 1) (mret [])))) (mret []))) (cret (rd 0))))
def F_small : Fn := fres 4 1 c_small
theorem en_small (a0 : D) (p : Pst) : F_small [a0] p = sres (c_small [some (.val a0), none, none, none] p) := rfl
theorem ip_small : IF F_small := if_fres _ _ (by
  unfold c_small
  try unfold b_small_2
  try unfold m_small_1
  repeat' first | exact ip_want_at_most | with_reducible apply im_ret | with_reducible apply im_rd | with_reducible apply im_op | with_reducible apply im_cmp | with_reducible apply im_b | with_reducible apply im_cons | with_reducible apply ic_seq | with_reducible apply ic_if | with_reducible apply ic_ret | with_reducible apply ic_reto | with_reducible apply ic_retown | with_reducible apply ic_asg | with_reducible apply ic_aso | with_reducible apply ic_frz | with_reducible apply ic_asgW | with_reducible apply ic_app | with_reducible apply ic_pop | with_reducible apply ic_expr | with_reducible apply ic_skip | with_reducible apply ic_stuck | with_reducible apply ic_brk | with_reducible apply ic_cnt | with_reducible apply ic_retN | with_reducible apply ic_for | with_reducible apply ic_while | with_reducible apply it_name | with_reducible apply it_tup | with_reducible apply it_cons | with_reducible apply it_nil | with_reducible apply im_fn | with_reducible apply im_fno | with_reducible apply im_lc | with_reducible apply im_yes | with_reducible apply im_and | with_reducible apply im_or | with_reducible apply im_not | with_reducible apply im_if | with_reducible apply im_frz | with_reducible apply im_lim | with_reducible apply im_tup | with_reducible apply im_call | with_reducible apply im_lst | with_reducible apply im_isi | with_reducible apply im_isis | with_reducible apply im_isN | with_reducible apply im_notN | with_reducible apply im_chain | with_reducible apply im_seq | with_reducible apply im_range1 | with_reducible apply im_range2 | with_reducible apply im_enum | with_reducible apply im_zip | with_reducible apply im_t | with_reducible apply im_notV | with_reducible apply im_andV | with_reducible apply im_orV | with_reducible apply im_part | with_reducible apply im_sl | with_reducible apply im_slo | with_reducible apply im_rev | with_reducible apply im_uV | with_reducible apply im_uO | with_reducible apply im_un | with_reducible apply im_opo | with_reducible apply im_ixO | with_reducible apply im_scal | with_reducible apply im_scalt | with_reducible apply im_index | with_reducible apply im_lrg1 | with_reducible apply im_lrg2 | with_reducible apply ic_ext | with_reducible apply ic_asgT | with_reducible apply it_subO | with_reducible apply im_fnO | with_reducible apply im_fnOo | with_reducible apply im_zipS | with_reducible apply im_zipR | with_reducible apply im_rev2 | with_reducible apply im_revD | with_reducible apply im_enumS | with_reducible apply im_zipS3 | with_reducible apply im_enumZ)
/-- turned: slots 0 table -/
def N_turned : List Str := ["table"]
def ps_turned : List Str := ["table"]
def c_turned : C := cseq (cexpr (mFn F_check_table 1 0 [0] (mcons (rd 0) (mret [])) (mret []))) (creto (mFno F_turned_of 1 0 [0] (mcons (rd 0) (mret [])) (mret [])))
def F_turned : Fn := fres 1 1 c_turned
theorem en_turned (a0 : D) (p : Pst) : F_turned [a0] p = sres (c_turned [some (.val a0)] p) := rfl
theorem ip_turned : IF F_turned := if_fres _ _ (by
  unfold c_turned
  repeat' first | exact ip_check_table | exact ip_turned_of | with_reducible apply im_ret | with_reducible apply im_rd | with_reducible apply im_op | with_reducible apply im_cmp | with_reducible apply im_b | with_reducible apply im_cons | with_reducible apply ic_seq | with_reducible apply ic_if | with_reducible apply ic_ret | with_reducible apply ic_reto | with_reducible apply ic_retown | with_reducible apply ic_asg | with_reducible apply ic_aso | with_reducible apply ic_frz | with_reducible apply ic_asgW | with_reducible apply ic_app | with_reducible apply ic_pop | with_reducible apply ic_expr | with_reducible apply ic_skip | with_reducible apply ic_stuck | with_reducible apply ic_brk | with_reducible apply ic_cnt | with_reducible apply ic_retN | with_reducible apply ic_for | with_reducible apply ic_while | with_reducible apply it_name | with_reducible apply it_tup | with_reducible apply it_cons | with_reducible apply it_nil | with_reducible apply im_fn | with_reducible apply im_fno | with_reducible apply im_lc | with_reducible apply im_yes | with_reducible apply im_and | with_reducible apply im_or | with_reducible apply im_not | with_reducible apply im_if | with_reducible apply im_frz | with_reducible apply im_lim | with_reducible apply im_tup | with_reducible apply im_call | with_reducible apply im_lst | with_reducible apply im_isi | with_reducible apply im_isis | with_reducible apply im_isN | with_reducible apply im_notN | with_reducible apply im_chain | with_reducible apply im_seq | with_reducible apply im_range1 | with_reducible apply im_range2 | with_reducible apply im_enum | with_reducible apply im_zip | with_reducible apply im_t | with_reducible apply im_notV | with_reducible apply im_andV | with_reducible apply im_orV | with_reducible apply im_part | with_reducible apply im_sl | with_reducible apply im_slo | with_reducible apply im_rev | with_reducible apply im_uV | with_reducible apply im_uO | with_reducible apply im_un | with_reducible apply im_opo | with_reducible apply im_ixO | with_reducible apply im_scal | with_reducible apply im_scalt | with_reducible apply im_index | with_reducible apply im_lrg1 | with_reducible apply im_lrg2 | with_reducible apply ic_ext | with_reducible apply ic_asgT | with_reducible apply it_subO | with_reducible apply im_fnO | with_reducible apply im_fnOo | with_reducible apply im_zipS | with_reducible apply im_zipR | with_reducible apply im_rev2 | with_reducible apply im_revD | with_reducible apply im_enumS | with_reducible apply im_zipS3 | with_reducible apply im_enumZ)
/-- combined: slots 0 table, 1 vector -/
def N_combined : List Str := ["table", "vector"]
def ps_combined : List Str := ["table", "vector"]
def c_combined : C := cseq (cexpr (mFn F_check_table 1 0 [0] (mcons (rd 0) (mret [])) (mret []))) (cseq (cexpr (mFn F_check_vector 2 0 [0, 1] (mcons (rd 1) (mcons (mCall dLen (mcons (rd 0) (mret []))) (mret []))) (mret []))) (cret (mFn F_combined_of 2 0 [0, 1] (mcons (rd 0) (mcons (rd 1) (mret []))) (mret []))))
def F_combined : Fn := fres 2 2 c_combined
theorem en_combined (a0 a1 : D) (p : Pst) : F_combined [a0, a1] p = sres (c_combined [some (.val a0), some (.val a1)] p) := rfl
theorem ip_combined : IF F_combined := if_fres _ _ (by
  unfold c_combined
  repeat' first | exact ip_check_table | exact ip_check_vector | exact ip_combined_of | with_reducible apply im_ret | with_reducible apply im_rd | with_reducible apply im_op | with_reducible apply im_cmp | with_reducible apply im_b | with_reducible apply im_cons | with_reducible apply ic_seq | with_reducible apply ic_if | with_reducible apply ic_ret | with_reducible apply ic_reto | with_reducible apply ic_retown | with_reducible apply ic_asg | with_reducible apply ic_aso | with_reducible apply ic_frz | with_reducible apply ic_asgW | with_reducible apply ic_app | with_reducible apply ic_pop | with_reducible apply ic_expr | with_reducible apply ic_skip | with_reducible apply ic_stuck | with_reducible apply ic_brk | with_reducible apply ic_cnt | with_reducible apply ic_retN | with_reducible apply ic_for | with_reducible apply ic_while | with_reducible apply it_name | with_reducible apply it_tup | with_reducible apply it_cons | with_reducible apply it_nil | with_reducible apply im_fn | with_reducible apply im_fno | with_reducible apply im_lc | with_reducible apply im_yes | with_reducible apply im_and | with_reducible apply im_or | with_reducible apply im_not | with_reducible apply im_if | with_reducible apply im_frz | with_reducible apply im_lim | with_reducible apply im_tup | with_reducible apply im_call | with_reducible apply im_lst | with_reducible apply im_isi | with_reducible apply im_isis | with_reducible apply im_isN | with_reducible apply im_notN | with_reducible apply im_chain | with_reducible apply im_seq | with_reducible apply im_range1 | with_reducible apply im_range2 | with_reducible apply im_enum | with_reducible apply im_zip | with_reducible apply im_t | with_reducible apply im_notV | with_reducible apply im_andV | with_reducible apply im_orV | with_reducible apply im_part | with_reducible apply im_sl | with_reducible apply im_slo | with_reducible apply im_rev | with_reducible apply im_uV | with_reducible apply im_uO | with_reducible apply im_un | with_reducible apply im_opo | with_reducible apply im_ixO | with_reducible apply im_scal | with_reducible apply im_scalt | with_reducible apply im_index | with_reducible apply im_lrg1 | with_reducible apply im_lrg2 | with_reducible apply ic_ext | with_reducible apply ic_asgT | with_reducible apply it_subO | with_reducible apply im_fnO | with_reducible apply im_fnOo | with_reducible apply im_zipS | with_reducible apply im_zipR | with_reducible apply im_rev2 | with_reducible apply im_revD | with_reducible apply im_enumS | with_reducible apply im_zipS3 | with_reducible apply im_enumZ)
/-- times_table: slots 0 table, 1 other, 2 row -/
def N_times_table : List Str := ["table", "other", "row"]
def ps_times_table : List Str := ["table", "other"]
def m_times_table_1 : M (List D) := mLc [2] (mSeq (rd 0)) (fName 2) (mYes) (mFn F_combined_of 2 0 [0, 1] (mcons (rd 1) (mcons (rd 2) (mret []))) (mret []))
def c_times_table : C := cseq (cexpr (mFn F_check_table 1 0 [0] (mcons (rd 0) (mret [])) (mret []))) (cseq (cexpr (mFn F_check_table 1 0 [0] (mcons (rd 1) (mret [])) (mret []))) (cseq (cif (mCmp dNe (mCall dLen (mcons (mOp dIx (rd 0) (mret (.int 0))) (mret []))) (mCall dLen (mcons (rd 1) (mret [])))) (cstuck) (cskip)) (cret (mFn F_small 1 0 [0] (mcons (mfrz (m_times_table_1)) (mret [])) (mret [])))))
def F_times_table : Fn := fres 3 2 c_times_table
theorem en_times_table (a0 a1 : D) (p : Pst) : F_times_table [a0, a1] p = sres (c_times_table [some (.val a0), some (.val a1), none] p) := rfl
theorem ip_times_table : IF F_times_table := if_fres _ _ (by
  unfold c_times_table
  try unfold m_times_table_1
  repeat' first | exact ip_check_table | exact ip_combined_of | exact ip_small | with_reducible apply im_ret | with_reducible apply im_rd | with_reducible apply im_op | with_reducible apply im_cmp | with_reducible apply im_b | with_reducible apply im_cons | with_reducible apply ic_seq | with_reducible apply ic_if | with_reducible apply ic_ret | with_reducible apply ic_reto | with_reducible apply ic_retown | with_reducible apply ic_asg | with_reducible apply ic_aso | with_reducible apply ic_frz | with_reducible apply ic_asgW | with_reducible apply ic_app | with_reducible apply ic_pop | with_reducible apply ic_expr | with_reducible apply ic_skip | with_reducible apply ic_stuck | with_reducible apply ic_brk | with_reducible apply ic_cnt | with_reducible apply ic_retN | with_reducible apply ic_for | with_reducible apply ic_while | with_reducible apply it_name | with_reducible apply it_tup | with_reducible apply it_cons | with_reducible apply it_nil | with_reducible apply im_fn | with_reducible apply im_fno | with_reducible apply im_lc | with_reducible apply im_yes | with_reducible apply im_and | with_reducible apply im_or | with_reducible apply im_not | with_reducible apply im_if | with_reducible apply im_frz | with_reducible apply im_lim | with_reducible apply im_tup | with_reducible apply im_call | with_reducible apply im_lst | with_reducible apply im_isi | with_reducible apply im_isis | with_reducible apply im_isN | with_reducible apply im_notN | with_reducible apply im_chain | with_reducible apply im_seq | with_reducible apply im_range1 | with_reducible apply im_range2 | with_reducible apply im_enum | with_reducible apply im_zip | with_reducible apply im_t | with_reducible apply im_notV | with_reducible apply im_andV | with_reducible apply im_orV | with_reducible apply im_part | with_reducible apply im_sl | with_reducible apply im_slo | with_reducible apply im_rev | with_reducible apply im_uV | with_reducible apply im_uO | with_reducible apply im_un | with_reducible apply im_opo | with_reducible apply im_ixO | with_reducible apply im_scal | with_reducible apply im_scalt | with_reducible apply im_index | with_reducible apply im_lrg1 | with_reducible apply im_lrg2 | with_reducible apply ic_ext | with_reducible apply ic_asgT | with_reducible apply it_subO | with_reducible apply im_fnO | with_reducible apply im_fnOo | with_reducible apply im_zipS | with_reducible apply im_zipR | with_reducible apply im_rev2 | with_reducible apply im_revD | with_reducible apply im_enumS | with_reducible apply im_zipS3 | with_reducible apply im_enumZ)
/-- are_integers_of: slots 0 many, 1 value, 2 one -/
def N_are_integers_of : List Str := ["many", "value", "one"]
def ps_are_integers_of : List Str := ["many", "value"]
def m_are_integers_of_1 : M (List D) := mLc [2] (mSeq (rd 1)) (fName 2) (mYes) (mFn F_is_integer 1 0 [0] (mcons (rd 2) (mret [])) (mret []))
def c_are_integers_of : C := cret (mAndV (mIsi .tuple (rd 1)) (mAndV (mB (mCmp dEq (mCall dLen (mcons (rd 1) (mret []))) (rd 0))) (mCall dAll (mcons (mfrz (m_are_integers_of_1)) (mret [])))))
def F_are_integers_of : Fn := fres 3 2 c_are_integers_of
theorem en_are_integers_of (a0 a1 : D) (p : Pst) : F_are_integers_of [a0, a1] p = sres (c_are_integers_of [some (.val a0), some (.val a1), none] p) := rfl
theorem ip_are_integers_of : IF F_are_integers_of := if_fres _ _ (by
  unfold c_are_integers_of
  try unfold m_are_integers_of_1
  repeat' first | exact ip_is_integer | with_reducible apply im_ret | with_reducible apply im_rd | with_reducible apply im_op | with_reducible apply im_cmp | with_reducible apply im_b | with_reducible apply im_cons | with_reducible apply ic_seq | with_reducible apply ic_if | with_reducible apply ic_ret | with_reducible apply ic_reto | with_reducible apply ic_retown | with_reducible apply ic_asg | with_reducible apply ic_aso | with_reducible apply ic_frz | with_reducible apply ic_asgW | with_reducible apply ic_app | with_reducible apply ic_pop | with_reducible apply ic_expr | with_reducible apply ic_skip | with_reducible apply ic_stuck | with_reducible apply ic_brk | with_reducible apply ic_cnt | with_reducible apply ic_retN | with_reducible apply ic_for | with_reducible apply ic_while | with_reducible apply it_name | with_reducible apply it_tup | with_reducible apply it_cons | with_reducible apply it_nil | with_reducible apply im_fn | with_reducible apply im_fno | with_reducible apply im_lc | with_reducible apply im_yes | with_reducible apply im_and | with_reducible apply im_or | with_reducible apply im_not | with_reducible apply im_if | with_reducible apply im_frz | with_reducible apply im_lim | with_reducible apply im_tup | with_reducible apply im_call | with_reducible apply im_lst | with_reducible apply im_isi | with_reducible apply im_isis | with_reducible apply im_isN | with_reducible apply im_notN | with_reducible apply im_chain | with_reducible apply im_seq | with_reducible apply im_range1 | with_reducible apply im_range2 | with_reducible apply im_enum | with_reducible apply im_zip | with_reducible apply im_t | with_reducible apply im_notV | with_reducible apply im_andV | with_reducible apply im_orV | with_reducible apply im_part | with_reducible apply im_sl | with_reducible apply im_slo | with_reducible apply im_rev | with_reducible apply im_uV | with_reducible apply im_uO | with_reducible apply im_un | with_reducible apply im_opo | with_reducible apply im_ixO | with_reducible apply im_scal | with_reducible apply im_scalt | with_reducible apply im_index | with_reducible apply im_lrg1 | with_reducible apply im_lrg2 | with_reducible apply ic_ext | with_reducible apply ic_asgT | with_reducible apply it_subO | with_reducible apply im_fnO | with_reducible apply im_fnOo | with_reducible apply im_zipS | with_reducible apply im_zipR | with_reducible apply im_rev2 | with_reducible apply im_revD | with_reducible apply im_enumS | with_reducible apply im_zipS3 | with_reducible apply im_enumZ)
/-- is_chain_of: slots 0 value, 1 faces, 2 ends, 3 one, 4 face -/
def N_is_chain_of : List Str := ["value", "faces", "ends", "one", "face"]
def ps_is_chain_of : List Str := ["value"]
def m_is_chain_of_1 : M (List D) := mLc [3] (mSeq (rd 0)) (fName 3) (mYes) (mFn F_is_table_of 1 0 [0] (mcons (rd 3) (mret [])) (mret []))
def m_is_chain_of_2 : M (List D) := mLc [4] (mSeq (rd 1)) (fName 4) (mYes) (mCall dAnyX (mcons (mFn F_combined_of 2 0 [0, 1] (mcons (rd 2) (mcons (rd 4) (mret []))) (mret [])) (mret [])))
def c_is_chain_of : C := cseq (cif (mOr (mNot (mT (mIsi .tuple (rd 0)))) (mOr (mCmp dNe (mCall dLen (mcons (rd 0) (mret []))) (mret (.int 2))) (mNot (mT (mCall dAll (mcons (mfrz (m_is_chain_of_1)) (mret []))))))) (cret (mret (.bl false))) (cskip)) (cseq (casgT (tgTup 2 (tgCons (tgName 1) (tgCons (tgName 2) (tgNil)))) (rd 0)) (cret (mAndV (mB (mCmp dEq (mCall dLen (mcons (mOp dIx (rd 1) (mret (.int 0))) (mret []))) (mCall dLen (mcons (rd 2) (mret []))))) (mNotV (mCall dAnyX (mcons (mfrz (m_is_chain_of_2)) (mret [])))))))
def F_is_chain_of : Fn := fres 5 1 c_is_chain_of
theorem en_is_chain_of (a0 : D) (p : Pst) : F_is_chain_of [a0] p = sres (c_is_chain_of [some (.val a0), none, none, none, none] p) := rfl
theorem ip_is_chain_of : IF F_is_chain_of := if_fres _ _ (by
  unfold c_is_chain_of
  try unfold m_is_chain_of_2
  try unfold m_is_chain_of_1
  repeat' first | exact ip_combined_of | exact ip_is_table_of | with_reducible apply im_ret | with_reducible apply im_rd | with_reducible apply im_op | with_reducible apply im_cmp | with_reducible apply im_b | with_reducible apply im_cons | with_reducible apply ic_seq | with_reducible apply ic_if | with_reducible apply ic_ret | with_reducible apply ic_reto | with_reducible apply ic_retown | with_reducible apply ic_asg | with_reducible apply ic_aso | with_reducible apply ic_frz | with_reducible apply ic_asgW | with_reducible apply ic_app | with_reducible apply ic_pop | with_reducible apply ic_expr | with_reducible apply ic_skip | with_reducible apply ic_stuck | with_reducible apply ic_brk | with_reducible apply ic_cnt | with_reducible apply ic_retN | with_reducible apply ic_for | with_reducible apply ic_while | with_reducible apply it_name | with_reducible apply it_tup | with_reducible apply it_cons | with_reducible apply it_nil | with_reducible apply im_fn | with_reducible apply im_fno | with_reducible apply im_lc | with_reducible apply im_yes | with_reducible apply im_and | with_reducible apply im_or | with_reducible apply im_not | with_reducible apply im_if | with_reducible apply im_frz | with_reducible apply im_lim | with_reducible apply im_tup | with_reducible apply im_call | with_reducible apply im_lst | with_reducible apply im_isi | with_reducible apply im_isis | with_reducible apply im_isN | with_reducible apply im_notN | with_reducible apply im_chain | with_reducible apply im_seq | with_reducible apply im_range1 | with_reducible apply im_range2 | with_reducible apply im_enum | with_reducible apply im_zip | with_reducible apply im_t | with_reducible apply im_notV | with_reducible apply im_andV | with_reducible apply im_orV | with_reducible apply im_part | with_reducible apply im_sl | with_reducible apply im_slo | with_reducible apply im_rev | with_reducible apply im_uV | with_reducible apply im_uO | with_reducible apply im_un | with_reducible apply im_opo | with_reducible apply im_ixO | with_reducible apply im_scal | with_reducible apply im_scalt | with_reducible apply im_index | with_reducible apply im_lrg1 | with_reducible apply im_lrg2 | with_reducible apply ic_ext | with_reducible apply ic_asgT | with_reducible apply it_subO | with_reducible apply im_fnO | with_reducible apply im_fnOo | with_reducible apply im_zipS | with_reducible apply im_zipR | with_reducible apply im_rev2 | with_reducible apply im_revD | with_reducible apply im_enumS | with_reducible apply im_zipS3 | with_reducible apply im_enumZ)
/-- check_chain: slots 0 value -/
def N_check_chain : List Str := ["value"]
def ps_check_chain : List Str := ["value"]
def c_check_chain : C := cif (mNot (mT (mFn F_is_chain_of 1 0 [0] (mcons (rd 0) (mret [])) (mret [])))) (cstuck) (cskip)
def F_check_chain : Fn := fres 1 1 c_check_chain
theorem en_check_chain (a0 : D) (p : Pst) : F_check_chain [a0] p = sres (c_check_chain [some (.val a0)] p) := rfl
theorem ip_check_chain : IF F_check_chain := if_fres _ _ (by
  unfold c_check_chain
  repeat' first | exact ip_is_chain_of | with_reducible apply im_ret | with_reducible apply im_rd | with_reducible apply im_op | with_reducible apply im_cmp | with_reducible apply im_b | with_reducible apply im_cons | with_reducible apply ic_seq | with_reducible apply ic_if | with_reducible apply ic_ret | with_reducible apply ic_reto | with_reducible apply ic_retown | with_reducible apply ic_asg | with_reducible apply ic_aso | with_reducible apply ic_frz | with_reducible apply ic_asgW | with_reducible apply ic_app | with_reducible apply ic_pop | with_reducible apply ic_expr | with_reducible apply ic_skip | with_reducible apply ic_stuck | with_reducible apply ic_brk | with_reducible apply ic_cnt | with_reducible apply ic_retN | with_reducible apply ic_for | with_reducible apply ic_while | with_reducible apply it_name | with_reducible apply it_tup | with_reducible apply it_cons | with_reducible apply it_nil | with_reducible apply im_fn | with_reducible apply im_fno | with_reducible apply im_lc | with_reducible apply im_yes | with_reducible apply im_and | with_reducible apply im_or | with_reducible apply im_not | with_reducible apply im_if | with_reducible apply im_frz | with_reducible apply im_lim | with_reducible apply im_tup | with_reducible apply im_call | with_reducible apply im_lst | with_reducible apply im_isi | with_reducible apply im_isis | with_reducible apply im_isN | with_reducible apply im_notN | with_reducible apply im_chain | with_reducible apply im_seq | with_reducible apply im_range1 | with_reducible apply im_range2 | with_reducible apply im_enum | with_reducible apply im_zip | with_reducible apply im_t | with_reducible apply im_notV | with_reducible apply im_andV | with_reducible apply im_orV | with_reducible apply im_part | with_reducible apply im_sl | with_reducible apply im_slo | with_reducible apply im_rev | with_reducible apply im_uV | with_reducible apply im_uO | with_reducible apply im_un | with_reducible apply im_opo | with_reducible apply im_ixO | with_reducible apply im_scal | with_reducible apply im_scalt | with_reducible apply im_index | with_reducible apply im_lrg1 | with_reducible apply im_lrg2 | with_reducible apply ic_ext | with_reducible apply ic_asgT | with_reducible apply it_subO | with_reducible apply im_fnO | with_reducible apply im_fnOo | with_reducible apply im_zipS | with_reducible apply im_zipR | with_reducible apply im_rev2 | with_reducible apply im_revD | with_reducible apply im_enumS | with_reducible apply im_zipS3 | with_reducible apply im_enumZ)
/-- check_lines: slots 0 chain, 1 value -/
def N_check_lines : List Str := ["chain", "value"]
def ps_check_lines : List Str := ["chain", "value"]
def c_check_lines : C := cif (mOr (mNot (mT (mFn F_is_vector_of 1 0 [0] (mcons (rd 1) (mret [])) (mret [])))) (mCmp dNe (mCall dLen (mcons (rd 1) (mret []))) (mCall dLen (mcons (mOp dIx (rd 0) (mret (.int 1))) (mret []))))) (cstuck) (cskip)
def F_check_lines : Fn := fres 2 2 c_check_lines
theorem en_check_lines (a0 a1 : D) (p : Pst) : F_check_lines [a0, a1] p = sres (c_check_lines [some (.val a0), some (.val a1)] p) := rfl
theorem ip_check_lines : IF F_check_lines := if_fres _ _ (by
  unfold c_check_lines
  repeat' first | exact ip_is_vector_of | with_reducible apply im_ret | with_reducible apply im_rd | with_reducible apply im_op | with_reducible apply im_cmp | with_reducible apply im_b | with_reducible apply im_cons | with_reducible apply ic_seq | with_reducible apply ic_if | with_reducible apply ic_ret | with_reducible apply ic_reto | with_reducible apply ic_retown | with_reducible apply ic_asg | with_reducible apply ic_aso | with_reducible apply ic_frz | with_reducible apply ic_asgW | with_reducible apply ic_app | with_reducible apply ic_pop | with_reducible apply ic_expr | with_reducible apply ic_skip | with_reducible apply ic_stuck | with_reducible apply ic_brk | with_reducible apply ic_cnt | with_reducible apply ic_retN | with_reducible apply ic_for | with_reducible apply ic_while | with_reducible apply it_name | with_reducible apply it_tup | with_reducible apply it_cons | with_reducible apply it_nil | with_reducible apply im_fn | with_reducible apply im_fno | with_reducible apply im_lc | with_reducible apply im_yes | with_reducible apply im_and | with_reducible apply im_or | with_reducible apply im_not | with_reducible apply im_if | with_reducible apply im_frz | with_reducible apply im_lim | with_reducible apply im_tup | with_reducible apply im_call | with_reducible apply im_lst | with_reducible apply im_isi | with_reducible apply im_isis | with_reducible apply im_isN | with_reducible apply im_notN | with_reducible apply im_chain | with_reducible apply im_seq | with_reducible apply im_range1 | with_reducible apply im_range2 | with_reducible apply im_enum | with_reducible apply im_zip | with_reducible apply im_t | with_reducible apply im_notV | with_reducible apply im_andV | with_reducible apply im_orV | with_reducible apply im_part | with_reducible apply im_sl | with_reducible apply im_slo | with_reducible apply im_rev | with_reducible apply im_uV | with_reducible apply im_uO | with_reducible apply im_un | with_reducible apply im_opo | with_reducible apply im_ixO | with_reducible apply im_scal | with_reducible apply im_scalt | with_reducible apply im_index | with_reducible apply im_lrg1 | with_reducible apply im_lrg2 | with_reducible apply ic_ext | with_reducible apply ic_asgT | with_reducible apply it_subO | with_reducible apply im_fnO | with_reducible apply im_fnOo | with_reducible apply im_zipS | with_reducible apply im_zipR | with_reducible apply im_rev2 | with_reducible apply im_revD | with_reducible apply im_enumS | with_reducible apply im_zipS3 | with_reducible apply im_enumZ)
/-- is_round_of: slots 0 chain, 1 lines -/
def N_is_round_of : List Str := ["chain", "lines"]
def ps_is_round_of : List Str := ["chain", "lines"]
def c_is_round_of : C := cret (mNotV (mCall dAnyX (mcons (mFn F_combined_of 2 0 [0, 1] (mcons (mOp dIx (rd 0) (mret (.int 1))) (mcons (rd 1) (mret []))) (mret [])) (mret []))))
def F_is_round_of : Fn := fres 2 2 c_is_round_of
theorem en_is_round_of (a0 a1 : D) (p : Pst) : F_is_round_of [a0, a1] p = sres (c_is_round_of [some (.val a0), some (.val a1)] p) := rfl
theorem ip_is_round_of : IF F_is_round_of := if_fres _ _ (by
  unfold c_is_round_of
  repeat' first | exact ip_combined_of | with_reducible apply im_ret | with_reducible apply im_rd | with_reducible apply im_op | with_reducible apply im_cmp | with_reducible apply im_b | with_reducible apply im_cons | with_reducible apply ic_seq | with_reducible apply ic_if | with_reducible apply ic_ret | with_reducible apply ic_reto | with_reducible apply ic_retown | with_reducible apply ic_asg | with_reducible apply ic_aso | with_reducible apply ic_frz | with_reducible apply ic_asgW | with_reducible apply ic_app | with_reducible apply ic_pop | with_reducible apply ic_expr | with_reducible apply ic_skip | with_reducible apply ic_stuck | with_reducible apply ic_brk | with_reducible apply ic_cnt | with_reducible apply ic_retN | with_reducible apply ic_for | with_reducible apply ic_while | with_reducible apply it_name | with_reducible apply it_tup | with_reducible apply it_cons | with_reducible apply it_nil | with_reducible apply im_fn | with_reducible apply im_fno | with_reducible apply im_lc | with_reducible apply im_yes | with_reducible apply im_and | with_reducible apply im_or | with_reducible apply im_not | with_reducible apply im_if | with_reducible apply im_frz | with_reducible apply im_lim | with_reducible apply im_tup | with_reducible apply im_call | with_reducible apply im_lst | with_reducible apply im_isi | with_reducible apply im_isis | with_reducible apply im_isN | with_reducible apply im_notN | with_reducible apply im_chain | with_reducible apply im_seq | with_reducible apply im_range1 | with_reducible apply im_range2 | with_reducible apply im_enum | with_reducible apply im_zip | with_reducible apply im_t | with_reducible apply im_notV | with_reducible apply im_andV | with_reducible apply im_orV | with_reducible apply im_part | with_reducible apply im_sl | with_reducible apply im_slo | with_reducible apply im_rev | with_reducible apply im_uV | with_reducible apply im_uO | with_reducible apply im_un | with_reducible apply im_opo | with_reducible apply im_ixO | with_reducible apply im_scal | with_reducible apply im_scalt | with_reducible apply im_index | with_reducible apply im_lrg1 | with_reducible apply im_lrg2 | with_reducible apply ic_ext | with_reducible apply ic_asgT | with_reducible apply it_subO | with_reducible apply im_fnO | with_reducible apply im_fnOo | with_reducible apply im_zipS | with_reducible apply im_zipR | with_reducible apply im_rev2 | with_reducible apply im_revD | with_reducible apply im_enumS | with_reducible apply im_zipS3 | with_reducible apply im_enumZ)
/-- is_chain: slots 0 value -/
def N_is_chain : List Str := ["value"]
def ps_is_chain : List Str := ["value"]
def c_is_chain : C := cret (mFn F_is_chain_of 1 0 [0] (mcons (rd 0) (mret [])) (mret []))
def F_is_chain : Fn := fres 1 1 c_is_chain
theorem en_is_chain (a0 : D) (p : Pst) : F_is_chain [a0] p = sres (c_is_chain [some (.val a0)] p) := rfl
theorem ip_is_chain : IF F_is_chain := if_fres _ _ (by
  unfold c_is_chain
  repeat' first | exact ip_is_chain_of | with_reducible apply im_ret | with_reducible apply im_rd | with_reducible apply im_op | with_reducible apply im_cmp | with_reducible apply im_b | with_reducible apply im_cons | with_reducible apply ic_seq | with_reducible apply ic_if | with_reducible apply ic_ret | with_reducible apply ic_reto | with_reducible apply ic_retown | with_reducible apply ic_asg | with_reducible apply ic_aso | with_reducible apply ic_frz | with_reducible apply ic_asgW | with_reducible apply ic_app | with_reducible apply ic_pop | with_reducible apply ic_expr | with_reducible apply ic_skip | with_reducible apply ic_stuck | with_reducible apply ic_brk | with_reducible apply ic_cnt | with_reducible apply ic_retN | with_reducible apply ic_for | with_reducible apply ic_while | with_reducible apply it_name | with_reducible apply it_tup | with_reducible apply it_cons | with_reducible apply it_nil | with_reducible apply im_fn | with_reducible apply im_fno | with_reducible apply im_lc | with_reducible apply im_yes | with_reducible apply im_and | with_reducible apply im_or | with_reducible apply im_not | with_reducible apply im_if | with_reducible apply im_frz | with_reducible apply im_lim | with_reducible apply im_tup | with_reducible apply im_call | with_reducible apply im_lst | with_reducible apply im_isi | with_reducible apply im_isis | with_reducible apply im_isN | with_reducible apply im_notN | with_reducible apply im_chain | with_reducible apply im_seq | with_reducible apply im_range1 | with_reducible apply im_range2 | with_reducible apply im_enum | with_reducible apply im_zip | with_reducible apply im_t | with_reducible apply im_notV | with_reducible apply im_andV | with_reducible apply im_orV | with_reducible apply im_part | with_reducible apply im_sl | with_reducible apply im_slo | with_reducible apply im_rev | with_reducible apply im_uV | with_reducible apply im_uO | with_reducible apply im_un | with_reducible apply im_opo | with_reducible apply im_ixO | with_reducible apply im_scal | with_reducible apply im_scalt | with_reducible apply im_index | with_reducible apply im_lrg1 | with_reducible apply im_lrg2 | with_reducible apply ic_ext | with_reducible apply ic_asgT | with_reducible apply it_subO | with_reducible apply im_fnO | with_reducible apply im_fnOo | with_reducible apply im_zipS | with_reducible apply im_zipR | with_reducible apply im_rev2 | with_reducible apply im_revD | with_reducible apply im_enumS | with_reducible apply im_zipS3 | with_reducible apply im_enumZ)
/-- ends_of: slots 0 chain, 1 lines -/
def N_ends_of : List Str := ["chain", "lines"]
def ps_ends_of : List Str := ["chain", "lines"]
def c_ends_of : C := cseq (cexpr (mFn F_check_chain 1 0 [0] (mcons (rd 0) (mret [])) (mret []))) (cseq (cexpr (mFn F_check_lines 2 0 [0, 1] (mcons (rd 0) (mcons (rd 1) (mret []))) (mret []))) (cret (mFn F_combined_of 2 0 [0, 1] (mcons (mOp dIx (rd 0) (mret (.int 1))) (mcons (rd 1) (mret []))) (mret []))))
def F_ends_of : Fn := fres 2 2 c_ends_of
theorem en_ends_of (a0 a1 : D) (p : Pst) : F_ends_of [a0, a1] p = sres (c_ends_of [some (.val a0), some (.val a1)] p) := rfl
theorem ip_ends_of : IF F_ends_of := if_fres _ _ (by
  unfold c_ends_of
  repeat' first | exact ip_check_chain | exact ip_check_lines | exact ip_combined_of | with_reducible apply im_ret | with_reducible apply im_rd | with_reducible apply im_op | with_reducible apply im_cmp | with_reducible apply im_b | with_reducible apply im_cons | with_reducible apply ic_seq | with_reducible apply ic_if | with_reducible apply ic_ret | with_reducible apply ic_reto | with_reducible apply ic_retown | with_reducible apply ic_asg | with_reducible apply ic_aso | with_reducible apply ic_frz | with_reducible apply ic_asgW | with_reducible apply ic_app | with_reducible apply ic_pop | with_reducible apply ic_expr | with_reducible apply ic_skip | with_reducible apply ic_stuck | with_reducible apply ic_brk | with_reducible apply ic_cnt | with_reducible apply ic_retN | with_reducible apply ic_for | with_reducible apply ic_while | with_reducible apply it_name | with_reducible apply it_tup | with_reducible apply it_cons | with_reducible apply it_nil | with_reducible apply im_fn | with_reducible apply im_fno | with_reducible apply im_lc | with_reducible apply im_yes | with_reducible apply im_and | with_reducible apply im_or | with_reducible apply im_not | with_reducible apply im_if | with_reducible apply im_frz | with_reducible apply im_lim | with_reducible apply im_tup | with_reducible apply im_call | with_reducible apply im_lst | with_reducible apply im_isi | with_reducible apply im_isis | with_reducible apply im_isN | with_reducible apply im_notN | with_reducible apply im_chain | with_reducible apply im_seq | with_reducible apply im_range1 | with_reducible apply im_range2 | with_reducible apply im_enum | with_reducible apply im_zip | with_reducible apply im_t | with_reducible apply im_notV | with_reducible apply im_andV | with_reducible apply im_orV | with_reducible apply im_part | with_reducible apply im_sl | with_reducible apply im_slo | with_reducible apply im_rev | with_reducible apply im_uV | with_reducible apply im_uO | with_reducible apply im_un | with_reducible apply im_opo | with_reducible apply im_ixO | with_reducible apply im_scal | with_reducible apply im_scalt | with_reducible apply im_index | with_reducible apply im_lrg1 | with_reducible apply im_lrg2 | with_reducible apply ic_ext | with_reducible apply ic_asgT | with_reducible apply it_subO | with_reducible apply im_fnO | with_reducible apply im_fnOo | with_reducible apply im_zipS | with_reducible apply im_zipR | with_reducible apply im_rev2 | with_reducible apply im_revD | with_reducible apply im_enumS | with_reducible apply im_zipS3 | with_reducible apply im_enumZ)
/-- rim: slots 0 chain, 1 parts -/
def N_rim : List Str := ["chain", "parts"]
def ps_rim : List Str := ["chain", "parts"]
def c_rim : C := cseq (cexpr (mFn F_check_chain 1 0 [0] (mcons (rd 0) (mret [])) (mret []))) (cseq (cif (mOr (mNot (mT (mFn F_is_vector_of 1 0 [0] (mcons (rd 1) (mret [])) (mret [])))) (mCmp dNe (mCall dLen (mcons (rd 1) (mret []))) (mCall dLen (mcons (mOp dIx (rd 0) (mret (.int 0))) (mret []))))) (cstuck) (cskip)) (cret (mFn F_combined_of 2 0 [0, 1] (mcons (mOp dIx (rd 0) (mret (.int 0))) (mcons (rd 1) (mret []))) (mret []))))
def F_rim : Fn := fres 2 2 c_rim
theorem en_rim (a0 a1 : D) (p : Pst) : F_rim [a0, a1] p = sres (c_rim [some (.val a0), some (.val a1)] p) := rfl
theorem ip_rim : IF F_rim := if_fres _ _ (by
  unfold c_rim
  repeat' first | exact ip_check_chain | exact ip_combined_of | exact ip_is_vector_of | with_reducible apply im_ret | with_reducible apply im_rd | with_reducible apply im_op | with_reducible apply im_cmp | with_reducible apply im_b | with_reducible apply im_cons | with_reducible apply ic_seq | with_reducible apply ic_if | with_reducible apply ic_ret | with_reducible apply ic_reto | with_reducible apply ic_retown | with_reducible apply ic_asg | with_reducible apply ic_aso | with_reducible apply ic_frz | with_reducible apply ic_asgW | with_reducible apply ic_app | with_reducible apply ic_pop | with_reducible apply ic_expr | with_reducible apply ic_skip | with_reducible apply ic_stuck | with_reducible apply ic_brk | with_reducible apply ic_cnt | with_reducible apply ic_retN | with_reducible apply ic_for | with_reducible apply ic_while | with_reducible apply it_name | with_reducible apply it_tup | with_reducible apply it_cons | with_reducible apply it_nil | with_reducible apply im_fn | with_reducible apply im_fno | with_reducible apply im_lc | with_reducible apply im_yes | with_reducible apply im_and | with_reducible apply im_or | with_reducible apply im_not | with_reducible apply im_if | with_reducible apply im_frz | with_reducible apply im_lim | with_reducible apply im_tup | with_reducible apply im_call | with_reducible apply im_lst | with_reducible apply im_isi | with_reducible apply im_isis | with_reducible apply im_isN | with_reducible apply im_notN | with_reducible apply im_chain | with_reducible apply im_seq | with_reducible apply im_range1 | with_reducible apply im_range2 | with_reducible apply im_enum | with_reducible apply im_zip | with_reducible apply im_t | with_reducible apply im_notV | with_reducible apply im_andV | with_reducible apply im_orV | with_reducible apply im_part | with_reducible apply im_sl | with_reducible apply im_slo | with_reducible apply im_rev | with_reducible apply im_uV | with_reducible apply im_uO | with_reducible apply im_un | with_reducible apply im_opo | with_reducible apply im_ixO | with_reducible apply im_scal | with_reducible apply im_scalt | with_reducible apply im_index | with_reducible apply im_lrg1 | with_reducible apply im_lrg2 | with_reducible apply ic_ext | with_reducible apply ic_asgT | with_reducible apply it_subO | with_reducible apply im_fnO | with_reducible apply im_fnOo | with_reducible apply im_zipS | with_reducible apply im_zipR | with_reducible apply im_rev2 | with_reducible apply im_revD | with_reducible apply im_enumS | with_reducible apply im_zipS3 | with_reducible apply im_enumZ)
/-- is_round: slots 0 chain, 1 value -/
def N_is_round : List Str := ["chain", "value"]
def ps_is_round : List Str := ["chain", "value"]
def c_is_round : C := cseq (cexpr (mFn F_check_chain 1 0 [0] (mcons (rd 0) (mret [])) (mret []))) (cret (mAndV (mFn F_are_integers_of 2 0 [0, 1] (mcons (mCall dLen (mcons (mOp dIx (rd 0) (mret (.int 1))) (mret []))) (mcons (rd 1) (mret []))) (mret [])) (mFn F_is_round_of 2 0 [0, 1] (mcons (rd 0) (mcons (rd 1) (mret []))) (mret []))))
def F_is_round : Fn := fres 2 2 c_is_round
theorem en_is_round (a0 a1 : D) (p : Pst) : F_is_round [a0, a1] p = sres (c_is_round [some (.val a0), some (.val a1)] p) := rfl
theorem ip_is_round : IF F_is_round := if_fres _ _ (by
  unfold c_is_round
  repeat' first | exact ip_are_integers_of | exact ip_check_chain | exact ip_is_round_of | with_reducible apply im_ret | with_reducible apply im_rd | with_reducible apply im_op | with_reducible apply im_cmp | with_reducible apply im_b | with_reducible apply im_cons | with_reducible apply ic_seq | with_reducible apply ic_if | with_reducible apply ic_ret | with_reducible apply ic_reto | with_reducible apply ic_retown | with_reducible apply ic_asg | with_reducible apply ic_aso | with_reducible apply ic_frz | with_reducible apply ic_asgW | with_reducible apply ic_app | with_reducible apply ic_pop | with_reducible apply ic_expr | with_reducible apply ic_skip | with_reducible apply ic_stuck | with_reducible apply ic_brk | with_reducible apply ic_cnt | with_reducible apply ic_retN | with_reducible apply ic_for | with_reducible apply ic_while | with_reducible apply it_name | with_reducible apply it_tup | with_reducible apply it_cons | with_reducible apply it_nil | with_reducible apply im_fn | with_reducible apply im_fno | with_reducible apply im_lc | with_reducible apply im_yes | with_reducible apply im_and | with_reducible apply im_or | with_reducible apply im_not | with_reducible apply im_if | with_reducible apply im_frz | with_reducible apply im_lim | with_reducible apply im_tup | with_reducible apply im_call | with_reducible apply im_lst | with_reducible apply im_isi | with_reducible apply im_isis | with_reducible apply im_isN | with_reducible apply im_notN | with_reducible apply im_chain | with_reducible apply im_seq | with_reducible apply im_range1 | with_reducible apply im_range2 | with_reducible apply im_enum | with_reducible apply im_zip | with_reducible apply im_t | with_reducible apply im_notV | with_reducible apply im_andV | with_reducible apply im_orV | with_reducible apply im_part | with_reducible apply im_sl | with_reducible apply im_slo | with_reducible apply im_rev | with_reducible apply im_uV | with_reducible apply im_uO | with_reducible apply im_un | with_reducible apply im_opo | with_reducible apply im_ixO | with_reducible apply im_scal | with_reducible apply im_scalt | with_reducible apply im_index | with_reducible apply im_lrg1 | with_reducible apply im_lrg2 | with_reducible apply ic_ext | with_reducible apply ic_asgT | with_reducible apply it_subO | with_reducible apply im_fnO | with_reducible apply im_fnOo | with_reducible apply im_zipS | with_reducible apply im_zipR | with_reducible apply im_rev2 | with_reducible apply im_revD | with_reducible apply im_enumS | with_reducible apply im_zipS3 | with_reducible apply im_enumZ)
/-- turned_chain: slots 0 chain -/
def N_turned_chain : List Str := ["chain"]
def ps_turned_chain : List Str := ["chain"]
def c_turned_chain : C := cseq (cexpr (mFn F_check_chain 1 0 [0] (mcons (rd 0) (mret [])) (mret []))) (cret (mtup (mcons (mFn F_turned_of 1 0 [0] (mcons (mOp dIx (rd 0) (mret (.int 1))) (mret [])) (mret [])) (mcons (mFn F_turned_of 1 0 [0] (mcons (mOp dIx (rd 0) (mret (.int 0))) (mret [])) (mret [])) (mret [])))))
def F_turned_chain : Fn := fres 1 1 c_turned_chain
theorem en_turned_chain (a0 : D) (p : Pst) : F_turned_chain [a0] p = sres (c_turned_chain [some (.val a0)] p) := rfl
theorem ip_turned_chain : IF F_turned_chain := if_fres _ _ (by
  unfold c_turned_chain
  repeat' first | exact ip_check_chain | exact ip_turned_of | with_reducible apply im_ret | with_reducible apply im_rd | with_reducible apply im_op | with_reducible apply im_cmp | with_reducible apply im_b | with_reducible apply im_cons | with_reducible apply ic_seq | with_reducible apply ic_if | with_reducible apply ic_ret | with_reducible apply ic_reto | with_reducible apply ic_retown | with_reducible apply ic_asg | with_reducible apply ic_aso | with_reducible apply ic_frz | with_reducible apply ic_asgW | with_reducible apply ic_app | with_reducible apply ic_pop | with_reducible apply ic_expr | with_reducible apply ic_skip | with_reducible apply ic_stuck | with_reducible apply ic_brk | with_reducible apply ic_cnt | with_reducible apply ic_retN | with_reducible apply ic_for | with_reducible apply ic_while | with_reducible apply it_name | with_reducible apply it_tup | with_reducible apply it_cons | with_reducible apply it_nil | with_reducible apply im_fn | with_reducible apply im_fno | with_reducible apply im_lc | with_reducible apply im_yes | with_reducible apply im_and | with_reducible apply im_or | with_reducible apply im_not | with_reducible apply im_if | with_reducible apply im_frz | with_reducible apply im_lim | with_reducible apply im_tup | with_reducible apply im_call | with_reducible apply im_lst | with_reducible apply im_isi | with_reducible apply im_isis | with_reducible apply im_isN | with_reducible apply im_notN | with_reducible apply im_chain | with_reducible apply im_seq | with_reducible apply im_range1 | with_reducible apply im_range2 | with_reducible apply im_enum | with_reducible apply im_zip | with_reducible apply im_t | with_reducible apply im_notV | with_reducible apply im_andV | with_reducible apply im_orV | with_reducible apply im_part | with_reducible apply im_sl | with_reducible apply im_slo | with_reducible apply im_rev | with_reducible apply im_uV | with_reducible apply im_uO | with_reducible apply im_un | with_reducible apply im_opo | with_reducible apply im_ixO | with_reducible apply im_scal | with_reducible apply im_scalt | with_reducible apply im_index | with_reducible apply im_lrg1 | with_reducible apply im_lrg2 | with_reducible apply ic_ext | with_reducible apply ic_asgT | with_reducible apply it_subO | with_reducible apply im_fnO | with_reducible apply im_fnOo | with_reducible apply im_zipS | with_reducible apply im_zipR | with_reducible apply im_rev2 | with_reducible apply im_revD | with_reducible apply im_enumS | with_reducible apply im_zipS3 | with_reducible apply im_enumZ)
/-- _law_pot: slots 0 script, 1 k, 2 cell -/
def N__law_pot : List Str := ["script", "k", "cell"]
def ps__law_pot : List Str := ["script", "k"]
def c__law_pot : C := cseq (casg 2 (mIf (mCmp dLt (rd 1) (mCall dLen (mcons (rd 0) (mret [])))) (mCall dAbs (mcons (mOp dIx (rd 0) (rd 1)) (mret []))) (mOp dAdd (mOp dMul (mret (.int 3911)) (rd 1)) (mret (.int 3229))))) (cretpot (mcons (mCall dMax2 (mcons (mret (.int 0)) (mcons (mOp dSub (rd 2) (mOp dPow (mret (.int 10)) (mret (.int 18)))) (mret [])))) (mcons (mOp dAdd (mOp dMod (mCall dInt (mcons (mOp dAdd (mOp dAdd (mOp dMul (mOp dMod (mCall dInt (mcons (rd 2) (mret []))) (mret (.int 2147483549))) (mret (.int 40692))) (mOp dMul (mret (.int 36709)) (rd 1))) (mret (.int 2467))) (mret []))) (mret (.int 2147483563))) (mret (.int 1))) (mret []))))
def F__law_pot : Fn := fres 3 2 c__law_pot
theorem en__law_pot (a0 a1 : D) (p : Pst) : F__law_pot [a0, a1] p = sres (c__law_pot [some (.val a0), some (.val a1), none] p) := rfl
/-- _law_draw: slots 0 pot, 1 many, 2 digit -/
def N__law_draw : List Str := ["pot", "many", "digit"]
def ps__law_draw : List Str := ["pot", "many"]
def c__law_draw : C := cseq (cif (mCmp dGt (mIx (rd 0) (mret (.int 0))) (mret (.int 0))) (cseq (casgT (tgTup 2 (tgCons (tgSub 0 (mret (.int 0))) (tgCons (tgName 2) (tgNil)))) (mCall dDivmod (mcons (mIx (rd 0) (mret (.int 0))) (mcons (rd 1) (mret []))))) (cret (rd 2))) (cskip)) (cseq (casgT (tgSub 0 (mret (.int 1))) (mOp dMod (mCall dInt (mcons (mOp dAdd (mOp dMul (mIx (rd 0) (mret (.int 1))) (mret (.int 40014))) (mret (.int 11933))) (mret []))) (mret (.int 2147483563)))) (cret (mOp dMod (mCall dInt (mcons (mOp dDiv (mOp dMod (mCall dInt (mcons (mOp dMul (mIx (rd 0) (mret (.int 1))) (mIx (rd 0) (mret (.int 1)))) (mret []))) (mret (.int 2147483549))) (mret (.int 19))) (mret []))) (rd 1))))
def F__law_draw : Fn := fres 3 2 c__law_draw
theorem en__law_draw (a0 a1 : D) (p : Pst) : F__law_draw [a0, a1] p = sres (c__law_draw [some (.val a0), some (.val a1), none] p) := rfl
/-- _law_product: slots 0 one, 1 late, 2 near, 3 far -/
def N__law_product : List Str := ["one", "late", "near", "far"]
def ps__law_product : List Str := ["one", "late"]
def m__law_product_1 : M (List D) := mLc [2, 3] (mZipS (mcons (rd 0) (mcons (rd 1) (mret [])))) (fTup (fCons (fName 2) (fCons (fName 3) (fNil)))) (mYes) (mOp dMulX (rd 2) (rd 3))
def c__law_product : C := cret (mCall dSum (mcons (mfrz (m__law_product_1)) (mret [])))
def F__law_product : Fn := fres 4 2 c__law_product
theorem en__law_product (a0 a1 : D) (p : Pst) : F__law_product [a0, a1] p = sres (c__law_product [some (.val a0), some (.val a1), none, none] p) := rfl
theorem ip__law_product : IF F__law_product := if_fres _ _ (by
  unfold c__law_product
  try unfold m__law_product_1
  repeat' first | with_reducible apply im_ret | with_reducible apply im_rd | with_reducible apply im_op | with_reducible apply im_cmp | with_reducible apply im_b | with_reducible apply im_cons | with_reducible apply ic_seq | with_reducible apply ic_if | with_reducible apply ic_ret | with_reducible apply ic_reto | with_reducible apply ic_retown | with_reducible apply ic_asg | with_reducible apply ic_aso | with_reducible apply ic_frz | with_reducible apply ic_asgW | with_reducible apply ic_app | with_reducible apply ic_pop | with_reducible apply ic_expr | with_reducible apply ic_skip | with_reducible apply ic_stuck | with_reducible apply ic_brk | with_reducible apply ic_cnt | with_reducible apply ic_retN | with_reducible apply ic_for | with_reducible apply ic_while | with_reducible apply it_name | with_reducible apply it_tup | with_reducible apply it_cons | with_reducible apply it_nil | with_reducible apply im_fn | with_reducible apply im_fno | with_reducible apply im_lc | with_reducible apply im_yes | with_reducible apply im_and | with_reducible apply im_or | with_reducible apply im_not | with_reducible apply im_if | with_reducible apply im_frz | with_reducible apply im_lim | with_reducible apply im_tup | with_reducible apply im_call | with_reducible apply im_lst | with_reducible apply im_isi | with_reducible apply im_isis | with_reducible apply im_isN | with_reducible apply im_notN | with_reducible apply im_chain | with_reducible apply im_seq | with_reducible apply im_range1 | with_reducible apply im_range2 | with_reducible apply im_enum | with_reducible apply im_zip | with_reducible apply im_t | with_reducible apply im_notV | with_reducible apply im_andV | with_reducible apply im_orV | with_reducible apply im_part | with_reducible apply im_sl | with_reducible apply im_slo | with_reducible apply im_rev | with_reducible apply im_uV | with_reducible apply im_uO | with_reducible apply im_un | with_reducible apply im_opo | with_reducible apply im_ixO | with_reducible apply im_scal | with_reducible apply im_scalt | with_reducible apply im_index | with_reducible apply im_lrg1 | with_reducible apply im_lrg2 | with_reducible apply ic_ext | with_reducible apply ic_asgT | with_reducible apply it_subO | with_reducible apply im_fnO | with_reducible apply im_fnOo | with_reducible apply im_zipS | with_reducible apply im_zipR | with_reducible apply im_rev2 | with_reducible apply im_revD | with_reducible apply im_enumS | with_reducible apply im_zipS3 | with_reducible apply im_enumZ)
/-- _law_turned: slots 0 table, 1 column, 2 row -/
def N__law_turned : List Str := ["table", "column", "row"]
def ps__law_turned : List Str := ["table"]
def m__law_turned_1 : M (List D) := mLc [2] (mSeq (rd 0)) (fName 2) (mYes) (mOp dIx (rd 2) (rd 1))
def m__law_turned_2 : M (List D) := mLc [1] (mRange1 (mcons (mCall dLen (mcons (mOp dIx (rd 0) (mret (.int 0))) (mret []))) (mret []))) (fName 1) (mYes) (mCall dTuple (mcons (mfrz (m__law_turned_1)) (mret [])))
def c__law_turned : C := creto (m__law_turned_2)
def F__law_turned : Fn := fres 3 1 c__law_turned
theorem en__law_turned (a0 : D) (p : Pst) : F__law_turned [a0] p = sres (c__law_turned [some (.val a0), none, none] p) := rfl
theorem ip__law_turned : IF F__law_turned := if_fres _ _ (by
  unfold c__law_turned
  try unfold m__law_turned_2
  try unfold m__law_turned_1
  repeat' first | with_reducible apply im_ret | with_reducible apply im_rd | with_reducible apply im_op | with_reducible apply im_cmp | with_reducible apply im_b | with_reducible apply im_cons | with_reducible apply ic_seq | with_reducible apply ic_if | with_reducible apply ic_ret | with_reducible apply ic_reto | with_reducible apply ic_retown | with_reducible apply ic_asg | with_reducible apply ic_aso | with_reducible apply ic_frz | with_reducible apply ic_asgW | with_reducible apply ic_app | with_reducible apply ic_pop | with_reducible apply ic_expr | with_reducible apply ic_skip | with_reducible apply ic_stuck | with_reducible apply ic_brk | with_reducible apply ic_cnt | with_reducible apply ic_retN | with_reducible apply ic_for | with_reducible apply ic_while | with_reducible apply it_name | with_reducible apply it_tup | with_reducible apply it_cons | with_reducible apply it_nil | with_reducible apply im_fn | with_reducible apply im_fno | with_reducible apply im_lc | with_reducible apply im_yes | with_reducible apply im_and | with_reducible apply im_or | with_reducible apply im_not | with_reducible apply im_if | with_reducible apply im_frz | with_reducible apply im_lim | with_reducible apply im_tup | with_reducible apply im_call | with_reducible apply im_lst | with_reducible apply im_isi | with_reducible apply im_isis | with_reducible apply im_isN | with_reducible apply im_notN | with_reducible apply im_chain | with_reducible apply im_seq | with_reducible apply im_range1 | with_reducible apply im_range2 | with_reducible apply im_enum | with_reducible apply im_zip | with_reducible apply im_t | with_reducible apply im_notV | with_reducible apply im_andV | with_reducible apply im_orV | with_reducible apply im_part | with_reducible apply im_sl | with_reducible apply im_slo | with_reducible apply im_rev | with_reducible apply im_uV | with_reducible apply im_uO | with_reducible apply im_un | with_reducible apply im_opo | with_reducible apply im_ixO | with_reducible apply im_scal | with_reducible apply im_scalt | with_reducible apply im_index | with_reducible apply im_lrg1 | with_reducible apply im_lrg2 | with_reducible apply ic_ext | with_reducible apply ic_asgT | with_reducible apply it_subO | with_reducible apply im_fnO | with_reducible apply im_fnOo | with_reducible apply im_zipS | with_reducible apply im_zipR | with_reducible apply im_rev2 | with_reducible apply im_revD | with_reducible apply im_enumS | with_reducible apply im_zipS3 | with_reducible apply im_enumZ)
/-- _law_combined: slots 0 table, 1 vector, 2 column -/
def N__law_combined : List Str := ["table", "vector", "column"]
def ps__law_combined : List Str := ["table", "vector"]
def m__law_combined_1 : M (List D) := mLc [2] (mSeq (mFn F__law_turned 1 0 [0] (mcons (rd 0) (mret [])) (mret []))) (fName 2) (mYes) (mFn F__law_product 2 0 [0, 1] (mcons (rd 2) (mcons (rd 1) (mret []))) (mret []))
def c__law_combined : C := cret (mCall dTuple (mcons (mfrz (m__law_combined_1)) (mret [])))
def F__law_combined : Fn := fres 3 2 c__law_combined
theorem en__law_combined (a0 a1 : D) (p : Pst) : F__law_combined [a0, a1] p = sres (c__law_combined [some (.val a0), some (.val a1), none] p) := rfl
theorem ip__law_combined : IF F__law_combined := if_fres _ _ (by
  unfold c__law_combined
  try unfold m__law_combined_1
  repeat' first | exact ip__law_product | exact ip__law_turned | with_reducible apply im_ret | with_reducible apply im_rd | with_reducible apply im_op | with_reducible apply im_cmp | with_reducible apply im_b | with_reducible apply im_cons | with_reducible apply ic_seq | with_reducible apply ic_if | with_reducible apply ic_ret | with_reducible apply ic_reto | with_reducible apply ic_retown | with_reducible apply ic_asg | with_reducible apply ic_aso | with_reducible apply ic_frz | with_reducible apply ic_asgW | with_reducible apply ic_app | with_reducible apply ic_pop | with_reducible apply ic_expr | with_reducible apply ic_skip | with_reducible apply ic_stuck | with_reducible apply ic_brk | with_reducible apply ic_cnt | with_reducible apply ic_retN | with_reducible apply ic_for | with_reducible apply ic_while | with_reducible apply it_name | with_reducible apply it_tup | with_reducible apply it_cons | with_reducible apply it_nil | with_reducible apply im_fn | with_reducible apply im_fno | with_reducible apply im_lc | with_reducible apply im_yes | with_reducible apply im_and | with_reducible apply im_or | with_reducible apply im_not | with_reducible apply im_if | with_reducible apply im_frz | with_reducible apply im_lim | with_reducible apply im_tup | with_reducible apply im_call | with_reducible apply im_lst | with_reducible apply im_isi | with_reducible apply im_isis | with_reducible apply im_isN | with_reducible apply im_notN | with_reducible apply im_chain | with_reducible apply im_seq | with_reducible apply im_range1 | with_reducible apply im_range2 | with_reducible apply im_enum | with_reducible apply im_zip | with_reducible apply im_t | with_reducible apply im_notV | with_reducible apply im_andV | with_reducible apply im_orV | with_reducible apply im_part | with_reducible apply im_sl | with_reducible apply im_slo | with_reducible apply im_rev | with_reducible apply im_uV | with_reducible apply im_uO | with_reducible apply im_un | with_reducible apply im_opo | with_reducible apply im_ixO | with_reducible apply im_scal | with_reducible apply im_scalt | with_reducible apply im_index | with_reducible apply im_lrg1 | with_reducible apply im_lrg2 | with_reducible apply ic_ext | with_reducible apply ic_asgT | with_reducible apply it_subO | with_reducible apply im_fnO | with_reducible apply im_fnOo | with_reducible apply im_zipS | with_reducible apply im_zipR | with_reducible apply im_rev2 | with_reducible apply im_revD | with_reducible apply im_enumS | with_reducible apply im_zipS3 | with_reducible apply im_enumZ)
/-- _law_led: slots 0 rows, 1 columns, 2 column, 3 left, 4 at, 5 turn, 6 some, 7 row, 8 best, 9 place, 10 many, 11 one, 12 late -/
def N__law_led : List Str := ["rows", "columns", "column", "left", "at", "turn", "some", "row", "best", "place", "many", "one", "late"]
def ps__law_led : List Str := ["rows", "columns"]
def m__law_led_1 : M (List D) := mLc [7] (mSeq (rd 0)) (fName 7) (mYes) (mfrz (mLst dList (mcons (rd 7) (mret []))))
def m__law_led_2 : M (List D) := mLc [9] (mRange2 (mcons (rd 4) (mcons (mscal (mCall dLen (mcons (rd 3) (mret [])))) (mret [])))) (fName 9) (mCmp dNe (mOp dIx (mIxO 3 (rd 9)) (rd 2)) (mret (.int 0))) (rd 9)
def m__law_led_3 : M (List D) := mLc [9] (mSeq (rd 6)) (fName 9) (mYes) (mtup (mcons (mCall dAbs (mcons (mOp dIx (mIxO 3 (rd 9)) (rd 2)) (mret []))) (mcons (rd 9) (mret []))))
def m__law_led_4 : M (List D) := mLc [11, 12] (mZipS (mcons (mIxO 3 (rd 9)) (mcons (mIxO 3 (rd 8)) (mret [])))) (fTup (fCons (fName 11) (fCons (fName 12) (fNil)))) (mYes) (mOp dSub (rd 11) (mOp dMulX (rd 10) (rd 12)))
def b__law_led_5 : C := cif (mCmp dNe (rd 9) (rd 8)) (cseq (casg 10 (mOp dDiv (mOp dIx (mIxO 3 (rd 9)) (rd 2)) (mOp dIx (mIxO 3 (rd 8)) (rd 2)))) (casgT (tgSubO 3 (rd 9)) (mfrz (m__law_led_4)))) (cskip)
def b__law_led_6 : C := cseq (casg 6 (mfrz (m__law_led_2))) (cif (mCmp dGt (mCall dLen (mcons (rd 6) (mret []))) (mret (.int 1))) (cseq (casg 8 (mOp dIx (mCall dMinX (mcons (mfrz (m__law_led_3)) (mret []))) (mret (.int 1)))) (cfor (mSeq (rd 6)) (tgName 9) (b__law_led_5))) (cskip))
def b__law_led_7 : C := cseq (cfor (mRange1 (mcons (mret (.int 400)) (mret []))) (tgName 5) (b__law_led_6)) (cseq (casg 6 (mfrz (m__law_led_2))) (cif (mCmp dNe (rd 6) (mfrz (mlim (mret [])))) (cseq (casgT (tgTup 2 (tgCons (tgSubO 3 (rd 4)) (tgCons (tgSubO 3 (mOp dIx (rd 6) (mret (.int 0)))) (tgNil)))) (mtup (mcons (mIxO 3 (mOp dIx (rd 6) (mret (.int 0)))) (mcons (mIxO 3 (rd 4)) (mret []))))) (casg 4 (mOp dAdd (rd 4) (mret (.int 1))))) (cskip)))
def c__law_led : C := cseq (casgW [3, 4] (muO (m__law_led_1) (muV (mret (.int 0)) (mret [])))) (cseq (cfor (mRange1 (mcons (rd 1) (mret []))) (tgName 2) (b__law_led_7)) (cseq (cfrz 3) (cret (mtup (mcons (rd 3) (mcons (rd 4) (mret [])))))))
def F__law_led : Fn := fres 13 2 c__law_led
theorem en__law_led (a0 a1 : D) (p : Pst) : F__law_led [a0, a1] p = sres (c__law_led [some (.val a0), some (.val a1), none, none, none, none, none, none, none, none, none, none, none] p) := rfl
theorem ip__law_led : IF F__law_led := if_fres _ _ (by
  unfold c__law_led
  try unfold b__law_led_7
  try unfold b__law_led_6
  try unfold b__law_led_5
  try unfold m__law_led_4
  try unfold m__law_led_3
  try unfold m__law_led_2
  try unfold m__law_led_1
  repeat' first | with_reducible apply im_ret | with_reducible apply im_rd | with_reducible apply im_op | with_reducible apply im_cmp | with_reducible apply im_b | with_reducible apply im_cons | with_reducible apply ic_seq | with_reducible apply ic_if | with_reducible apply ic_ret | with_reducible apply ic_reto | with_reducible apply ic_retown | with_reducible apply ic_asg | with_reducible apply ic_aso | with_reducible apply ic_frz | with_reducible apply ic_asgW | with_reducible apply ic_app | with_reducible apply ic_pop | with_reducible apply ic_expr | with_reducible apply ic_skip | with_reducible apply ic_stuck | with_reducible apply ic_brk | with_reducible apply ic_cnt | with_reducible apply ic_retN | with_reducible apply ic_for | with_reducible apply ic_while | with_reducible apply it_name | with_reducible apply it_tup | with_reducible apply it_cons | with_reducible apply it_nil | with_reducible apply im_fn | with_reducible apply im_fno | with_reducible apply im_lc | with_reducible apply im_yes | with_reducible apply im_and | with_reducible apply im_or | with_reducible apply im_not | with_reducible apply im_if | with_reducible apply im_frz | with_reducible apply im_lim | with_reducible apply im_tup | with_reducible apply im_call | with_reducible apply im_lst | with_reducible apply im_isi | with_reducible apply im_isis | with_reducible apply im_isN | with_reducible apply im_notN | with_reducible apply im_chain | with_reducible apply im_seq | with_reducible apply im_range1 | with_reducible apply im_range2 | with_reducible apply im_enum | with_reducible apply im_zip | with_reducible apply im_t | with_reducible apply im_notV | with_reducible apply im_andV | with_reducible apply im_orV | with_reducible apply im_part | with_reducible apply im_sl | with_reducible apply im_slo | with_reducible apply im_rev | with_reducible apply im_uV | with_reducible apply im_uO | with_reducible apply im_un | with_reducible apply im_opo | with_reducible apply im_ixO | with_reducible apply im_scal | with_reducible apply im_scalt | with_reducible apply im_index | with_reducible apply im_lrg1 | with_reducible apply im_lrg2 | with_reducible apply ic_ext | with_reducible apply ic_asgT | with_reducible apply it_subO | with_reducible apply im_fnO | with_reducible apply im_fnOo | with_reducible apply im_zipS | with_reducible apply im_zipR | with_reducible apply im_rev2 | with_reducible apply im_revD | with_reducible apply im_enumS | with_reducible apply im_zipS3 | with_reducible apply im_enumZ)
/-- _law_kernel: slots 0 table, 1 wide, 2 rows, 3 at, 4 row, 5 late -/
def N__law_kernel : List Str := ["table", "wide", "rows", "at", "row", "late"]
def ps__law_kernel : List Str := ["table"]
def m__law_kernel_1 : M (List D) := mLc [5] (mRange1 (mcons (mCall dLen (mcons (rd 0) (mret []))) (mret []))) (fName 5) (mYes) (mCall dInt (mcons (mB (mCmp dEq (rd 5) (rd 3))) (mret [])))
def m__law_kernel_2 : M (List D) := mLc [3, 4] (mEnum (mcons (rd 0) (mret []))) (fTup (fCons (fName 3) (fCons (fName 4) (fNil)))) (mYes) (mOp dAdd (mCall dTuple (mcons (rd 4) (mret []))) (mCall dTuple (mcons (mfrz (m__law_kernel_1)) (mret []))))
def m__law_kernel_3 : M (List D) := mLc [4] (mSeq (mSl (rd 2) (mPart (rd 3)) (mret none))) (fName 4) (mYes) (mCall dTuple (mcons (mSl (rd 4) (mPart (mCall dLen (mcons (mOp dIx (rd 0) (mret (.int 0))) (mret [])))) (mret none)) (mret [])))
def c__law_kernel : C := cseq (casg 1 (mfrz (m__law_kernel_2))) (cseq (casgT (tgTup 2 (tgCons (tgName 2) (tgCons (tgName 3) (tgNil)))) (mFn F__law_led 2 0 [0, 1] (mcons (rd 1) (mcons (mCall dLen (mcons (mOp dIx (rd 0) (mret (.int 0))) (mret []))) (mret []))) (mret []))) (creto (m__law_kernel_3)))
def F__law_kernel : Fn := fres 6 1 c__law_kernel
theorem en__law_kernel (a0 : D) (p : Pst) : F__law_kernel [a0] p = sres (c__law_kernel [some (.val a0), none, none, none, none, none] p) := rfl
theorem ip__law_kernel : IF F__law_kernel := if_fres _ _ (by
  unfold c__law_kernel
  try unfold m__law_kernel_3
  try unfold m__law_kernel_2
  try unfold m__law_kernel_1
  repeat' first | exact ip__law_led | with_reducible apply im_ret | with_reducible apply im_rd | with_reducible apply im_op | with_reducible apply im_cmp | with_reducible apply im_b | with_reducible apply im_cons | with_reducible apply ic_seq | with_reducible apply ic_if | with_reducible apply ic_ret | with_reducible apply ic_reto | with_reducible apply ic_retown | with_reducible apply ic_asg | with_reducible apply ic_aso | with_reducible apply ic_frz | with_reducible apply ic_asgW | with_reducible apply ic_app | with_reducible apply ic_pop | with_reducible apply ic_expr | with_reducible apply ic_skip | with_reducible apply ic_stuck | with_reducible apply ic_brk | with_reducible apply ic_cnt | with_reducible apply ic_retN | with_reducible apply ic_for | with_reducible apply ic_while | with_reducible apply it_name | with_reducible apply it_tup | with_reducible apply it_cons | with_reducible apply it_nil | with_reducible apply im_fn | with_reducible apply im_fno | with_reducible apply im_lc | with_reducible apply im_yes | with_reducible apply im_and | with_reducible apply im_or | with_reducible apply im_not | with_reducible apply im_if | with_reducible apply im_frz | with_reducible apply im_lim | with_reducible apply im_tup | with_reducible apply im_call | with_reducible apply im_lst | with_reducible apply im_isi | with_reducible apply im_isis | with_reducible apply im_isN | with_reducible apply im_notN | with_reducible apply im_chain | with_reducible apply im_seq | with_reducible apply im_range1 | with_reducible apply im_range2 | with_reducible apply im_enum | with_reducible apply im_zip | with_reducible apply im_t | with_reducible apply im_notV | with_reducible apply im_andV | with_reducible apply im_orV | with_reducible apply im_part | with_reducible apply im_sl | with_reducible apply im_slo | with_reducible apply im_rev | with_reducible apply im_uV | with_reducible apply im_uO | with_reducible apply im_un | with_reducible apply im_opo | with_reducible apply im_ixO | with_reducible apply im_scal | with_reducible apply im_scalt | with_reducible apply im_index | with_reducible apply im_lrg1 | with_reducible apply im_lrg2 | with_reducible apply ic_ext | with_reducible apply ic_asgT | with_reducible apply it_subO | with_reducible apply im_fnO | with_reducible apply im_fnOo | with_reducible apply im_zipS | with_reducible apply im_zipR | with_reducible apply im_rev2 | with_reducible apply im_revD | with_reducible apply im_enumS | with_reducible apply im_zipS3 | with_reducible apply im_enumZ)
/-- _law_chain: slots 0 pot, 1 ends, 2 line, 3 face, 4 points, 5 lines, 6 faces, 7 way, 8 row, 9 kernel, 10 rows, 11 one, 12 many, 13 begin, 14 end, 15 point, 16 near, 17 far -/
def N__law_chain : List Str := ["pot", "ends", "line", "face", "points", "lines", "faces", "way", "row", "kernel", "rows", "one", "many", "begin", "end", "point", "near", "far"]
def ps__law_chain : List Str := ["pot"]
def m__law_chain_1 : M (List D) := mLc [15] (mRange1 (mcons (rd 4) (mret []))) (fName 15) (mYes) (mOp dSub (mFn F__law_draw 2 0 [0, 1] (mcons (rd 0) (mcons (mret (.int 5)) (mret []))) (mret [])) (mret (.int 2)))
def b__law_chain_2 : C := cseq (caso 8 (mOpo dRepO (mfrz (mlim (mcons (mret (.int 0)) (mret [])))) (rd 4))) (cseq (cif (mCmp dEq (rd 7) (mret (.int 0))) (caso 8 (m__law_chain_1)) (cseq (casgW [13, 14] (muV (mFn F__law_draw 2 0 [0, 1] (mcons (rd 0) (mcons (rd 4) (mret []))) (mret [])) (muV (mFn F__law_draw 2 0 [0, 1] (mcons (rd 0) (mcons (rd 4) (mret []))) (mret [])) (mret [])))) (cseq (casgT (tgSubO 8 (rd 13)) (mOp dSub (mIxO 8 (rd 13)) (mret (.int 1)))) (casgT (tgSubO 8 (rd 14)) (mOp dAdd (mIxO 8 (rd 14)) (mret (.int 1))))))) (cseq (cfrz 8) (capp 1 (mCall dTuple (mcons (rd 8) (mret []))))))
def m__law_chain_3 : M (List D) := mLc [16, 17] (mZipS (mcons (rd 8) (mcons (rd 11) (mret [])))) (fTup (fCons (fName 16) (fCons (fName 17) (fNil)))) (mYes) (mOp dAdd (rd 16) (mOp dMulX (rd 12) (rd 17)))
def b__law_chain_4 : C := cseq (casg 12 (mOp dSub (mFn F__law_draw 2 0 [0, 1] (mcons (rd 0) (mcons (mret (.int 5)) (mret []))) (mret [])) (mret (.int 2)))) (casg 8 (mCall dTuple (mcons (mfrz (m__law_chain_3)) (mret []))))
def m__law_chain_5 : M (List D) := mLc [11] (mSeq (rd 8)) (fName 11) (mYes) (mCall dAbs (mcons (rd 11) (mret [])))
def b__law_chain_6 : C := cseq (casg 8 (mOp dMulX (mtup (mcons (mret (.int 0)) (mret []))) (rd 5))) (cseq (cfor (mSeq (rd 9)) (tgName 11) (b__law_chain_4)) (capp 10 (mIf (mCmp dLt (mCall dMax1 (mcons (mfrz (m__law_chain_5)) (mret []))) (mret (.int 100))) (rd 8) (mOp dMulX (mtup (mcons (mret (.int 0)) (mret []))) (rd 5)))))
def c__law_chain : C := cseq (casgW [4, 5, 6, 7] (muV (mOp dAdd (mret (.int 1)) (mFn F__law_draw 2 0 [0, 1] (mcons (rd 0) (mcons (mret (.int 4)) (mret []))) (mret []))) (muV (mOp dAdd (mret (.int 1)) (mFn F__law_draw 2 0 [0, 1] (mcons (rd 0) (mcons (mret (.int 4)) (mret []))) (mret []))) (muV (mOp dAdd (mret (.int 1)) (mFn F__law_draw 2 0 [0, 1] (mcons (rd 0) (mcons (mret (.int 4)) (mret []))) (mret []))) (muV (mFn F__law_draw 2 0 [0, 1] (mcons (rd 0) (mcons (mret (.int 3)) (mret []))) (mret [])) (mret [])))))) (cseq (caso 1 (mlim (mret []))) (cseq (cfor (mRange1 (mcons (rd 5) (mret []))) (tgName 2) (b__law_chain_2)) (cseq (cfrz 1) (cseq (casgW [9, 10] (muV (mFn F__law_kernel 1 0 [0] (mcons (rd 1) (mret [])) (mret [])) (muO (mlim (mret [])) (mret [])))) (cseq (cfor (mRange1 (mcons (rd 6) (mret []))) (tgName 3) (b__law_chain_6)) (cseq (cfrz 10) (cret (mtup (mcons (rd 10) (mcons (rd 1) (mret [])))))))))))
def F__law_chain : Fn := fres 18 1 c__law_chain
theorem en__law_chain (a0 : D) (p : Pst) : F__law_chain [a0] p = sres (c__law_chain [some (.val a0), none, none, none, none, none, none, none, none, none, none, none, none, none, none, none, none, none] p) := rfl
/-- _law_round: slots 0 pot, 1 chain, 2 found, 3 one, 4 many, 5 late, 6 near, 7 far, 8 number -/
def N__law_round : List Str := ["pot", "chain", "found", "one", "many", "late", "near", "far", "number"]
def ps__law_round : List Str := ["pot", "chain"]
def m__law_round_1 : M (List D) := mLc [6, 7] (mZipS (mcons (rd 2) (mcons (rd 3) (mret [])))) (fTup (fCons (fName 6) (fCons (fName 7) (fNil)))) (mYes) (mOp dAdd (rd 6) (mOp dMulX (rd 4) (rd 7)))
def m__law_round_2 : M (List D) := mLc [8] (mSeq (rd 5)) (fName 8) (mYes) (mCall dAbs (mcons (rd 8) (mret [])))
def b__law_round_3 : C := cseq (casg 4 (mOp dSub (mFn F__law_draw 2 0 [0, 1] (mcons (rd 0) (mcons (mret (.int 5)) (mret []))) (mret [])) (mret (.int 2)))) (cseq (casg 5 (mCall dTuple (mcons (mfrz (m__law_round_1)) (mret [])))) (casg 2 (mIf (mCmp dLt (mCall dMax1 (mcons (mfrz (m__law_round_2)) (mret []))) (mret (.int 100))) (rd 5) (rd 2))))
def c__law_round : C := cseq (casg 2 (mOp dMulX (mtup (mcons (mret (.int 0)) (mret []))) (mCall dLen (mcons (mOp dIx (rd 1) (mret (.int 1))) (mret []))))) (cseq (cfor (mSeq (mOp dAdd (mFn F__law_kernel 1 0 [0] (mcons (mOp dIx (rd 1) (mret (.int 1))) (mret [])) (mret [])) (mOp dIx (rd 1) (mret (.int 0))))) (tgName 3) (b__law_round_3)) (cret (rd 2)))
def F__law_round : Fn := fres 9 2 c__law_round
theorem en__law_round (a0 a1 : D) (p : Pst) : F__law_round [a0, a1] p = sres (c__law_round [some (.val a0), some (.val a1), none, none, none, none, none, none, none] p) := rfl
/-- _law_right: slots 0 pot, 1 chain, 2 turn, 3 back, 4 line, 5 face, 6 faces, 7 ends, 8 shown, 9 nothing, 10 lines, 11 due, 12 parts, 13 told, 14 one, 15 both, 16 mixed, 17 near, 18 far, 19 at -/
def N__law_right : List Str := ["pot", "chain", "turn", "back", "line", "face", "faces", "ends", "shown", "nothing", "lines", "due", "parts", "told", "one", "both", "mixed", "near", "far", "at"]
def ps__law_right : List Str := ["pot"]
def m__law_right_1 : M (List D) := mLc [4] (mSeq (rd 7)) (fName 4) (mYes) (mOp dSub (mFn F__law_draw 2 0 [0, 1] (mcons (rd 0) (mcons (mret (.int 199)) (mret []))) (mret [])) (mret (.int 99)))
def m__law_right_2 : M (List D) := mLc [5] (mSeq (rd 6)) (fName 5) (mYes) (mOp dSub (mFn F__law_draw 2 0 [0, 1] (mcons (rd 0) (mcons (mret (.int 7)) (mret []))) (mret [])) (mret (.int 3)))
def m__law_right_3 : M (List D) := mLc [17, 18] (mZipS (mcons (rd 14) (mcons (rd 13) (mret [])))) (fTup (fCons (fName 17) (fCons (fName 18) (fNil)))) (mYes) (mOp dAdd (rd 17) (rd 18))
def m__law_right_4 : M (List D) := mLc [17, 18] (mZipS (mcons (rd 14) (mcons (rd 10) (mret [])))) (fTup (fCons (fName 17) (fCons (fName 18) (fNil)))) (mYes) (mOp dAdd (rd 17) (rd 18))
def b__law_right_5 : C := cseq (casg 10 (mCall dTuple (mcons (mfrz (m__law_right_1)) (mret [])))) (cseq (casg 11 (mFn F__law_combined 2 0 [0, 1] (mcons (rd 7) (mcons (rd 10) (mret []))) (mret []))) (cseq (cif (mCmp dNe (mCall dReprE (mcons (mfrz (mlim (mcons (mFn F_ends_of 2 0 [0, 1] (mcons (rd 1) (mcons (rd 10) (mret []))) (mret [])) (mcons (mFn F_ends_of 0 2 [1, 0] (mret []) (mcons (rd 10) (mcons (mtup (mcons (mCall dTuple (mcons (rd 6) (mret []))) (mcons (mCall dTuple (mcons (rd 7) (mret []))) (mret [])))) (mret [])))) (mcons (mFn F_combined 2 0 [0, 1] (mcons (rd 7) (mcons (rd 10) (mret []))) (mret [])) (mret [])))))) (mret []))) (mCall dReprE (mcons (mOp dMulX (mfrz (mlim (mcons (rd 11) (mret [])))) (mret (.int 3))) (mret [])))) (cret (mret (.bl false))) (cskip)) (cseq (cif (mCmp dNe (mCall dReprE (mcons (mfrz (mlim (mcons (mFn F_is_round 2 0 [0, 1] (mcons (rd 1) (mcons (rd 10) (mret []))) (mret [])) (mcons (mFn F_is_round 0 2 [1, 0] (mret []) (mcons (rd 10) (mcons (rd 1) (mret [])))) (mret []))))) (mret []))) (mCall dReprE (mcons (mOp dMulX (mfrz (mlim (mcons (mB (mCmp dEq (rd 11) (rd 9))) (mret [])))) (mret (.int 2))) (mret [])))) (cret (mret (.bl false))) (cskip)) (cseq (casg 12 (mCall dTuple (mcons (mfrz (m__law_right_2)) (mret [])))) (cseq (casg 13 (mFn F__law_combined 2 0 [0, 1] (mcons (rd 6) (mcons (rd 12) (mret []))) (mret []))) (cseq (cif (mOr (mCmp dNe (mCall dReprE (mcons (mfrz (mlim (mcons (mFn F_rim 2 0 [0, 1] (mcons (rd 1) (mcons (rd 12) (mret []))) (mret [])) (mcons (mFn F_rim 0 2 [1, 0] (mret []) (mcons (rd 12) (mcons (rd 1) (mret [])))) (mcons (mFn F_combined 2 0 [0, 1] (mcons (rd 6) (mcons (rd 12) (mret []))) (mret [])) (mret [])))))) (mret []))) (mCall dReprE (mcons (mOp dMulX (mfrz (mlim (mcons (rd 13) (mret [])))) (mret (.int 3))) (mret [])))) (mCmp dNotB (mFn F_is_round 2 0 [0, 1] (mcons (rd 1) (mcons (rd 13) (mret []))) (mret [])) (mret (.bl true)))) (cret (mret (.bl false))) (cskip)) (cseq (casg 14 (mFn F__law_round 2 0 [0, 1] (mcons (rd 0) (mcons (rd 1) (mret []))) (mret []))) (cseq (casg 15 (mCall dTuple (mcons (mfrz (m__law_right_3)) (mret [])))) (cseq (cif (mOr (mCmp dNotB (mFn F_is_round 2 0 [0, 1] (mcons (rd 1) (mcons (rd 14) (mret []))) (mret [])) (mret (.bl true))) (mOr (mCmp dNotB (mFn F_is_round 2 0 [0, 1] (mcons (rd 1) (mcons (rd 15) (mret []))) (mret [])) (mret (.bl true))) (mCmp dNe (mFn F_ends_of 2 0 [0, 1] (mcons (rd 1) (mcons (rd 14) (mret []))) (mret [])) (rd 9)))) (cret (mret (.bl false))) (cskip)) (cseq (casg 16 (mCall dTuple (mcons (mfrz (m__law_right_4)) (mret [])))) (cif (mCmp dNe (mFn F_is_round 2 0 [0, 1] (mcons (rd 1) (mcons (rd 16) (mret []))) (mret [])) (mB (mCmp dEq (rd 11) (rd 9)))) (cret (mret (.bl false))) (cskip))))))))))))
def m__law_right_6 : M (List D) := mLc [19] (mRange1 (mcons (mCall dLen (mcons (rd 7) (mret []))) (mret []))) (fName 19) (mYes) (mCall dInt (mcons (mB (mCmp dEq (rd 19) (rd 4))) (mret [])))
def b__law_right_7 : C := cif (mCmp dNe (mFn F_ends_of 2 0 [0, 1] (mcons (rd 1) (mcons (mCall dTuple (mcons (mfrz (m__law_right_6)) (mret []))) (mret []))) (mret [])) (mOp dIx (rd 7) (rd 4))) (cret (mret (.bl false))) (cskip)
def m__law_right_8 : M (List D) := mLc [19] (mRange1 (mcons (mCall dLen (mcons (rd 6) (mret []))) (mret []))) (fName 19) (mYes) (mCall dInt (mcons (mB (mCmp dEq (rd 19) (rd 5))) (mret [])))
def b__law_right_9 : C := cif (mCmp dNe (mFn F_rim 2 0 [0, 1] (mcons (rd 1) (mcons (mCall dTuple (mcons (mfrz (m__law_right_8)) (mret []))) (mret []))) (mret [])) (mOp dIx (rd 6) (rd 5))) (cret (mret (.bl false))) (cskip)
def c__law_right : C := cseq (casg 1 (mFn F__law_chain 1 0 [0] (mcons (rd 0) (mret [])) (mret []))) (cseq (casgT (tgTup 2 (tgCons (tgName 6) (tgCons (tgName 7) (tgNil)))) (rd 1)) (cseq (casgW [8, 9] (muV (mCall dReprE (mcons (rd 1) (mret []))) (muV (mOp dMulX (mtup (mcons (mret (.int 0)) (mret []))) (mCall dLen (mcons (mOp dIx (rd 7) (mret (.int 0))) (mret [])))) (mret [])))) (cseq (cif (mOr (mCmp dNotB (mFn F_is_chain 1 0 [0] (mcons (rd 1) (mret [])) (mret [])) (mret (.bl true))) (mCmp dNe (mFn F_times_table 2 0 [0, 1] (mcons (rd 6) (mcons (rd 7) (mret []))) (mret [])) (mOp dMulX (mfrz (mlim (mcons (rd 9) (mret [])))) (mCall dLen (mcons (rd 6) (mret [])))))) (cret (mret (.bl false))) (cskip)) (cseq (cfor (mRange1 (mcons (mret (.int 3)) (mret []))) (tgName 2) (b__law_right_5)) (cseq (casg 3 (mFn F_turned_chain 1 0 [0] (mcons (rd 1) (mret [])) (mret []))) (cseq (cif (mOr (mCmp dNe (mCall dReprE (mcons (mfrz (mlim (mcons (rd 3) (mcons (mFn F_turned_chain 0 1 [0] (mret []) (mcons (rd 1) (mret []))) (mret []))))) (mret []))) (mCall dReprE (mcons (mOp dMulX (mfrz (mlim (mcons (mtup (mcons (mFn F__law_turned 1 0 [0] (mcons (rd 7) (mret [])) (mret [])) (mcons (mFn F__law_turned 1 0 [0] (mcons (rd 6) (mret [])) (mret [])) (mret [])))) (mret [])))) (mret (.int 2))) (mret [])))) (mCmp dNotB (mFn F_is_chain 1 0 [0] (mcons (rd 3) (mret [])) (mret [])) (mret (.bl true)))) (cret (mret (.bl false))) (cskip)) (cseq (cif (mOr (mCmp dNe (mFn F_turned_chain 1 0 [0] (mcons (rd 3) (mret [])) (mret [])) (mtup (mcons (mfrz (mLst dList (mcons (rd 6) (mret [])))) (mcons (mfrz (mLst dList (mcons (rd 7) (mret [])))) (mret []))))) (mCmp dNe (rd 3) (mtup (mcons (mFn F_turned 1 0 [0] (mcons (rd 7) (mret [])) (mret [])) (mcons (mFn F_turned 1 0 [0] (mcons (rd 6) (mret [])) (mret [])) (mret [])))))) (cret (mret (.bl false))) (cskip)) (cseq (cfor (mRange1 (mcons (mCall dLen (mcons (rd 7) (mret []))) (mret []))) (tgName 4) (b__law_right_7)) (cseq (cfor (mRange1 (mcons (mCall dLen (mcons (rd 6) (mret []))) (mret []))) (tgName 5) (b__law_right_9)) (cret (mB (mCmp dEq (mCall dReprE (mcons (rd 1) (mret []))) (rd 8)))))))))))))
def F__law_right : Fn := fres 20 1 c__law_right
theorem en__law_right (a0 : D) (p : Pst) : F__law_right [a0] p = sres (c__law_right [some (.val a0), none, none, none, none, none, none, none, none, none, none, none, none, none, none, none, none, none, none, none] p) := rfl
/-- law: slots 0 script, 1 k -/
def N_law : List Str := ["script", "k"]
def ps_law : List Str := ["script"]
def m_law_1 : M (List D) := mLc [1] (mRange1 (mcons (mCall dMax2 (mcons (mret (.int 1)) (mcons (mCall dMin2 (mcons (mret (.int 2)) (mcons (mCall dLen (mcons (rd 0) (mret []))) (mret [])))) (mret [])))) (mret []))) (fName 1) (mYes) (mFn F__law_right 1 0 [0] (mcons (mFn F__law_pot 2 0 [0, 1] (mcons (rd 0) (mcons (rd 1) (mret []))) (mret [])) (mret [])) (mret []))
def c_law : C := cret (mCall dAll (mcons (mfrz (m_law_1)) (mret [])))
def F_law : Fn := fres 2 1 c_law
theorem en_law (a0 : D) (p : Pst) : F_law [a0] p = sres (c_law [some (.val a0), none] p) := rfl
end PF

namespace PF
/-! ### rows of whole numbers -/
abbrev Row := List Int
def dot (a b : Row) : Int := (List.zipWith (fun x y => x * y) a b).sum
def vadd (u : Row) (k : Int) (v : Row) : Row := List.zipWith (fun a b => a + k * b) u v
def col (t : List Row) (c : Nat) : Row := t.map fun r => r.getD c 0
def comb (t : List Row) (w : Nat) (v : Row) : Row := (List.range w).map fun c => dot (col t c) v
theorem dot_vadd : ∀ (a u v : Row) (k : Int), u.length = a.length → v.length = a.length → dot a (vadd u k v) = dot a u + k * dot a v
  | [], [], [], k, _, _ => by simp [dot, vadd]
  | x :: a, p :: u, q :: v, k, h1, h2 => by
    have ih := dot_vadd a u v k (by simpa using h1) (by simpa using h2)
    simp only [dot, vadd, List.zipWith_cons_cons, List.sum_cons] at ih ⊢
    rw [ih]; grind
theorem dot_zero : ∀ (a : Row) (n : Nat), dot a (List.replicate n 0) = 0
  | [], n => by simp [dot]
  | x :: a, 0 => by simp [dot]
  | x :: a, n + 1 => by
    have := dot_zero a n
    simp only [dot, List.replicate_succ, List.zipWith_cons_cons, List.sum_cons] at this ⊢
    rw [this]; simp
theorem vadd_len {u v : Row} {k : Int} (h : u.length = v.length) : (vadd u k v).length = u.length := by
  unfold vadd
  rw [List.length_zipWith]; omega
theorem vadd_get {u v : Row} (k : Int) (h : u.length = v.length) (c : Nat) : (vadd u k v).getD c 0 = u.getD c 0 + k * v.getD c 0 := by
  simp only [List.getD_eq_getElem?_getD]
  unfold vadd
  rw [List.getElem?_zipWith]
  by_cases hc : c < u.length
  · rw [List.getElem?_eq_getElem hc, List.getElem?_eq_getElem (by omega)]
    rfl
  · rw [List.getElem?_eq_none (by omega), List.getElem?_eq_none (by omega)]
    simp
theorem row_ext {u v : Row} (h : u.length = v.length) (e : ∀ c, c < u.length → u.getD c 0 = v.getD c 0) : u = v := by
  apply List.ext_getElem h
  intro i h1 h2
  have := e i h1
  simpa [List.getD_eq_getElem?_getD, List.getElem?_eq_getElem h1, List.getElem?_eq_getElem h2] using this
theorem col_len (t : List Row) (c : Nat) : (col t c).length = t.length := List.length_map _
theorem comb_len (t : List Row) (w : Nat) (v : Row) : (comb t w v).length = w := by simp [comb]
theorem comb_get (t : List Row) {w c : Nat} (v : Row) (h : c < w) : (comb t w v).getD c 0 = dot (col t c) v := by
  unfold comb
  rw [List.getD_eq_getElem?_getD, List.getElem?_map, List.getElem?_range h]
  rfl
/-- a tuple that a table leads to noughts -/
def IsK (t : List Row) (w : Nat) (v : Row) : Prop := v.length = t.length ∧ ∀ c, c < w → dot (col t c) v = 0
theorem isK_comb {t : List Row} {w : Nat} {v : Row} (h : v.length = t.length) : IsK t w v ↔ comb t w v = List.replicate w 0 := by
  constructor
  · rintro ⟨_, h2⟩
    refine row_ext (by rw [comb_len, List.length_replicate]) fun c hc => ?_
    rw [comb_len] at hc
    rw [comb_get _ _ hc, h2 c hc, List.getD_eq_getElem?_getD, List.getElem?_replicate, if_pos hc]
    rfl
  · intro e
    refine ⟨h, fun c hc => ?_⟩
    have := comb_get t v hc
    rw [e, List.getD_eq_getElem?_getD, List.getElem?_replicate, if_pos hc] at this
    exact this.symm
theorem isK_zero (t : List Row) (w : Nat) : IsK t w (List.replicate t.length 0) := ⟨by simp, fun c _ => dot_zero _ _⟩
theorem isK_add {t : List Row} {w : Nat} {u v : Row} (k : Int) (h1 : IsK t w u) (h2 : IsK t w v) : IsK t w (vadd u k v) := by
  have hl : u.length = v.length := h1.1.trans h2.1.symm
  refine ⟨by rw [vadd_len hl, h1.1], fun c hc => ?_⟩
  rw [dot_vadd _ _ _ _ (by rw [col_len]; exact h1.1) (by rw [col_len]; exact h2.1), h1.2 c hc, h2.2 c hc]
  simp
/-- comb behind a sum -/
theorem comb_vadd {t : List Row} {w : Nat} {u v : Row} (k : Int) (h1 : u.length = t.length) (h2 : v.length = t.length) : comb t w (vadd u k v) = vadd (comb t w u) k (comb t w v) := by
  refine row_ext (by rw [vadd_len (by rw [comb_len, comb_len]), comb_len, comb_len]) fun c hc => ?_
  rw [comb_len] at hc
  rw [comb_get _ _ hc, vadd_get k (by rw [comb_len, comb_len]), comb_get _ _ hc, comb_get _ _ hc, dot_vadd _ _ _ _ (by rw [col_len]; exact h1) (by rw [col_len]; exact h2)]
/-- a table's rows combined are a sum of them -/
theorem comb_isK {t : List Row} {w : Nat} : ∀ (fs : List Row) (xs : Row), (∀ f ∈ fs, IsK t w f) → xs.length = fs.length → IsK t w (comb fs t.length xs)
  | [], [], _, _ => by
    have : comb [] t.length [] = List.replicate t.length 0 := by
      refine row_ext (by rw [comb_len, List.length_replicate]) fun c hc => ?_
      rw [comb_len] at hc
      rw [comb_get _ _ hc, List.getD_eq_getElem?_getD, List.getElem?_replicate, if_pos hc]
      rfl
    rw [this]
    exact isK_zero t w
  | f :: fs, x :: xs, h, hl => by
    have ih := comb_isK fs xs (fun g hg => h g (List.mem_cons_of_mem _ hg)) (by simpa using hl)
    have hf := h f List.mem_cons_self
    have e : comb (f :: fs) t.length (x :: xs) = vadd (comb fs t.length xs) x f := by
      refine row_ext (by rw [comb_len, vadd_len (by rw [comb_len, hf.1]), comb_len]) fun c hc => ?_
      rw [comb_len] at hc
      rw [comb_get _ _ hc, vadd_get x (by rw [comb_len, hf.1]), comb_get _ _ hc]
      simp only [col, List.map_cons, dot, List.zipWith_cons_cons, List.sum_cons]
      rw [Int.mul_comm, Int.add_comm]
    rw [e]
    exact isK_add x ih hf
theorem dot_comm : ∀ a b : Row, dot a b = dot b a
  | [], b => by simp [dot]
  | x :: a, [] => by simp [dot]
  | x :: a, y :: b => by
    have := dot_comm a b
    simp only [dot, List.zipWith_cons_cons, List.sum_cons] at this ⊢
    rw [this, Int.mul_comm]
/-- columns as rows -/
def turnT (t : List Row) (w : Nat) : List Row := (List.range w).map (col t)
theorem turnT_len (t : List Row) (w : Nat) : (turnT t w).length = w := by simp [turnT]
theorem col_turnT {t : List Row} {w : Nat} (h : ∀ r ∈ t, r.length = w) (i : Nat) (hi : i < t.length) : col (turnT t w) i = t[i] := by
  have hl := h t[i] (List.getElem_mem hi)
  refine row_ext (by rw [col_len, turnT_len, hl]) fun c hc => ?_
  rw [col_len, turnT_len] at hc
  simp only [col, turnT, List.map_map, List.getD_eq_getElem?_getD, List.getElem?_map, List.getElem?_range hc, List.getElem?_eq_getElem hi, Option.map_some, Option.getD_some, Function.comp]
theorem turn_turn {t : List Row} {w : Nat} (h : ∀ r ∈ t, r.length = w) : turnT (turnT t w) t.length = t := by
  apply List.ext_getElem
  · simp [turnT]
  · intro i h1 h2
    have : (turnT (turnT t w) t.length)[i] = col (turnT t w) i := by simp [turnT]
    rw [this, col_turnT h i h2]
end PF

namespace PF
/-! ### floor division -/
theorem fdiv_rem (a b : Int) (hb : b ≠ 0) : ∃ r, a = a.fdiv b * b + r ∧ r.natAbs < b.natAbs ∧ 0 ≤ r * b ∧ (a.natAbs = b.natAbs → r = 0) := by
  have key : ∀ a b : Int, 0 < b → ∃ r, a = a.fdiv b * b + r ∧ 0 ≤ r ∧ r < b := fun a b h => by
    refine ⟨a % b, ?_, Int.emod_nonneg _ (by omega), Int.emod_lt_of_pos _ h⟩
    rw [Int.fdiv_eq_ediv_of_nonneg _ (by omega)]
    have := Int.emod_add_mul_ediv a b
    rw [Int.mul_comm] at this
    omega
  have main : ∃ r, a = a.fdiv b * b + r ∧ r.natAbs < b.natAbs ∧ 0 ≤ r * b := by
    rcases Int.lt_or_gt_of_ne hb with h | h
    · obtain ⟨r, h1, h2, h3⟩ := key (-a) (-b) (by omega)
      have e : (-a).fdiv (-b) = a.fdiv b := Int.neg_fdiv_neg a b
      rw [e, Int.mul_neg] at h1
      refine ⟨-r, by omega, by omega, ?_⟩
      rw [Int.neg_mul, ← Int.mul_neg]
      exact Int.mul_nonneg h2 (by omega)
    · obtain ⟨r, h1, h2, h3⟩ := key a b h
      exact ⟨r, h1, by omega, Int.mul_nonneg h2 (by omega)⟩
  obtain ⟨r, h1, h2, h3⟩ := main
  refine ⟨r, h1, h2, h3, fun e => ?_⟩
  have hd : b ∣ a := by
    rcases Int.natAbs_eq_natAbs_iff.mp e with k | k
    · rw [k]; exact ⟨1, by simp⟩
    · rw [k]; exact ⟨-1, by simp⟩
  have hr : b ∣ r := by
    have : r = a - a.fdiv b * b := by omega
    rw [this]
    exact Int.dvd_sub hd ⟨a.fdiv b, Int.mul_comm _ _⟩
  obtain ⟨k, hk⟩ := hr
  by_cases k0 : k = 0
  · rw [hk, k0, Int.mul_zero]
  · exfalso
    have : b.natAbs ≤ r.natAbs := by
      rw [hk, Int.natAbs_mul]
      exact Nat.le_mul_of_pos_right _ (by omega)
    omega
theorem fdiv_abs (a b : Int) (hb : b ≠ 0) : (a.fdiv b).natAbs * b.natAbs ≤ a.natAbs + b.natAbs - 1 := by
  obtain ⟨r, h1, h2, _, _⟩ := fdiv_rem a b hb
  have : (a.fdiv b * b).natAbs ≤ a.natAbs + r.natAbs := by
    have : a.fdiv b * b = a - r := by omega
    rw [this]; omega
  rw [Int.natAbs_mul] at this
  omega
/-! ### rows led on -/
def ent (rows : List Row) (i c : Nat) : Int := (rows.getD i []).getD c 0
structure Core (T : List Row) (w n at_ c : Nat) (rows : List Row) : Prop where
  len : rows.length = n
  rl : ∀ i, i < n → (rows.getD i []).length = w + n
  kr : ∀ i, i < n → ∀ c', c' < w → ent rows i c' = dot (col T c') ((rows.getD i []).drop w)
  zr : ∀ i, i < n → at_ ≤ i → ∀ c', c' < c → ent rows i c' = 0
def Turned (rows rows' : List Row) (n at_ c best : Nat) : Prop := rows'.length = n ∧ ∀ i, i < n →
  rows'.getD i [] = if at_ ≤ i ∧ i ≠ best ∧ ent rows i c ≠ 0 then vadd (rows.getD i []) (-(ent rows i c).fdiv (ent rows best c)) (rows.getD best []) else rows.getD i []
theorem drop_vadd (u v : Row) (k : Int) (w : Nat) : (vadd u k v).drop w = vadd (u.drop w) k (v.drop w) := by
  unfold vadd
  rw [List.drop_zipWith]
theorem core_turned {T : List Row} {w n at_ c best : Nat} {rows rows' : List Row} (hT : T.length = n) (h : Core T w n at_ c rows) (ht : Turned rows rows' n at_ c best) (hb : best < n) (hab : at_ ≤ best) : Core T w n at_ c rows' := by
  obtain ⟨h1, h2⟩ := ht
  have lb := h.rl best hb
  refine ⟨h1, fun i hi => ?_, fun i hi c' hc' => ?_, fun i hi hai c' hc' => ?_⟩
  · rw [h2 i hi]
    split
    · rw [vadd_len (by rw [h.rl i hi, lb]), h.rl i hi]
    · exact h.rl i hi
  · unfold ent
    rw [h2 i hi]
    split
    · have li := h.rl i hi
      rw [vadd_get _ (by rw [li, lb]), drop_vadd, dot_vadd _ _ _ _ (by rw [col_len, List.length_drop, li, hT]; omega) (by rw [col_len, List.length_drop, lb, hT]; omega)]
      have e1 := h.kr i hi c' hc'
      have e2 := h.kr best hb c' hc'
      unfold ent at e1 e2
      rw [e1, e2]
    · exact h.kr i hi c' hc'
  · unfold ent
    rw [h2 i hi]
    split
    · rw [vadd_get _ (by rw [h.rl i hi, lb])]
      have e1 := h.zr i hi hai c' hc'
      have e2 := h.zr best hb hab c' hc'
      unfold ent at e1 e2
      rw [e1, e2]; simp
    · exact h.zr i hi hai c' hc'
/-- the column behind a turn -/
theorem col_turned {w n at_ c best : Nat} {rows rows' : List Row} (hl : ∀ i, i < n → (rows.getD i []).length = w + n) (hc : c < w) (ht : Turned rows rows' n at_ c best) (hb : best < n) (h0 : ent rows best c ≠ 0) :
    ent rows' best c = ent rows best c ∧ ∀ i, i < n → at_ ≤ i → i ≠ best → (ent rows' i c).natAbs < (ent rows best c).natAbs ∧ 0 ≤ ent rows' i c * ent rows best c ∧ ((ent rows i c).natAbs = (ent rows best c).natAbs → ent rows' i c = 0) ∧
      ∃ k, ent rows i c = k * ent rows best c + ent rows' i c := by
  obtain ⟨h1, h2⟩ := ht
  constructor
  · unfold ent
    rw [h2 best hb, if_neg (by rintro ⟨_, q, _⟩; exact q rfl)]
  · intro i hi hai hne
    by_cases hz : ent rows i c = 0
    · have e : ent rows' i c = 0 := by
        unfold ent
        rw [h2 i hi, if_neg (by rintro ⟨_, _, q⟩; exact q hz)]
        exact hz
      rw [e]
      refine ⟨by simpa using Int.natAbs_pos.mpr h0, by simp, fun _ => rfl, 0, by rw [hz]; simp⟩
    · obtain ⟨r, r1, r2, r3, r4⟩ := fdiv_rem (ent rows i c) (ent rows best c) h0
      have e : ent rows' i c = r := by
        have : ent rows' i c = ent rows i c + -(ent rows i c).fdiv (ent rows best c) * ent rows best c := by
          conv => lhs; unfold ent
          rw [h2 i hi, if_pos ⟨hai, hne, hz⟩, vadd_get _ (by rw [hl i hi, hl best hb])]
          rfl
        rw [this, Int.neg_mul]; omega
      rw [e]
      exact ⟨r2, r3, r4, _, r1⟩
/-- how great numbers get by a turn -/
theorem bd_turned {w n at_ c best : Nat} {rows rows' : List Row} {M m : Nat} (hl : ∀ i, i < n → (rows.getD i []).length = w + n) (ht : Turned rows rows' n at_ c best) (hb : best < n) (hab : at_ ≤ best) (h0 : ent rows best c ≠ 0)
    (hM : ∀ i, i < n → at_ ≤ i → ∀ c', c' < w → (ent rows i c').natAbs ≤ M) (hm : ∀ i, i < n → at_ ≤ i → (ent rows i c).natAbs ≤ m) :
    ∀ i, i < n → at_ ≤ i → ∀ c', c' < w → (ent rows' i c').natAbs ≤ M * (1 + (m + (ent rows best c).natAbs - 1) / (ent rows best c).natAbs) := by
  intro i hi hai c' hc'
  have hbp : 0 < (ent rows best c).natAbs := Int.natAbs_pos.mpr h0
  have hMi := hM i hi hai c' hc'
  have hMb := hM best hb hab c' hc'
  have hle : M ≤ M * (1 + (m + (ent rows best c).natAbs - 1) / (ent rows best c).natAbs) := Nat.le_mul_of_pos_right _ (Nat.lt_of_lt_of_le Nat.zero_lt_one (Nat.le_add_right 1 _))
  by_cases hcond : at_ ≤ i ∧ i ≠ best ∧ ent rows i c ≠ 0
  · have q1 := fdiv_abs (ent rows i c) (ent rows best c) h0
    have q2 := hm i hi hai
    have q3 : ((ent rows i c).fdiv (ent rows best c)).natAbs ≤ (m + (ent rows best c).natAbs - 1) / (ent rows best c).natAbs := (Nat.le_div_iff_mul_le hbp).mpr (by omega)
    have e : ent rows' i c' = ent rows i c' + -(ent rows i c).fdiv (ent rows best c) * ent rows best c' := by
      conv => lhs; unfold ent
      rw [ht.2 i hi, if_pos hcond, vadd_get _ (by rw [hl i hi, hl best hb])]
      rfl
    rw [e]
    have t1 : (-(ent rows i c).fdiv (ent rows best c) * ent rows best c').natAbs ≤ (m + (ent rows best c).natAbs - 1) / (ent rows best c).natAbs * M := by
      rw [Int.natAbs_mul, Int.natAbs_neg]
      exact Nat.mul_le_mul q3 hMb
    have t2 := Int.natAbs_add_le (ent rows i c') (-(ent rows i c).fdiv (ent rows best c) * ent rows best c')
    have t3 : M * (1 + (m + (ent rows best c).natAbs - 1) / (ent rows best c).natAbs) = M + (m + (ent rows best c).natAbs - 1) / (ent rows best c).natAbs * M := by
      rw [Nat.mul_add, Nat.mul_one, Nat.mul_comm M]
    rw [t3]
    omega
  · have e : ent rows' i c' = ent rows i c' := by
      unfold ent
      rw [ht.2 i hi, if_neg hcond]
    rw [e]; omega
/-- at most one number of a column is not nought -/
def Clr (rows : List Row) (n at_ c : Nat) : Prop := ∀ i j, i < n → j < n → at_ ≤ i → at_ ≤ j → ent rows i c ≠ 0 → ent rows j c ≠ 0 → i = j
theorem pow_fac {m b : Nat} (h1 : 1 ≤ b) (h2 : b < m) : (1 + (m + b - 1) / b) * 3 ^ (b - 1) ≤ 3 ^ (m - 1) := by
  obtain ⟨d, rfl⟩ : ∃ d, m = b + 1 + d := ⟨m - b - 1, by omega⟩
  have e1 : (b + 1 + d + b - 1) / b = 2 + d / b := by
    rw [show b + 1 + d + b - 1 = d + b * 2 by omega, Nat.add_mul_div_left _ _ h1]; omega
  have e2 : d / b ≤ d := Nat.div_le_self _ _
  have e3 : d + 3 ≤ 3 ^ (d + 1) := by
    clear e1 e2 h2
    induction d with
    | zero => decide
    | succ d ih => rw [Nat.pow_succ]; omega
  rw [e1, show b + 1 + d - 1 = (d + 1) + (b - 1) by omega, Nat.pow_add]
  exact Nat.mul_le_mul_right _ (by omega)
/-- how a column stands, turn by turn: the first columns -/
def Op1 (w n at_ c M0 m0 k : Nat) (rows : List Row) : Prop := ¬ Clr rows n at_ c ∧ ∃ m M, 2 ≤ m ∧ m + k ≤ m0 ∧ (∀ i, i < n → at_ ≤ i → (ent rows i c).natAbs ≤ m) ∧ (∀ i, i < n → at_ ≤ i → ∀ c', c' < w → (ent rows i c').natAbs ≤ M) ∧ M * 3 ^ (m - 1) ≤ M0 * 3 ^ (m0 - 1)
def Don1 (w n at_ c B : Nat) (rows : List Row) : Prop := Clr rows n at_ c ∧ (∃ i, i < n ∧ at_ ≤ i ∧ ent rows i c ≠ 0) ∧ ∀ i, i < n → at_ ≤ i → ∀ c', c' < w → (ent rows i c').natAbs ≤ B
theorem op1_turn {w n at_ c best M0 m0 k : Nat} {rows rows' : List Row} (hl : ∀ i, i < n → (rows.getD i []).length = w + n) (hc : c < w) (ht : Turned rows rows' n at_ c best) (hb : best < n) (hab : at_ ≤ best) (h0 : ent rows best c ≠ 0)
    (hmin : ∀ i, i < n → at_ ≤ i → ent rows i c ≠ 0 → (ent rows best c).natAbs ≤ (ent rows i c).natAbs) (h : Op1 w n at_ c M0 m0 k rows) : Don1 w n at_ c (M0 * 3 ^ (m0 - 1)) rows' ∨ Op1 w n at_ c M0 m0 (k + 1) rows' := by
  obtain ⟨hn, m, M, hm2, hmk, hm, hM, hp⟩ := h
  obtain ⟨c1, c2⟩ := col_turned hl hc ht hb h0
  have c3 := bd_turned hl ht hb hab h0 hM hm
  have hbp : 0 < (ent rows best c).natAbs := Int.natAbs_pos.mpr h0
  have hbm := hm best hb hab
  have hnz : ∃ i, i < n ∧ at_ ≤ i ∧ ent rows' i c ≠ 0 := ⟨best, hb, hab, by rw [c1]; exact h0⟩
  -- the column
  have colb : ∀ i, i < n → at_ ≤ i → (ent rows' i c).natAbs ≤ (ent rows best c).natAbs := fun i hi hai => by
    by_cases e : i = best
    · rw [e, c1]; exact Nat.le_refl _
    · exact Nat.le_of_lt (c2 i hi hai e).1
  by_cases hcl : Clr rows' n at_ c
  · left
    refine ⟨hcl, hnz, fun i hi hai c' hc' => Nat.le_trans (c3 i hi hai c' hc') (Nat.le_trans ?_ hp)⟩
    refine Nat.mul_le_mul_left _ ?_
    by_cases e : (ent rows best c).natAbs < m
    · have := pow_fac (b := (ent rows best c).natAbs) hbp e
      exact Nat.le_trans (Nat.le_mul_of_pos_right _ (Nat.pow_pos (by decide))) this
    · have em : (ent rows best c).natAbs = m := by omega
      rw [em]
      have : (m + m - 1) / m = 1 := by
        rw [show m + m - 1 = (m - 1) + m * 1 by omega, Nat.add_mul_div_left _ _ (by omega), Nat.div_eq_of_lt (by omega)]
      rw [this]
      have : 3 ^ 1 ≤ 3 ^ (m - 1) := Nat.pow_le_pow_right (by decide) (by omega)
      omega
  · right
    have hlt : (ent rows best c).natAbs < m := by
      refine Nat.lt_of_le_of_ne hbm fun e => hcl ?_
      -- all that are not nought are as great: they go
      intro i j hi hj hai haj hi0 hj0
      have gone : ∀ i, i < n → at_ ≤ i → ent rows' i c ≠ 0 → i = best := fun i hi hai h => by
        apply Decidable.byContradiction
        intro hne
        have q := c2 i hi hai hne
        by_cases hz : ent rows i c = 0
        · obtain ⟨k, hk⟩ := q.2.2.2
          have : ent rows' i c = 0 := by
            have hz2 : (ent rows' i c).natAbs < (ent rows best c).natAbs := q.1
            have : ent rows best c ∣ ent rows' i c := by
              rw [hz] at hk
              exact ⟨-k, by rw [Int.mul_neg, Int.mul_comm]; omega⟩
            exact Int.eq_zero_of_dvd_of_natAbs_lt_natAbs this hz2
          exact h this
        · have a1 := hmin i hi hai hz
          have a2 := hm i hi hai
          exact h (q.2.2.1 (by omega))
      rw [gone i hi hai hi0, gone j hj haj hj0]
    have hb2 : 2 ≤ (ent rows best c).natAbs := by
      apply Decidable.byContradiction
      intro hb1
      refine hcl fun i j hi hj hai haj hi0 hj0 => ?_
      have gone : ∀ i, i < n → at_ ≤ i → ent rows' i c ≠ 0 → i = best := fun i hi hai h => by
        apply Decidable.byContradiction
        intro hne
        have q := (c2 i hi hai hne).1
        have : 0 < (ent rows' i c).natAbs := Int.natAbs_pos.mpr h
        omega
      rw [gone i hi hai hi0, gone j hj haj hj0]
    refine ⟨hcl, (ent rows best c).natAbs, _, hb2, by omega, colb, c3, Nat.le_trans ?_ hp⟩
    rw [Nat.mul_assoc]
    exact Nat.mul_le_mul_left _ (pow_fac hbp hlt)
/-- two rows left: Euclid -/
def Op2 (n at_ c m0 k : Nat) (rows : List Row) : Prop := ¬ Clr rows n at_ c ∧ (∀ i, i < n → at_ ≤ i → (ent rows i c).natAbs ≤ m0) ∧ (k = 0 ∨ (0 ≤ ent rows at_ c * ent rows (at_ + 1) c ∧ (ent rows at_ c).natAbs * (ent rows (at_ + 1) c).natAbs * 2 ^ (k - 1) ≤ m0 * m0))
theorem op2_turn {w n at_ c best m0 k : Nat} {rows rows' : List Row} (hn : n = at_ + 2) (hl : ∀ i, i < n → (rows.getD i []).length = w + n) (hc : c < w) (ht : Turned rows rows' n at_ c best) (hb : best < n) (hab : at_ ≤ best) (h0 : ent rows best c ≠ 0)
    (hmin : ∀ i, i < n → at_ ≤ i → ent rows i c ≠ 0 → (ent rows best c).natAbs ≤ (ent rows i c).natAbs) (h : Op2 n at_ c m0 k rows) : Clr rows' n at_ c ∨ Op2 n at_ c m0 (k + 1) rows' := by
  obtain ⟨hncl, hm, hp⟩ := h
  obtain ⟨c1, c2⟩ := col_turned hl hc ht hb h0
  by_cases hcl : Clr rows' n at_ c
  · exact .inl hcl
  right
  have hbm := hm best hb hab
  have colb : ∀ i, i < n → at_ ≤ i → (ent rows' i c).natAbs ≤ m0 := fun i hi hai => by
    by_cases e : i = best
    · rw [e, c1]; exact hbm
    · exact Nat.le_trans (Nat.le_of_lt (c2 i hi hai e).1) hbm
  refine ⟨hcl, colb, .inr ?_⟩
  -- the other row
  obtain ⟨o, ho, hao, hne, hpair⟩ : ∃ o, o < n ∧ at_ ≤ o ∧ o ≠ best ∧ ((best = at_ ∧ o = at_ + 1) ∨ (best = at_ + 1 ∧ o = at_)) := by
    rcases (by omega : best = at_ ∨ best = at_ + 1) with e | e
    · exact ⟨at_ + 1, by omega, by omega, by omega, .inl ⟨e, rfl⟩⟩
    · exact ⟨at_, by omega, by omega, by omega, .inr ⟨e, rfl⟩⟩
  obtain ⟨q1, q2, q3, kk, q4⟩ := c2 o ho hao hne
  have hob := hm o ho hao
  -- products
  have prod : ∀ R : List Row, ent R at_ c * ent R (at_ + 1) c = ent R o c * ent R best c ∧ (ent R at_ c).natAbs * (ent R (at_ + 1) c).natAbs = (ent R o c).natAbs * (ent R best c).natAbs := fun R => by
    rcases hpair with ⟨e1, e2⟩ | ⟨e1, e2⟩
    · rw [e1, e2]; exact ⟨Int.mul_comm _ _, Nat.mul_comm _ _⟩
    · rw [e1, e2]; exact ⟨rfl, rfl⟩
  rw [(prod rows').1, (prod rows').2, c1]
  refine ⟨q2, ?_⟩
  rw [Nat.add_sub_cancel]
  rcases hp with rfl | ⟨s1, s2⟩
  · rw [Nat.pow_zero, Nat.mul_one]
    exact Nat.mul_le_mul (by omega) hbm
  · rw [(prod rows).1] at s1
    rw [(prod rows).2] at s2
    -- 2 r ≤ u
    have hr0 : ent rows' o c ≠ 0 := fun e => hcl fun i j hi hj hai haj hi0 hj0 => by
      have g : ∀ i, i < n → at_ ≤ i → ent rows' i c ≠ 0 → i = best := fun i hi hai h => by
        apply Decidable.byContradiction
        intro hx
        have : i = o := by omega
        rw [this] at h
        exact h e
      rw [g i hi hai hi0, g j hj haj hj0]
    have ho0 : ent rows o c ≠ 0 := fun e => by
      rw [e] at q4
      have : ent rows best c ∣ ent rows' o c := ⟨-kk, by rw [Int.mul_neg, Int.mul_comm]; omega⟩
      exact hr0 (Int.eq_zero_of_dvd_of_natAbs_lt_natAbs this q1)
    have two : 2 * (ent rows' o c).natAbs ≤ (ent rows o c).natAbs := by
      have hmn := hmin o ho hao ho0
      -- all of one sign
      have hk : 1 ≤ kk := by
        apply Decidable.byContradiction
        intro hk
        rcases Int.lt_or_gt_of_ne h0 with hs | hs
        · have e1 : ent rows' o c ≤ 0 := by
            apply Decidable.byContradiction
            intro hx
            have := Int.mul_neg_of_pos_of_neg (by omega : 0 < ent rows' o c) hs
            omega
          have e2 : ent rows o c ≤ 0 := by
            apply Decidable.byContradiction
            intro hx
            have := Int.mul_neg_of_pos_of_neg (by omega : 0 < ent rows o c) hs
            omega
          have e3 : 0 ≤ kk * ent rows best c := Int.mul_nonneg_of_nonpos_of_nonpos (by omega) (by omega)
          omega
        · have e1 : 0 ≤ ent rows' o c := by
            apply Decidable.byContradiction
            intro hx
            have := Int.mul_neg_of_neg_of_pos (by omega : ent rows' o c < 0) hs
            omega
          have e2 : 0 ≤ ent rows o c := by
            apply Decidable.byContradiction
            intro hx
            have := Int.mul_neg_of_neg_of_pos (by omega : ent rows o c < 0) hs
            omega
          have e3 : kk * ent rows best c ≤ 0 := Int.mul_nonpos_of_nonpos_of_nonneg (by omega) (by omega)
          omega
      rcases Int.lt_or_gt_of_ne h0 with hs | hs
      · have e1 : ent rows' o c ≤ 0 := by
          apply Decidable.byContradiction
          intro hx
          have := Int.mul_neg_of_pos_of_neg (by omega : 0 < ent rows' o c) hs
          omega
        have e3 : kk * ent rows best c ≤ 1 * ent rows best c := Int.mul_le_mul_of_nonpos_right hk (by omega)
        omega
      · have e1 : 0 ≤ ent rows' o c := by
          apply Decidable.byContradiction
          intro hx
          have := Int.mul_neg_of_neg_of_pos (by omega : ent rows' o c < 0) hs
          omega
        have e3 : 1 * ent rows best c ≤ kk * ent rows best c := Int.mul_le_mul_of_nonneg_right hk (by omega)
        omega
    -- k is 1 at least, or we start
    by_cases hk0 : k = 0
    · subst hk0
      rw [Nat.pow_zero, Nat.mul_one]
      exact Nat.mul_le_mul (by omega) hbm
    obtain ⟨j, rfl⟩ : ∃ j, k = j + 1 := ⟨k - 1, by omega⟩
    rw [Nat.add_sub_cancel] at s2
    rw [Nat.pow_succ]
    refine Nat.le_trans ?_ s2
    have : (ent rows' o c).natAbs * (ent rows best c).natAbs * (2 ^ j * 2) = (2 * (ent rows' o c).natAbs) * (ent rows best c).natAbs * 2 ^ j := by
      simp only [Nat.mul_comm, Nat.mul_left_comm, Nat.mul_assoc]
    rw [this]
    exact Nat.mul_le_mul_right _ (Nat.mul_le_mul_right _ two)
end PF

namespace PF
open PySem PySem.Spec PyProof.Rows L2
/-! ### common -/
theorem step {a b : C} {ρ ρ1 : Sl} {p p1 : Pst} {Q : SRes → Prop} (h : a ρ p = .nx ρ1 p1) (k : Q (b ρ1 p1)) : Q (cseq a b ρ p) := by
  rw [ev_cseq, h]; exact k
theorem step_if {t : M Bool} {a b : C} {ρ : Sl} {p p1 : Pst} {Q : SRes → Prop} (h : t ρ p = .ok false p1) (k : Q (b ρ p1)) : Q (cseq (cif t a cskip) b ρ p) := by
  rw [ev_cseq, ev_cif, ev_eout, h]; exact k
theorem step_rt {t : M Bool} {m : M D} {b : C} {ρ : Sl} {p p1 p2 : Pst} {d : D} (h : t ρ p = .ok true p1) (k : m ρ p1 = .ok d p2) : (cseq (cif t (cret m) cskip) b ρ p) = .rt d false p2 := by
  rw [ev_cseq, ev_cif, ev_eout, h, andS_ok, kC_ap, if_pos rfl, ev_cret, ev_eout, k]; rfl
theorem repE {d : D} (h : okX d = true) : dReprE [d] = some (.str (rtext d)) := dReprE_ok h
theorem mLc_lstY {i : Nat} {mi : M (List D)} {el : M D} {ρ : Sl} {p p1 : Pst} {items : List D} (hi : mi ρ p = .ok items p1) (g : D → D)
    (h : ∀ d ∈ items, el ((wipeS ρ [i]).set i (some (.val d))) p1 = .ok (g d) p1) : mLc [i] mi (fName i) mYes el ρ p = .ok (items.map g) p1 := by
  have := mLc_lst (i := i) (tt := mYes) hi (fun _ => true) g fun d hd => ⟨rfl, fun _ => h d hd⟩
  rwa [filter_yes] at this
theorem mul_s {i j : Int} (h : -1000000 ≤ i) (h' : i ≤ 1000000) : dMul (.int i) (.int j) = some (.int (i * j)) := dMul_int (.inl (by omega))
theorem mul_r {i j : Int} (h : -1000000 ≤ j) (h' : j ≤ 1000000) : dMul (.int i) (.int j) = some (.int (i * j)) := dMul_int (.inr (by omega))
theorem cat_ok {xs ys : List D} (h : xs.length + ys.length ≤ 16000000) : dAdd (.lst xs) (.lst ys) = some (.lst (xs ++ ys)) := by
  show dCatL (.lst xs) (.lst ys) = _
  simp only [dCatL]
  rw [if_pos (by rw [sizeLine_eq]; omega)]
/-! ### lists and tuples -/
structure Sqv (d : D) (xs : List D) : Prop where
  np : noPot d = true
  ty : isTys [.list, .tuple] d = true
  sq : sqD d = some xs
  sd : ∀ ρ p, seqD d ρ p = .ok xs p
  ln : dLen [d] = some (.int xs.length)
  ix : ∀ i, dIx d (.int i) = atI xs i
  dr : ∃ d', dSl d (some 1) none = some d' ∧ sqD d' = some (xs.drop 1)
theorem cut_from {α : Type} (k : Nat) (xs : List α) : cutA xs (some (k : Int)) none = xs.drop k := by
  unfold cutA
  have e : HT.sIx xs.length 0 (some (k : Int)) = min k xs.length := HT.sIx_nat xs.length 0 k
  have e2 : HT.sIx xs.length xs.length none = xs.length := rfl
  rw [e, e2]
  by_cases h : k ≤ xs.length
  · rw [Nat.min_eq_left h, List.take_of_length_le (by simp)]
  · rw [Nat.min_eq_right (by omega), List.drop_of_length_le (by omega), List.drop_of_length_le (by omega)]; simp
theorem sl_from1 (xs : List D) : dSl (.lst xs) (some 1) none = some (.lst (xs.drop 1)) := by
  show some (D.lst (cutA xs (some ((1 : Nat) : Int)) none)) = _
  rw [cut_from]
theorem slt_from1 (xs : List D) : dSl (.tup xs) (some 1) none = some (.tup (xs.drop 1)) := by
  show some (D.tup (cutA xs (some ((1 : Nat) : Int)) none)) = _
  rw [cut_from]
theorem sqv_lst (xs : List D) : Sqv (.lst xs) xs := ⟨rfl, rfl, rfl, fun ρ p => by rw [ev_seqD_lst], rfl, fun i => rfl, _, sl_from1 xs, rfl⟩
theorem sqv_tup (xs : List D) : Sqv (.tup xs) xs := ⟨rfl, rfl, rfl, fun ρ p => by rw [ev_seqD_tup], rfl, fun i => rfl, _, slt_from1 xs, rfl⟩
/-! ### rows and tables -/
def rowT (r : Row) : D := .tup (r.map .int)
def intD : D → Int
  | .int i => i
  | _ => 0
structure Tab (M : Nat) (t : List Row) (w : Nat) : Prop where
  n1 : 1 ≤ t.length
  n4 : t.length ≤ 4
  w1 : 1 ≤ w
  w4 : w ≤ 4
  rl : ∀ r ∈ t, r.length = w
  bd : ∀ r ∈ t, ∀ x ∈ r, x.natAbs ≤ M
theorem e_is_integer (i : Int) (p : Pst) : F_is_integer [.int i] p = .ok (.bl true) false p := by
  rw [en_is_integer, c_is_integer]
  simp [isTy]
theorem e_is_within (i l m : Int) (p : Pst) : F_is_within [.int i, .int l, .int m] p = .ok (.bl (decide (l ≤ i) && decide (i ≤ m))) false p := by
  rw [en_is_within, c_is_within]
  by_cases h : l ≤ i <;> simp [e_is_integer, iLe, h]
theorem e_is_list {d : D} {xs : List D} (s : Sqv d xs) (p : Pst) : F_is_list [d] p = .ok (.bl true) false p := by
  rw [en_is_list, c_is_list]
  simp [s.np, s.ty]
theorem all_true {α : Type} {l : List α} {f : α → D} (h : ∀ x ∈ l, f x = .bl true) : dAll [.lst (l.map f)] = some (.bl true) := by
  have : l.map f = l.map fun _ => .bl true := List.map_congr_left h
  rw [this, dAll_map (fun _ => true) l]
  simp
theorem e_is_row_of {r : Row} (h1 : 1 ≤ r.length) (h4 : r.length ≤ 4) (hb : ∀ x ∈ r, x.natAbs ≤ 99) (p : Pst) : F_is_row_of [rowT r] p = .ok (.bl true) false p := by
  rw [en_is_row_of, c_is_row_of]
  have np : noPot (rowT r) = true := rfl
  have ty : isTy .tuple (rowT r) = true := rfl
  have ln : dLen [rowT r] = some (.int r.length) := by show dLen [.tup (r.map .int)] = _; rw [dLen_tup, List.length_map]
  have l1 : (1 : Int) ≤ r.length := by omega
  have l2 : (r.length : Int) ≤ 4 := by omega
  refine congrArg sres (step_if (Q := fun z => z = .rt (.bl true) false p) (p1 := p) (by simp [np, ty, ln, iLe, l1, l2]) ?_)
  have m1 : m_is_row_of_1 [some (.val (rowT r)), none] p = .ok ((r.map D.int).map fun _ => D.bl true) p := mLc_lstY (by simp [rowT]) _ (fun d hd => by
    obtain ⟨x, hx, rfl⟩ := List.mem_map.mp hd
    have := hb x hx
    have a1 : (-99 : Int) ≤ x := by omega
    have a2 : x ≤ 99 := by omega
    simp [wipeS, e_is_within, a1, a2])
  have m2 : dAll [.lst ((r.map D.int).map fun _ => .bl true)] = some (.bl true) := all_true fun _ _ => rfl
  generalize ((r.map D.int).map fun _ => D.bl true) = A at *
  simp [m1, m2]
theorem e_is_vector_of {r : Row} (h1 : 1 ≤ r.length) (h4 : r.length ≤ 4) (hb : ∀ x ∈ r, x.natAbs ≤ 999) (p : Pst) : F_is_vector_of [rowT r] p = .ok (.bl true) false p := by
  rw [en_is_vector_of, c_is_vector_of]
  have np : noPot (rowT r) = true := rfl
  have ty : isTy .tuple (rowT r) = true := rfl
  have ln : dLen [rowT r] = some (.int r.length) := by show dLen [.tup (r.map .int)] = _; rw [dLen_tup, List.length_map]
  have l1 : (1 : Int) ≤ r.length := by omega
  have l2 : (r.length : Int) ≤ 4 := by omega
  refine congrArg sres (step_if (Q := fun z => z = .rt (.bl true) false p) (p1 := p) (by simp [np, ty, ln, iLe, l1, l2]) ?_)
  have m1 : m_is_vector_of_1 [some (.val (rowT r)), none] p = .ok ((r.map D.int).map fun _ => D.bl true) p := mLc_lstY (by simp [rowT]) _ (fun d hd => by
    obtain ⟨x, hx, rfl⟩ := List.mem_map.mp hd
    have := hb x hx
    have a1 : (-999 : Int) ≤ x := by omega
    have a2 : x ≤ 999 := by omega
    simp [wipeS, e_is_within, a1, a2])
  have m2 : dAll [.lst ((r.map D.int).map fun _ => .bl true)] = some (.bl true) := all_true fun _ _ => rfl
  generalize ((r.map D.int).map fun _ => D.bl true) = A at *
  simp [m1, m2]
theorem tab_head {d : D} {t : List Row} {M w : Nat} (s : Sqv d (t.map rowT)) (h : Tab M t w) : ∃ r, r ∈ t ∧ dIx d (.int 0) = some (rowT r) ∧ r.length = w := by
  cases t with
  | nil => have := h.n1; simp at this
  | cons r t => exact ⟨r, List.mem_cons_self, (s.ix 0).trans (dIx_lst (k := 0) rfl), h.rl r List.mem_cons_self⟩
theorem len_rowT (r : Row) : dLen [rowT r] = some (dI r.length) := by show dLen [.tup (r.map .int)] = _; rw [nLen_tup, List.length_map]
theorem e_is_table_of {d : D} {t : List Row} {w : Nat} (s : Sqv d (t.map rowT)) (h : Tab 99 t w) (p : Pst) : F_is_table_of [d] p = .ok (.bl true) false p := by
  rw [en_is_table_of, c_is_table_of]
  have e1 := e_is_list s p
  have ln : dLen [d] = some (.int t.length) := by rw [s.ln, List.length_map]
  have l1 : (1 : Int) ≤ t.length := by have := h.n1; omega
  have l2 : (t.length : Int) ≤ 4 := by have := h.n4; omega
  obtain ⟨r0, _, x0, lr0⟩ := tab_head s h
  have m1 : m_is_table_of_1 [some (.val d), none] p = .ok ((t.map rowT).map fun _ => D.bl true) p := mLc_lstY (by simp [s.sd]) _ (fun z hz => by
    obtain ⟨r, hr, rfl⟩ := List.mem_map.mp hz
    have := e_is_row_of (r := r) (by rw [h.rl r hr]; exact h.w1) (by rw [h.rl r hr]; exact h.w4) (h.bd r hr) p
    generalize rowT r = Z at *
    simp [wipeS, this])
  have l0 : dLen [rowT r0] = some (dI w) := by rw [len_rowT, lr0]
  have m3 : m_is_table_of_2 [some (.val d), none] p = .ok ((t.map rowT).map fun _ => D.bl true) p := mLc_lstY (by simp [s.sd]) _ (fun z hz => by
    obtain ⟨r, hr, rfl⟩ := List.mem_map.mp hz
    have l : dLen [rowT r] = some (dI w) := by rw [len_rowT, h.rl r hr]
    generalize rowT r = Z at *
    generalize rowT r0 = Z0 at *
    simp [wipeS, x0, l0, l])
  have m2 : dAll [.lst ((t.map rowT).map fun _ => D.bl true)] = some (.bl true) := all_true fun _ _ => rfl
  generalize ((t.map rowT).map fun _ => D.bl true) = A at *
  refine congrArg sres (step_if (Q := fun z => z = .rt (.bl true) false p) (p1 := p) (by simp [e1, ln, iLe, l1, l2, m1, m2]) ?_)
  simp [m3, m2]
/-! ### products -/
def gM : D → D
  | .tup [.int x, .int y] => .int (x * y)
  | _ => .non
theorem zip_rows : ∀ a b : Row, (zipL (a.map .int) (b.map .int)).map gM = (List.zipWith (fun x y => x * y) a b).map .int
  | [], _ => rfl
  | _ :: _, [] => rfl
  | x :: a, y :: b => by
    have := zip_rows a b
    simp only [List.map_cons, List.zipWith_cons_cons] at this ⊢
    rw [← this]; rfl
theorem zip_rmem {a b : Row} {d : D} (h : d ∈ zipL (a.map .int) (b.map .int)) : ∃ x ∈ a, ∃ y ∈ b, d = .tup [.int x, .int y] := by
  obtain ⟨i, hi, rfl⟩ := List.mem_iff_getElem.mp h
  obtain ⟨x, y, h1, h2, h3⟩ := zipL_get (List.getElem?_eq_getElem hi)
  rw [h3]
  rw [List.getElem?_map] at h1 h2
  cases e1 : a[i]? with
  | none => rw [e1] at h1; cases h1
  | some u =>
    rw [e1] at h1; cases h1
    cases e2 : b[i]? with
    | none => rw [e2] at h2; cases h2
    | some v => rw [e2] at h2; cases h2; exact ⟨u, List.mem_of_getElem? e1, v, List.mem_of_getElem? e2, rfl⟩
theorem dSum_ints (ns : List Int) : dSum [.lst (ns.map .int)] = some (.int ns.sum) := by simp [dSum, intsOf_map]
def Sm (a : Row) : Prop := ∀ x ∈ a, x.natAbs ≤ 100000
theorem e_product_of (a b : Row) (h : Sm a) (p : Pst) : F_product_of [rowT a, rowT b] p = .ok (.int (dot a b)) false p := by
  rw [en_product_of, c_product_of]
  have hz : mZipS (mcons (rd 0) (mcons (rd 1) (mret []))) [some (.val (rowT a)), some (.val (rowT b)), none, none] p = .ok (zipL (a.map .int) (b.map .int)) p := by simp [rowT]
  have m1 := mLc_pure (vs := [2, 3]) (f := fTup (fCons (fName 2) (fCons (fName 3) (fNil)))) (tt := mYes) (el := mOp dMulX (rd 2) (rd 3)) hz (fun _ => true) gM (by
    intro z hz
    obtain ⟨x, hx, y, hy, rfl⟩ := zip_rmem hz
    have := h x hx
    exact ⟨_, rfl, rfl, fun _ => by simp [wipeS, gM, mul_s (i := x) (j := y) (by omega) (by omega)]⟩)
  rw [filter_yes, zip_rows] at m1
  have m1' : m_product_of_1 [some (.val (rowT a)), some (.val (rowT b)), none, none] p = _ := m1
  have m2 := dSum_ints (List.zipWith (fun x y => x * y) a b)
  unfold dot
  generalize (List.zipWith (fun x y => x * y) a b) = Z at *
  generalize rowT a = A at *
  generalize rowT b = B at *
  simp [m1', m2]
theorem e__law_product (a b : Row) (h : Sm a) (p : Pst) : F__law_product [rowT a, rowT b] p = .ok (.int (dot a b)) false p := by
  rw [en__law_product, c__law_product]
  have hz : mZipS (mcons (rd 0) (mcons (rd 1) (mret []))) [some (.val (rowT a)), some (.val (rowT b)), none, none] p = .ok (zipL (a.map .int) (b.map .int)) p := by simp [rowT]
  have m1 := mLc_pure (vs := [2, 3]) (f := fTup (fCons (fName 2) (fCons (fName 3) (fNil)))) (tt := mYes) (el := mOp dMulX (rd 2) (rd 3)) hz (fun _ => true) gM (by
    intro z hz
    obtain ⟨x, hx, y, hy, rfl⟩ := zip_rmem hz
    have := h x hx
    exact ⟨_, rfl, rfl, fun _ => by simp [wipeS, gM, mul_s (i := x) (j := y) (by omega) (by omega)]⟩)
  rw [filter_yes, zip_rows] at m1
  have m1' : m__law_product_1 [some (.val (rowT a)), some (.val (rowT b)), none, none] p = _ := m1
  have m2 := dSum_ints (List.zipWith (fun x y => x * y) a b)
  unfold dot
  generalize (List.zipWith (fun x y => x * y) a b) = Z at *
  generalize rowT a = A at *
  generalize rowT b = B at *
  simp [m1', m2]
theorem ix_rowT {r : Row} {c : Nat} (h : c < r.length) : dIx (rowT r) (dI c) = some (.int (r.getD c 0)) := nIx_tup (by rw [List.getElem?_map, List.getElem?_eq_getElem h, List.getD_eq_getElem?_getD, List.getElem?_eq_getElem h]; rfl)
theorem dTuple_lst (xs : List D) : dTuple [.lst xs] = some (.tup xs) := rfl
def gC (c : Nat) : D → D
  | .tup xs => .int (intD (xs.getD c .non))
  | _ => .non
theorem e_turned_of {d : D} {t : List Row} {w M : Nat} (s : Sqv d (t.map rowT)) (h : Tab M t w) (p : Pst) : F_turned_of [d] p = .ok (.lst ((turnT t w).map rowT)) true p := by
  rw [en_turned_of, c_turned_of]
  obtain ⟨r0, _, x0, lr0⟩ := tab_head s h
  have l0 : dLen [rowT r0] = some (dI w) := by rw [len_rowT, lr0]
  have r1 := nRange1 (n := w) (by have := h.w4; omega)
  have hi : mRange1 (mcons (mCall dLen (mcons (mOp dIx (rd 0) (mret (.int 0))) (mret []))) (mret [])) [some (.val d), none, none] p = .ok (rgL 0 w) p := by
    generalize rowT r0 = Z0 at *
    generalize dI w = W1 at *
    generalize rgL 0 w = R at *
    simp [x0, l0, r1]
  have m1 : m_turned_of_2 [some (.val d), none, none] p = .ok ((List.range w).map fun c => rowT (col t c)) p := mLc_rngY hi _ fun c hc => by
    have ek : D.int (0 + (c : Int)) = dI c := by rw [Int.zero_add]; rfl
    rw [ek]
    have mc : m_turned_of_1 [some (.val d), some (.val (dI c)), none] p = .ok ((t.map rowT).map (gC c)) p := mLc_lstY (by simp [s.sd]) _ (fun z hz => by
      obtain ⟨r, hr, rfl⟩ := List.mem_map.mp hz
      have hcr : c < r.length := by rw [h.rl r hr]; exact hc
      have := ix_rowT hcr
      have e2 : intD ((r.map D.int).getD c .non) = r.getD c 0 := by
        simp [List.getD_eq_getElem?_getD, List.getElem?_eq_getElem hcr, intD]
      have e3 : gC c (rowT r) = .int (r.getD c 0) := by
        show D.int (intD ((r.map D.int).getD c .non)) = _
        rw [e2]
      rw [e3]
      generalize rowT r = Z at *
      simp [wipeS, this])
    have mm : (t.map rowT).map (gC c) = (col t c).map .int := by
      unfold col
      rw [List.map_map, List.map_map]
      refine List.map_congr_left fun r hr => ?_
      have hcr : c < r.length := by rw [h.rl r hr]; exact hc
      show D.int (intD ((r.map D.int).getD c .non)) = .int (r.getD c 0)
      simp [List.getD_eq_getElem?_getD, List.getElem?_eq_getElem hcr, intD]
    rw [mm] at mc
    have tp := dTuple_lst ((col t c).map .int)
    show _ = Res.ok (D.tup ((col t c).map .int)) p
    generalize (col t c).map D.int = Z at *
    simp [wipeS, mc, tp]
  have e : (turnT t w).map rowT = (List.range w).map fun c => rowT (col t c) := by unfold turnT; rw [List.map_map]; rfl
  rw [e]
  generalize ((List.range w).map fun c => rowT (col t c)) = Z at *
  simp [m1]
end PF

namespace PF
open PySem PySem.Spec PyProof.Rows L2
/-! ### own lists, looked at and written -/
theorem atI_nat {xs : List D} {k : Nat} {x : D} (h : xs[k]? = some x) : atI xs (k : Int) = some x := nIx_lst h
theorem ixo {i k : Nat} {mb : M D} {ρ : Sl} {p p1 : Pst} {xs : List D} {x : D} (h : ρ[i]? = some (some (.own xs))) (hb : mb ρ p = .ok (dI k) p1) (hx : xs[k]? = some x) : mIxO i mb ρ p = .ok x p1 := by
  unfold mIxO
  rw [h]
  show mbind mb _ ρ p = _
  rw [ev_mbind, hb, andThen_ok, kM_ap]
  show mopt (atI xs (k : Int)) ρ p1 = _
  rw [atI_nat hx, ev_mopt_some]
theorem capp_ok {i : Nat} {me : M D} {ρ : Sl} {p p1 : Pst} {xs : List D} {d : D} (h : ρ[i]? = some (some (.own xs))) (hm : me ρ p = .ok d p1) (hl : xs.length < 16000000) : capp i me ρ p = .nx (ρ.set i (some (.own (xs ++ [d])))) p1 := by
  unfold capp
  rw [h]
  show eout me _ ρ p = _
  rw [ev_eout, hm, andS_ok, kC_ap]
  rw [if_pos hl]
theorem subo_ok {r k : Nat} {mi m : M D} {ρ : Sl} {p : Pst} {xs : List D} {d : D} (h : ρ[r]? = some (some (.own xs))) (hm : m ρ p = .ok d p) (hi : mi ρ p = .ok (dI k) p) (hk : k < xs.length) : casgT (tgSubO r mi) m ρ p = .nx (ρ.set r (some (.own (xs.set k d)))) p := by
  unfold casgT
  rw [ev_eout, hm, andS_ok, kC_ap]
  have ix : ixN xs.length (k : Int) = some k := by
    simp only [ixN]
    rw [if_pos (by omega), if_pos (by omega), Int.toNat_natCast]
  have e : tgSubO r mi d ρ p = some (ρ.set r (some (.own (xs.set k d))), p) := by
    unfold tgSubO
    rw [h]
    simp only [tgSub, hi, h, dI, ix]
  simp only [e]
theorem for_rel {α β : Type} {G : D → Sl → Pst → Option (Sl × Pst)} {body : C} {p : Pst} (st : α → Sl → Prop) (it : β → D) (f : α → β → α) (Inv : α → Prop) : ∀ (l : List β) (ρ : Sl) (a : α), st a ρ → Inv a →
    (∀ a b, b ∈ l → Inv a → ∀ ρ, st a ρ → ∃ ρ1 ρ2, G (it b) ρ p = some (ρ1, p) ∧ body ρ1 p = .nx ρ2 p ∧ st (f a b) ρ2 ∧ Inv (f a b)) → ∃ ρ2, cforGo G body (l.map it) ρ p = .nx ρ2 p ∧ st (l.foldl f a) ρ2 ∧ Inv (l.foldl f a)
  | [], ρ, a, h1, h2, _ => ⟨ρ, rfl, h1, h2⟩
  | b :: l, ρ, a, h1, h2, h => by
    obtain ⟨ρ1, ρ2, e1, e2, h3, h4⟩ := h a b List.mem_cons_self h2 ρ h1
    obtain ⟨ρ3, e3, h5, h6⟩ := for_rel st it f Inv l ρ2 (f a b) h3 h4 fun a b hb => h a b (List.mem_cons_of_mem _ hb)
    refine ⟨ρ3, ?_, h5, h6⟩
    rw [List.map_cons]
    simp only [cforGo, e1, e2]
    exact e3
theorem scal_ok {m : M D} {ρ : Sl} {p : Pst} {d : D} (h : m (thaw ρ) p = .ok d p) (hs : scal d = true) : mscal m ρ p = .ok d p := by
  unfold mscal
  simp only [h, hs, if_true]
theorem scalt_ok {m : M Bool} {ρ : Sl} {p : Pst} {d : Bool} (h : m (thaw ρ) p = .ok d p) : mscalt m ρ p = .ok d p := by
  unfold mscalt
  simp only [h]
/-! ### tables times vectors -/
theorem comb_map (t : List Row) (w : Nat) (v : Row) : comb t w v = (turnT t w).map fun c => dot c v := by unfold comb turnT; rw [List.map_map]; rfl
theorem sm_col {t : List Row} {M w : Nat} (h : Tab M t w) (hM : M ≤ 1000) : ∀ c ∈ turnT t w, Sm c := by
  intro c hc x hx
  unfold turnT at hc
  obtain ⟨i, hi, rfl⟩ := List.mem_map.mp hc
  obtain ⟨r, hr, rfl⟩ := List.mem_map.mp hx
  by_cases hl : i < r.length
  · have := h.bd r hr (r.getD i 0) (by rw [List.getD_eq_getElem?_getD, List.getElem?_eq_getElem hl]; exact List.getElem_mem hl)
    omega
  · rw [List.getD_eq_getElem?_getD, List.getElem?_eq_none (by omega)]
    exact Nat.zero_le _
theorem e_times_of (s : List Row) (hs : ∀ c ∈ s, Sm c) (v : Row) (p : Pst) : F_times_of [.lst (s.map rowT), rowT v] p = .ok (rowT (s.map fun c => dot c v)) false p := by
  rw [en_times_of, c_times_of]
  have m1 : m_times_of_1 [some (.val (.lst (s.map rowT))), some (.val (rowT v)), none] p = .ok (s.map fun c => D.int (dot c v)) p := by
    have := mLc_mapY (i := 2) (mi := mSeq (rd 0)) (el := mFn F_product_of 2 0 [0, 1] (mcons (rd 2) (mcons (rd 1) (mret []))) (mret [])) (ρ := [some (.val (.lst (s.map rowT))), some (.val (rowT v)), none]) (p := p) (p1 := p) (xs := s) (c := rowT) (by generalize s.map rowT = S at *; simp) (fun c => .int (dot c v)) (fun c hc => by
      have := e_product_of c v (hs c hc) p
      generalize s.map rowT = S at *
      generalize rowT c = C at *
      generalize rowT v = V at *
      simp [wipeS, this])
    exact this
  have e : (s.map fun c => D.int (dot c v)) = (s.map fun c => dot c v).map .int := by rw [List.map_map]; rfl
  rw [e] at m1
  have tp := dTuple_lst ((s.map fun c => dot c v).map .int)
  show _ = FRes.ok (D.tup ((s.map fun c => dot c v).map .int)) false p
  generalize (s.map fun c => dot c v).map D.int = Z at *
  generalize s.map rowT = S at *
  generalize rowT v = V at *
  simp [m1, tp]
theorem e_combined_of {d : D} {t : List Row} {w M : Nat} (s : Sqv d (t.map rowT)) (h : Tab M t w) (hM : M ≤ 1000) (v : Row) (p : Pst) : F_combined_of [d, rowT v] p = .ok (rowT (comb t w v)) false p := by
  rw [en_combined_of, c_combined_of, comb_map]
  have e1 := e_turned_of s h p
  have e2 := e_times_of (turnT t w) (sm_col h hM) v p
  generalize (turnT t w).map rowT = S at *
  generalize rowT v = V at *
  generalize rowT ((turnT t w).map fun c => dot c v) = Z at *
  simp [e1, e2]
theorem e__law_turned {t : List Row} {w M : Nat} (h : Tab M t w) (p : Pst) : F__law_turned [.lst (t.map rowT)] p = .ok (.lst ((turnT t w).map rowT)) true p := by
  have s := sqv_lst (t.map rowT)
  rw [en__law_turned, c__law_turned]
  obtain ⟨r0, _, x0, lr0⟩ := tab_head s h
  have l0 : dLen [rowT r0] = some (dI w) := by rw [len_rowT, lr0]
  have r1 := nRange1 (n := w) (by have := h.w4; omega)
  have hi : mRange1 (mcons (mCall dLen (mcons (mOp dIx (rd 0) (mret (.int 0))) (mret []))) (mret [])) [some (.val (.lst (t.map rowT))), none, none] p = .ok (rgL 0 w) p := by
    generalize rowT r0 = Z0 at *
    generalize dI w = W1 at *
    generalize rgL 0 w = R at *
    generalize t.map rowT = TT at *
    simp [x0, l0, r1]
  have m1 : m__law_turned_2 [some (.val (.lst (t.map rowT))), none, none] p = .ok ((List.range w).map fun c => rowT (col t c)) p := mLc_rngY hi _ fun c hc => by
    have ek : D.int (0 + (c : Int)) = dI c := by rw [Int.zero_add]; rfl
    rw [ek]
    have mc : m__law_turned_1 [some (.val (.lst (t.map rowT))), some (.val (dI c)), none] p = .ok ((t.map rowT).map (gC c)) p := mLc_lstY (by generalize t.map rowT = TT at *; simp) _ (fun z hz => by
      obtain ⟨r, hr, rfl⟩ := List.mem_map.mp hz
      have hcr : c < r.length := by rw [h.rl r hr]; exact hc
      have := ix_rowT hcr
      have e2 : intD ((r.map D.int).getD c .non) = r.getD c 0 := by
        simp [List.getD_eq_getElem?_getD, List.getElem?_eq_getElem hcr, intD]
      have e3 : gC c (rowT r) = .int (r.getD c 0) := by
        show D.int (intD ((r.map D.int).getD c .non)) = _
        rw [e2]
      rw [e3]
      generalize rowT r = Z at *
      generalize t.map rowT = TT at *
      simp [wipeS, this])
    have mm : (t.map rowT).map (gC c) = (col t c).map .int := by
      unfold col
      rw [List.map_map, List.map_map]
      refine List.map_congr_left fun r hr => ?_
      have hcr : c < r.length := by rw [h.rl r hr]; exact hc
      show D.int (intD ((r.map D.int).getD c .non)) = .int (r.getD c 0)
      simp [List.getD_eq_getElem?_getD, List.getElem?_eq_getElem hcr, intD]
    rw [mm] at mc
    have tp := dTuple_lst ((col t c).map .int)
    show _ = Res.ok (D.tup ((col t c).map .int)) p
    generalize (col t c).map D.int = Z at *
    generalize t.map rowT = TT at *
    simp [wipeS, mc, tp]
  have e : (turnT t w).map rowT = (List.range w).map fun c => rowT (col t c) := by unfold turnT; rw [List.map_map]; rfl
  rw [e]
  generalize ((List.range w).map fun c => rowT (col t c)) = Z at *
  generalize t.map rowT = TT at *
  simp [m1]
theorem e__law_combined {t : List Row} {w M : Nat} (h : Tab M t w) (hM : M ≤ 1000) (v : Row) (p : Pst) : F__law_combined [.lst (t.map rowT), rowT v] p = .ok (rowT (comb t w v)) false p := by
  rw [en__law_combined, c__law_combined, comb_map]
  have e1 := e__law_turned h p
  have hs := sm_col h hM
  generalize turnT t w = s at *
  have m1 : m__law_combined_1 [some (.val (.lst (t.map rowT))), some (.val (rowT v)), none] p = .ok (s.map fun c => D.int (dot c v)) p := by
    have := mLc_mapY (i := 2) (mi := mSeq (mFn F__law_turned 1 0 [0] (mcons (rd 0) (mret [])) (mret []))) (el := mFn F__law_product 2 0 [0, 1] (mcons (rd 2) (mcons (rd 1) (mret []))) (mret [])) (ρ := [some (.val (.lst (t.map rowT))), some (.val (rowT v)), none]) (p := p) (p1 := p) (xs := s) (c := rowT) (by
      generalize s.map rowT = S at *
      generalize t.map rowT = TT at *
      simp [e1]) (fun c => .int (dot c v)) (fun c hc => by
      have := e__law_product c v (hs c hc) p
      generalize t.map rowT = S at *
      generalize rowT c = C at *
      generalize rowT v = V at *
      simp [wipeS, this])
    exact this
  have e : (s.map fun c => D.int (dot c v)) = (s.map fun c => dot c v).map .int := by rw [List.map_map]; rfl
  rw [e] at m1
  have tp := dTuple_lst ((s.map fun c => dot c v).map .int)
  show _ = FRes.ok (D.tup ((s.map fun c => dot c v).map .int)) false p
  generalize (s.map fun c => dot c v).map D.int = Z at *
  generalize t.map rowT = S at *
  generalize rowT v = V at *
  simp [m1, tp]
/-! ### what is passed -/
theorem e_check_table {d : D} {t : List Row} {w : Nat} (s : Sqv d (t.map rowT)) (h : Tab 99 t w) (p : Pst) : F_check_table [d] p = .ok .non false p := by
  rw [en_check_table, c_check_table]
  simp [e_is_table_of s h p]
structure Vec (r : Row) (n : Nat) : Prop where
  len : r.length = n
  n1 : 1 ≤ n
  n4 : n ≤ 4
  bd : ∀ x ∈ r, x.natAbs ≤ 999
theorem e_check_vector {r : Row} {n : Nat} (h : Vec r n) (p : Pst) : F_check_vector [rowT r, dI n] p = .ok .non false p := by
  rw [en_check_vector, c_check_vector]
  have e := e_is_vector_of (r := r) (by rw [h.len]; exact h.n1) (by rw [h.len]; exact h.n4) h.bd p
  have l := len_rowT r
  rw [h.len] at l
  generalize rowT r = R at *
  simp [e, l]
theorem any_zero (w : Nat) : (List.replicate w (0 : Int)).any (fun n => n != 0) = false := by
  rw [List.any_eq_false]
  intro x hx
  rw [(List.mem_replicate.mp hx).2]
  simp
theorem any_comb (r : Row) (w : Nat) (h : r.length = w) : r.any (fun n => n != 0) = !decide (r = List.replicate w 0) := by
  by_cases e : r = List.replicate w 0
  · rw [decide_eq_true e, e, any_zero]; rfl
  · rw [decide_eq_false e, Bool.not_false, List.any_eq_true]
    apply Decidable.byContradiction
    intro hx
    refine e (List.eq_replicate_iff.mpr ⟨h, fun b hb => ?_⟩)
    apply Decidable.byContradiction
    intro hb0
    exact hx ⟨b, hb, by simpa using hb0⟩
structure Chn (c : D) (F E : List Row) (w : Nat) : Prop where
  ex : ∃ dF dE, c = .tup [dF, dE] ∧ Sqv dF (F.map rowT) ∧ Sqv dE (E.map rowT)
  tF : Tab 99 F E.length
  tE : Tab 99 E w
  kz : ∀ f ∈ F, IsK E w f
theorem e_is_chain_of {c : D} {F E : List Row} {w : Nat} (h : Chn c F E w) (p : Pst) : F_is_chain_of [c] p = .ok (.bl true) false p := by
  obtain ⟨dF, dE, rfl, sF, sE⟩ := h.ex
  rw [en_is_chain_of, c_is_chain_of]
  have a1 := e_is_table_of sF h.tF p
  have a2 := e_is_table_of sE h.tE p
  have m1 : m_is_chain_of_1 [some (.val (.tup [dF, dE])), none, none, none, none] p = .ok ([dF, dE].map fun _ => D.bl true) p := mLc_lstY (by simp) _ (fun z hz => by
    simp only [List.mem_cons, List.not_mem_nil, or_false] at hz
    rcases hz with rfl | rfl
    · simp [wipeS, a1]
    · simp [wipeS, a2])
  have m2 : dAll [.lst ([dF, dE].map fun _ => D.bl true)] = some (.bl true) := rfl
  generalize [dF, dE].map (fun _ => D.bl true) = A at *
  refine congrArg sres (step_if (Q := fun z => z = .rt (.bl true) false p) (p1 := p) (by have d2 : dNe (dI 2) (.int 2) = some false := rfl; simp [isTy, m1, m2, d2]) ?_)
  refine step (Q := fun z => z = .rt (.bl true) false p) (ρ1 := [some (.val (.tup [dF, dE])), some (.val dF), some (.val dE), none, none]) (p1 := p) (by simp [casgT, tgTup, tgCons, tgName, tgNil]) ?_
  obtain ⟨r0, _, x0, lr0⟩ := tab_head sF h.tF
  have l0 : dLen [rowT r0] = some (dI E.length) := by rw [len_rowT, lr0]
  have lE : dLen [dE] = some (dI E.length) := by rw [sE.ln, List.length_map]; rfl
  have m3 : m_is_chain_of_2 [some (.val (.tup [dF, dE])), some (.val dF), some (.val dE), none, none] p = .ok (F.map fun _ => D.bl false) p := by
    have := mLc_mapY (i := 4) (mi := mSeq (rd 1)) (el := mCall dAnyX (mcons (mFn F_combined_of 2 0 [0, 1] (mcons (rd 2) (mcons (rd 4) (mret []))) (mret [])) (mret []))) (ρ := [some (.val (.tup [dF, dE])), some (.val dF), some (.val dE), none, none]) (p := p) (p1 := p) (xs := F) (c := rowT) (by simp [sF.sd]) (fun _ => .bl false) (fun f hf => by
      have e := e_combined_of sE h.tE (by omega) f p
      have k := (isK_comb (h.kz f hf).1).mp (h.kz f hf)
      rw [k] at e
      have an : dAnyX [rowT (List.replicate w 0)] = some (.bl false) := by
        show dAnyX [.tup ((List.replicate w 0).map .int)] = _
        rw [dAnyX_ints, any_zero]
      generalize rowT (List.replicate w 0) = Z at *
      generalize rowT f = Y at *
      simp [wipeS, e, an])
    exact this
  have m4 : dAny [.lst (F.map fun _ => D.bl false)] = some (.bl false) := by
    rw [dAny_map (fun _ => false) F]
    simp
  generalize (F.map fun _ => D.bl false) = B at *
  generalize rowT r0 = Z0 at *
  simp [x0, l0, lE, m3, m4]
theorem e_check_chain {c : D} {F E : List Row} {w : Nat} (h : Chn c F E w) (p : Pst) : F_check_chain [c] p = .ok .non false p := by
  rw [en_check_chain, c_check_chain]
  simp [e_is_chain_of h p]
theorem e_is_chain {c : D} {F E : List Row} {w : Nat} (h : Chn c F E w) (p : Pst) : F_is_chain [c] p = .ok (.bl true) false p := by
  rw [en_is_chain, c_is_chain]
  simp [e_is_chain_of h p]
end PF

namespace PF
open PySem PySem.Spec PyProof.Rows L2
/-! ### ends, rims, rounds -/
theorem e_check_lines {c : D} {F E : List Row} {w : Nat} (h : Chn c F E w) {v : Row} (hv : Vec v E.length) (p : Pst) : F_check_lines [c, rowT v] p = .ok .non false p := by
  obtain ⟨dF, dE, rfl, sF, sE⟩ := h.ex
  rw [en_check_lines, c_check_lines]
  have e := e_is_vector_of (r := v) (by rw [hv.len]; exact hv.n1) (by rw [hv.len]; exact hv.n4) hv.bd p
  have l := len_rowT v
  rw [hv.len] at l
  have x1 : dIx (.tup [dF, dE]) (.int 1) = some dE := rfl
  have lE : dLen [dE] = some (dI E.length) := by rw [sE.ln, List.length_map]; rfl
  generalize rowT v = R at *
  simp [e, l, x1, lE]
theorem e_ends_of {c : D} {F E : List Row} {w : Nat} (h : Chn c F E w) {v : Row} (hv : Vec v E.length) (p : Pst) : F_ends_of [c, rowT v] p = .ok (rowT (comb E w v)) false p := by
  have e1 := e_check_chain h p
  have e2 := e_check_lines h hv p
  obtain ⟨dF, dE, rfl, sF, sE⟩ := h.ex
  rw [en_ends_of, c_ends_of]
  have x1 : dIx (.tup [dF, dE]) (.int 1) = some dE := rfl
  have e3 := e_combined_of sE h.tE (by omega) v p
  generalize rowT v = R at *
  generalize rowT (comb E w v) = Z at *
  simp [e1, e2, x1, e3]
theorem e_rim {c : D} {F E : List Row} {w : Nat} (h : Chn c F E w) {v : Row} (hv : Vec v F.length) (p : Pst) : F_rim [c, rowT v] p = .ok (rowT (comb F E.length v)) false p := by
  have e1 := e_check_chain h p
  have e2 := e_is_vector_of (r := v) (by rw [hv.len]; exact hv.n1) (by rw [hv.len]; exact hv.n4) hv.bd p
  have l := len_rowT v
  rw [hv.len] at l
  obtain ⟨dF, dE, rfl, sF, sE⟩ := h.ex
  rw [en_rim, c_rim]
  have x0 : dIx (.tup [dF, dE]) (.int 0) = some dF := rfl
  have lF : dLen [dF] = some (dI F.length) := by rw [sF.ln, List.length_map]; rfl
  have e3 := e_combined_of sF h.tF (by omega) v p
  generalize rowT v = R at *
  generalize rowT (comb F E.length v) = Z at *
  simp [e1, e2, x0, l, lF, e3]
theorem e_is_round {c : D} {F E : List Row} {w : Nat} (h : Chn c F E w) {v : Row} (hv : v.length = E.length) (p : Pst) : F_is_round [c, rowT v] p = .ok (.bl (decide (comb E w v = List.replicate w 0))) false p := by
  have e1 := e_check_chain h p
  obtain ⟨dF, dE, rfl, sF, sE⟩ := h.ex
  have x1 : dIx (.tup [dF, dE]) (.int 1) = some dE := rfl
  have lE : dLen [dE] = some (dI E.length) := by rw [sE.ln, List.length_map]; rfl
  have e2 : F_are_integers_of [dI E.length, rowT v] p = .ok (.bl true) false p := by
    rw [en_are_integers_of, c_are_integers_of]
    have np : noPot (rowT v) = true := rfl
    have ty : isTy .tuple (rowT v) = true := rfl
    have l := len_rowT v
    rw [hv] at l
    have m1 : m_are_integers_of_1 [some (.val (dI E.length)), some (.val (rowT v)), none] p = .ok ((v.map D.int).map fun _ => D.bl true) p := mLc_lstY (by simp [rowT]) _ (fun d hd => by
      obtain ⟨x, hx, rfl⟩ := List.mem_map.mp hd
      simp [wipeS, e_is_integer])
    have m2 : dAll [.lst ((v.map D.int).map fun _ => D.bl true)] = some (.bl true) := all_true fun _ _ => rfl
    generalize ((v.map D.int).map fun _ => D.bl true) = A at *
    generalize rowT v = R at *
    simp [np, ty, l, m1, m2]
  have e3 : F_is_round_of [.tup [dF, dE], rowT v] p = .ok (.bl (decide (comb E w v = List.replicate w 0))) false p := by
    rw [en_is_round_of, c_is_round_of]
    have e4 := e_combined_of sE h.tE (by omega) v p
    have an : dAnyX [rowT (comb E w v)] = some (.bl (!decide (comb E w v = List.replicate w 0))) := by
      show dAnyX [.tup ((comb E w v).map .int)] = _
      rw [dAnyX_ints, any_comb _ w (comb_len _ _ _)]
    generalize decide (comb E w v = List.replicate w 0) = B at *
    generalize rowT v = R at *
    generalize rowT (comb E w v) = Z at *
    simp [x1, e4, an]
  rw [en_is_round, c_is_round]
  generalize rowT v = R at *
  generalize dI E.length = N at *
  simp [e1, x1, lE, e2, e3]
theorem e_turned_chain {c : D} {F E : List Row} {w : Nat} (h : Chn c F E w) (p : Pst) : F_turned_chain [c] p = .ok (.tup [.lst ((turnT E w).map rowT), .lst ((turnT F E.length).map rowT)]) false p := by
  have e1 := e_check_chain h p
  obtain ⟨dF, dE, rfl, sF, sE⟩ := h.ex
  rw [en_turned_chain, c_turned_chain]
  have x0 : dIx (.tup [dF, dE]) (.int 0) = some dF := rfl
  have x1 : dIx (.tup [dF, dE]) (.int 1) = some dE := rfl
  have e2 := e_turned_of sE h.tE p
  have e3 := e_turned_of sF h.tF p
  generalize (turnT E w).map rowT = A at *
  generalize (turnT F E.length).map rowT = B at *
  simp [e1, x0, x1, e2, e3]
theorem e_turned {d : D} {t : List Row} {w : Nat} (s : Sqv d (t.map rowT)) (h : Tab 99 t w) (p : Pst) : F_turned [d] p = .ok (.lst ((turnT t w).map rowT)) true p := by
  rw [en_turned, c_turned]
  have e1 := e_check_table s h p
  have e2 := e_turned_of s h p
  generalize (turnT t w).map rowT = A at *
  simp [e1, e2]
theorem e_combined {d : D} {t : List Row} {w : Nat} (s : Sqv d (t.map rowT)) (h : Tab 99 t w) {v : Row} (hv : Vec v t.length) (p : Pst) : F_combined [d, rowT v] p = .ok (rowT (comb t w v)) false p := by
  rw [en_combined, c_combined]
  have e1 := e_check_table s h p
  have e2 := e_check_vector hv p
  have l : dLen [d] = some (dI t.length) := by rw [s.ln, List.length_map]; rfl
  have e3 := e_combined_of s h (by omega) v p
  generalize rowT v = R at *
  generalize rowT (comb t w v) = Z at *
  generalize dI t.length = N at *
  simp [e1, l, e2, e3]
/-- all noughts are small -/
theorem max_zero (n : Nat) : dMax1 [.lst (.int 0 :: List.replicate n (.int 0))] = some (.int 0) := by
  have e : (D.int 0 :: List.replicate n (D.int 0)) = (List.replicate (n + 1) (0 : Int)).map .int := by rw [List.replicate_succ, List.map_cons, List.map_replicate]
  rw [e]
  simp only [dMax1, intsOf_map, Option.bind_some]
  rw [if_neg (by simp)]
  have := (maxI_spec (ns := List.replicate (n + 1) (0 : Int)) (by simp)).1
  rw [(List.mem_replicate.mp this).2]
theorem e_small (k w : Nat) (hw : w ≤ 4) (p : Pst) : F_small [.lst (List.replicate k (rowT (List.replicate w 0)))] p = .ok (.lst (List.replicate k (rowT (List.replicate w 0)))) false p := by
  rw [en_small, c_small]
  have turn : ∀ (L : D) (s2 s3 : Option W), b_small_2 [some (.val L), some (.val (.int 0)), some (.val (rowT (List.replicate w 0))), s3] p = .nx [some (.val L), some (.val (.int 0)), some (.val (rowT (List.replicate w 0))), s3] p := by
    intro L s2 s3
    unfold b_small_2
    have m1 : m_small_1 [some (.val L), some (.val (.int 0)), some (.val (rowT (List.replicate w 0))), s3] p = .ok (((List.replicate w (0 : Int)).map D.int).map fun _ => D.int 0) p := mLc_lstY (by simp [rowT]) _ (fun d hd => by
      obtain ⟨x, hx, rfl⟩ := List.mem_map.mp hd
      rw [(List.mem_replicate.mp hx).2]
      simp [wipeS])
    have e2 : ((List.replicate w (0 : Int)).map D.int).map (fun _ => D.int 0) = List.replicate w (.int 0) := by rw [List.map_replicate, List.map_replicate]
    rw [e2] at m1
    have c := cat_ok (xs := [.int 0]) (ys := List.replicate w (.int 0)) (by rw [List.length_replicate, List.length_singleton]; omega)
    have mz := max_zero w
    rw [List.singleton_append] at c
    generalize (D.int 0 :: List.replicate w (D.int 0)) = CC at *
    generalize List.replicate w (D.int 0) = Z at *
    generalize rowT (List.replicate w 0) = Y at *
    simp [m1, c, mz]
  have loop : ∀ (L : D) (j : Nat) (s2 s3 : Option W), ∃ t2, cforGo (tgName 2) b_small_2 (List.replicate j (rowT (List.replicate w 0))) [some (.val L), some (.val (.int 0)), s2, s3] p = .nx [some (.val L), some (.val (.int 0)), t2, s3] p := by
    intro L j
    induction j with
    | zero => intro s2 s3; exact ⟨s2, rfl⟩
    | succ j ih =>
      intro s2 s3
      obtain ⟨t2, e⟩ := ih (some (.val (rowT (List.replicate w 0)))) s3
      refine ⟨t2, ?_⟩
      have g : tgName 2 (rowT (List.replicate w 0)) [some (.val L), some (.val (.int 0)), s2, s3] p = some ([some (.val L), some (.val (.int 0)), some (.val (rowT (List.replicate w 0))), s3], p) := rfl
      rw [List.replicate_succ]
      simp only [cforGo, g, turn L s2 s3]
      exact e
  obtain ⟨t2, e⟩ := loop (.lst (List.replicate k (rowT (List.replicate w 0)))) k none none
  generalize List.replicate k (rowT (List.replicate w 0)) = L at *
  have want : F_want_at_most [.str "numbers", .int 99, .int 0] p = .ok .non false p := by
    rw [en_want_at_most, c_want_at_most]
    simp
  simp [cfor, e, want]
theorem e_times_table {c : D} {F E : List Row} {w : Nat} {dF dE : D} (sF : Sqv dF (F.map rowT)) (sE : Sqv dE (E.map rowT)) (tF : Tab 99 F E.length) (tE : Tab 99 E w) (kz : ∀ f ∈ F, IsK E w f) (p : Pst) :
    F_times_table [dF, dE] p = .ok (.lst (List.replicate F.length (rowT (List.replicate w 0)))) false p := by
  rw [en_times_table, c_times_table]
  have e1 := e_check_table sF tF p
  have e2 := e_check_table sE tE p
  obtain ⟨r0, _, x0, lr0⟩ := tab_head sF tF
  have l0 : dLen [rowT r0] = some (dI E.length) := by rw [len_rowT, lr0]
  have lE : dLen [dE] = some (dI E.length) := by rw [sE.ln, List.length_map]; rfl
  have m1 : m_times_table_1 [some (.val dF), some (.val dE), none] p = .ok (F.map fun _ => rowT (List.replicate w 0)) p := by
    have := mLc_mapY (i := 2) (mi := mSeq (rd 0)) (el := mFn F_combined_of 2 0 [0, 1] (mcons (rd 1) (mcons (rd 2) (mret []))) (mret [])) (ρ := [some (.val dF), some (.val dE), none]) (p := p) (p1 := p) (xs := F) (c := rowT) (by simp [sF.sd]) (fun _ => rowT (List.replicate w 0)) (fun f hf => by
      have e := e_combined_of sE tE (by omega) f p
      rw [(isK_comb (kz f hf).1).mp (kz f hf)] at e
      generalize rowT (List.replicate w 0) = Z at *
      generalize rowT f = Y at *
      simp [wipeS, e])
    exact this
  have e3 : (F.map fun _ => rowT (List.replicate w 0)) = List.replicate F.length (rowT (List.replicate w 0)) := by rw [List.map_const']
  rw [e3] at m1
  have e4 := e_small F.length w tE.w4 p
  generalize List.replicate F.length (rowT (List.replicate w 0)) = L at *
  generalize rowT r0 = Z0 at *
  simp [e1, e2, x0, l0, lE, m1, e4]
end PF

namespace PF
/-! ### a turn, place by place -/
def redAt (c best : Nat) (R : List Row) (p : Nat) : List Row := if p = best then R else R.set p (vadd (R.getD p []) (-(ent R p c).fdiv (ent R best c)) (R.getD best []))
theorem getD_set {R : List Row} {p i : Nat} {x : Row} (h : p < R.length) : (R.set p x).getD i [] = if p = i then x else R.getD i [] := by
  rw [List.getD_eq_getElem?_getD, List.getD_eq_getElem?_getD, List.getElem?_set]
  by_cases e : p = i
  · subst e; simp [h]
  · simp [e]
theorem redAt_len (c best : Nat) (R : List Row) (p : Nat) : (redAt c best R p).length = R.length := by
  unfold redAt
  split
  · rfl
  · simp
theorem fold_len (c best : Nat) : ∀ (l : List Nat) (R : List Row), (l.foldl (redAt c best) R).length = R.length
  | [], R => rfl
  | p :: l, R => by rw [List.foldl_cons, fold_len c best l, redAt_len]
theorem redAt_get {c best : Nat} {R : List Row} {p : Nat} (hp : p < R.length) (i : Nat) : (redAt c best R p).getD i [] = if i = p ∧ i ≠ best then vadd (R.getD i []) (-(ent R i c).fdiv (ent R best c)) (R.getD best []) else R.getD i [] := by
  unfold redAt
  by_cases e : p = best
  · subst e
    rw [if_pos rfl, if_neg (by rintro ⟨a, b⟩; exact b a)]
  · rw [if_neg e, getD_set hp]
    by_cases h : p = i
    · subst h; rw [if_pos rfl, if_pos ⟨rfl, e⟩]
    · rw [if_neg h, if_neg (by rintro ⟨a, b⟩; exact h a.symm)]
theorem fold_get {c best : Nat} : ∀ (l : List Nat) (R : List Row), l.Nodup → (∀ p ∈ l, p < R.length) → ∀ i, (l.foldl (redAt c best) R).getD i [] = if i ∈ l ∧ i ≠ best then vadd (R.getD i []) (-(ent R i c).fdiv (ent R best c)) (R.getD best []) else R.getD i []
  | [], R, _, _, i => by simp
  | p :: l, R, hn, hl, i => by
    obtain ⟨hp, hn2⟩ := List.nodup_cons.mp hn
    have hpl := hl p List.mem_cons_self
    rw [List.foldl_cons, fold_get l _ hn2 (fun q hq => by rw [redAt_len]; exact hl q (List.mem_cons_of_mem _ hq)) i]
    have eb : (redAt c best R p).getD best [] = R.getD best [] := by
      rw [redAt_get hpl, if_neg (by rintro ⟨_, b⟩; exact b rfl)]
    have eb2 : ent (redAt c best R p) best c = ent R best c := by unfold ent; rw [eb]
    by_cases hi : i = p
    · subst hi
      rw [if_neg (by rintro ⟨a, _⟩; exact hp a), redAt_get hpl]
      by_cases hb : i = best
      · rw [if_neg (by rintro ⟨_, b⟩; exact b hb), if_neg (by rintro ⟨_, b⟩; exact b hb)]
      · rw [if_pos ⟨rfl, hb⟩, if_pos ⟨List.mem_cons_self, hb⟩]
    · have e1 : (redAt c best R p).getD i [] = R.getD i [] := by rw [redAt_get hpl, if_neg (by rintro ⟨a, _⟩; exact hi a)]
      have e2 : ent (redAt c best R p) i c = ent R i c := by unfold ent; rw [e1]
      rw [e1, e2, eb, eb2]
      by_cases hm : i ∈ l ∧ i ≠ best
      · rw [if_pos hm, if_pos ⟨List.mem_cons_of_mem _ hm.1, hm.2⟩]
      · rw [if_neg hm, if_neg]
        rintro ⟨a, b⟩
        rcases List.mem_cons.mp a with a | a
        · exact hi a
        · exact hm ⟨a, b⟩
def nzP (R : List Row) (at_ c n : Nat) : List Nat := ((List.range (n - at_)).filter fun k => decide (ent R (at_ + k) c ≠ 0)).map fun k => at_ + k
theorem mem_nz {R : List Row} {at_ c n i : Nat} : i ∈ nzP R at_ c n ↔ at_ ≤ i ∧ i < n ∧ ent R i c ≠ 0 := by
  unfold nzP
  simp only [List.mem_map, List.mem_filter, List.mem_range, decide_eq_true_eq]
  constructor
  · rintro ⟨k, ⟨h1, h2⟩, rfl⟩
    exact ⟨by omega, by omega, h2⟩
  · rintro ⟨h1, h2, h3⟩
    exact ⟨i - at_, ⟨by omega, by rw [show at_ + (i - at_) = i by omega]; exact h3⟩, by omega⟩
theorem nodup_nz (R : List Row) (at_ c n : Nat) : (nzP R at_ c n).Nodup := by
  unfold nzP
  refine List.pairwise_map.mpr ((List.Pairwise.filter _ (List.nodup_range (n := n - at_))).imp fun {a b} h e => h (by omega))
theorem turned_fold {R : List Row} {at_ c n best : Nat} (hl : R.length = n) : Turned R ((nzP R at_ c n).foldl (redAt c best) R) n at_ c best := by
  refine ⟨by rw [fold_len, hl], fun i hi => ?_⟩
  rw [fold_get _ _ (nodup_nz R at_ c n) (fun p hp => by rw [hl]; exact (mem_nz.mp hp).2.1)]
  by_cases h : at_ ≤ i ∧ i ≠ best ∧ ent R i c ≠ 0
  · rw [if_pos ⟨mem_nz.mpr ⟨h.1, hi, h.2.2⟩, h.2.1⟩, if_pos h]
  · rw [if_neg h, if_neg]
    rintro ⟨a, b⟩
    have := mem_nz.mp a
    exact h ⟨this.1, b, this.2.2⟩
theorem clr_nz {R : List Row} {at_ c n : Nat} : Clr R n at_ c ↔ (nzP R at_ c n).length ≤ 1 := by
  have hn := nodup_nz R at_ c n
  constructor
  · intro h
    cases e : nzP R at_ c n with
    | nil => simp
    | cons x l =>
      cases l with
      | nil => simp
      | cons y l =>
        exfalso
        rw [e] at hn
        have hx := mem_nz.mp (by rw [e]; exact List.mem_cons_self : x ∈ nzP R at_ c n)
        have hy := mem_nz.mp (by rw [e]; exact List.mem_cons_of_mem _ List.mem_cons_self : y ∈ nzP R at_ c n)
        have := h x y hx.2.1 hy.2.1 hx.1 hy.1 hx.2.2 hy.2.2
        exact (List.nodup_cons.mp hn).1 (by rw [this]; exact List.mem_cons_self)
  · intro h i j hi hj hai haj hi0 hj0
    have h1 := mem_nz.mpr ⟨hai, hi, hi0⟩
    have h2 := mem_nz.mpr ⟨haj, hj, hj0⟩
    cases e : nzP R at_ c n with
    | nil => rw [e] at h1; cases h1
    | cons x l =>
      rw [e] at h h1 h2
      have : l = [] := List.eq_nil_of_length_eq_zero (by simpa using h)
      subst this
      rw [List.mem_singleton.mp h1, List.mem_singleton.mp h2]
/-! ### a column -/
def Mb : Nat → Nat
  | 0 => 2
  | 1 => 6
  | _ => 1458
def BdR (w n at_ M : Nat) (R : List Row) : Prop := ∀ i, i < n → at_ ≤ i → ∀ c', c' < w → (ent R i c').natAbs ≤ M
def Zs (w n at_ c : Nat) (R : List Row) : Prop := Clr R n at_ c ∧ (at_ ≤ 1 → BdR w n at_ (Mb (at_ + 1)) R) ∧ ((∃ i, i < n ∧ at_ ≤ i ∧ ent R i c ≠ 0) ∨ (at_ ≤ 2 → BdR w n at_ (Mb at_) R))
def Os (w n at_ c k : Nat) (R : List Row) : Prop := (at_ ≤ 1 ∧ Op1 w n at_ c (Mb at_) (Mb at_) k R) ∨ (at_ = 2 ∧ n = 4 ∧ Op2 n 2 c 1458 k R)
theorem mb_step {a : Nat} (h : a ≤ 1) : Mb a * 3 ^ (Mb a - 1) = Mb (a + 1) := by
  rcases (by omega : a = 0 ∨ a = 1) with rfl | rfl <;> decide
theorem mb_le {a : Nat} (h : a ≤ 1) : Mb a ≤ Mb (a + 1) ∧ 2 ≤ Mb a ∧ Mb a ≤ 6 := by
  rcases (by omega : a = 0 ∨ a = 1) with rfl | rfl <;> decide
theorem col_start {w n at_ c : Nat} {R : List Row} (hn : n ≤ 4) (hc : c < w) (hb : at_ ≤ 2 → BdR w n at_ (Mb at_) R) : Zs w n at_ c R ∨ Os w n at_ c 0 R := by
  by_cases hcl : Clr R n at_ c
  · refine .inl ⟨hcl, fun h i hi hai c' hc' => ?_, .inr hb⟩
    have := hb (by omega) i hi hai c' hc'
    have := (mb_le h).1
    omega
  · right
    by_cases h1 : at_ ≤ 1
    · left
      have hb' := hb (by omega)
      exact ⟨h1, hcl, Mb at_, Mb at_, (mb_le h1).2.1, by omega, fun i hi hai => hb' i hi hai c hc, hb', Nat.le_refl _⟩
    · right
      have two : at_ = 2 ∧ n = 4 := by
        apply Decidable.byContradiction
        intro hx
        refine hcl fun i j hi hj hai haj _ _ => ?_
        omega
      obtain ⟨e1, e2⟩ := two
      subst e1
      exact ⟨rfl, e2, hcl, fun i hi hai => hb (by omega) i hi hai c hc, .inl rfl⟩
theorem os_col {w n at_ c k : Nat} {R : List Row} (h : Os w n at_ c k R) : ¬ Clr R n at_ c ∧ ∀ i, i < n → at_ ≤ i → (ent R i c).natAbs ≤ 1458 := by
  rcases h with ⟨h1, hn, m, M, _, hm, hc, _⟩ | ⟨rfl, _, hn, hc, _⟩
  · have := (mb_le h1).2.2
    exact ⟨hn, fun i hi hai => by have := hc i hi hai; omega⟩
  · exact ⟨hn, hc⟩
theorem os_turn {T : List Row} {w n at_ c best k : Nat} {R R' : List Row} (hT : T.length = n) (hco : Core T w n at_ c R) (hc : c < w) (ht : Turned R R' n at_ c best) (hb : best < n) (hab : at_ ≤ best) (h0 : ent R best c ≠ 0)
    (hmin : ∀ i, i < n → at_ ≤ i → ent R i c ≠ 0 → (ent R best c).natAbs ≤ (ent R i c).natAbs) (h : Os w n at_ c k R) : Core T w n at_ c R' ∧ (Zs w n at_ c R' ∨ Os w n at_ c (k + 1) R') := by
  refine ⟨core_turned hT hco ht hb hab, ?_⟩
  have cb := (col_turned hco.rl hc ht hb h0).1
  have nz : ∃ i, i < n ∧ at_ ≤ i ∧ ent R' i c ≠ 0 := ⟨best, hb, hab, by rw [cb]; exact h0⟩
  rcases h with ⟨h1, h⟩ | ⟨rfl, hn, h⟩
  · rcases op1_turn hco.rl hc ht hb hab h0 hmin h with ⟨a, b, d⟩ | q
    · refine .inl ⟨a, fun _ => ?_, .inl b⟩
      rw [mb_step h1] at d
      exact d
    · exact .inr (.inl ⟨h1, q⟩)
  · rcases op2_turn (by omega) hco.rl hc ht hb hab h0 hmin h with q | q
    · exact .inl ⟨q, fun z => by omega, .inl nz⟩
    · exact .inr (.inr ⟨rfl, hn, q⟩)
theorem os_end {w n at_ c : Nat} {R : List Row} (h : Os w n at_ c 400 R) : False := by
  rcases h with ⟨h1, _, m, M, h2, h3, _⟩ | ⟨rfl, rfl, hn, _, hp⟩
  · have := (mb_le h1).2.2
    omega
  · rcases hp with hp | ⟨_, hp⟩
    · omega
    · have z2 : ent R 2 c ≠ 0 := fun e => hn fun i j hi hj hai haj hi0 hj0 => by
        have : i = 3 := by
          rcases (by omega : i = 2 ∨ i = 3) with r | r
          · rw [r] at hi0; exact absurd e hi0
          · exact r
        have : j = 3 := by
          rcases (by omega : j = 2 ∨ j = 3) with r | r
          · rw [r] at hj0; exact absurd e hj0
          · exact r
        omega
      have z3 : ent R (2 + 1) c ≠ 0 := fun e => hn fun i j hi hj hai haj hi0 hj0 => by
        have : i = 2 := by
          rcases (by omega : i = 2 ∨ i = 2 + 1) with r | r
          · exact r
          · rw [r] at hi0; exact absurd e hi0
        have : j = 2 := by
          rcases (by omega : j = 2 ∨ j = 2 + 1) with r | r
          · exact r
          · rw [r] at hj0; exact absurd e hj0
        omega
      have p1 : 1 ≤ (ent R 2 c).natAbs * (ent R (2 + 1) c).natAbs := Nat.mul_pos (Int.natAbs_pos.mpr z2) (Int.natAbs_pos.mpr z3)
      have p2 : 2 ^ 22 ≤ 2 ^ (400 - 1) := Nat.pow_le_pow_right (by decide) (by decide)
      have p3 : 1 * 2 ^ (400 - 1) ≤ (ent R 2 c).natAbs * (ent R (2 + 1) c).natAbs * 2 ^ (400 - 1) := Nat.mul_le_mul_right _ p1
      have p4 : (1458 * 1458 : Nat) < 2 ^ 22 := by decide
      rw [Nat.one_mul] at p3
      exact absurd (Nat.le_trans p2 (Nat.le_trans p3 hp)) (by omega)
/-- the column's end: two rows change places -/
theorem col_swap {T : List Row} {w n at_ c x : Nat} {R : List Row} (hc : Core T w n at_ c R) (hz : Zs w n at_ c R) (hx : x < n) (hax : at_ ≤ x) (h0 : ent R x c ≠ 0) :
    Core T w n (at_ + 1) (c + 1) ((R.set at_ (R.getD x [])).set x (R.getD at_ [])) ∧ (at_ + 1 ≤ 2 → BdR w n (at_ + 1) (Mb (at_ + 1)) ((R.set at_ (R.getD x [])).set x (R.getD at_ []))) := by
  have g : ∀ i, i < n → ((R.set at_ (R.getD x [])).set x (R.getD at_ [])).getD i [] = if x = i then R.getD at_ [] else if at_ = i then R.getD x [] else R.getD i [] := fun i hi => by
    rw [getD_set (by rw [List.length_set, hc.len]; exact hx), getD_set (by rw [hc.len]; omega)]
  have ga : at_ < n := by omega
  refine ⟨⟨by simp [hc.len], fun i hi => ?_, fun i hi c' hc' => ?_, fun i hi hai c' hc' => ?_⟩, fun h1 i hi hai c' hc' => ?_⟩
  · rw [g i hi]
    split
    · exact hc.rl _ ga
    · split
      · exact hc.rl _ hx
      · exact hc.rl _ hi
  · unfold ent
    rw [g i hi]
    split
    · exact hc.kr _ ga c' hc'
    · split
      · exact hc.kr _ hx c' hc'
      · exact hc.kr _ hi c' hc'
  · unfold ent
    rw [g i hi]
    by_cases e : x = i
    · rw [if_pos e]
      by_cases e2 : c' < c
      · exact hc.zr at_ ga (Nat.le_refl _) c' e2
      · have : c' = c := by omega
        rw [this]
        apply Decidable.byContradiction
        intro hx0
        have := hz.1 at_ x ga hx (Nat.le_refl _) hax hx0 h0
        omega
    · rw [if_neg e, if_neg (by omega)]
      by_cases e2 : c' < c
      · exact hc.zr i hi (by omega) c' e2
      · have : c' = c := by omega
        rw [this]
        apply Decidable.byContradiction
        intro hx0
        exact e (hz.1 x i hx hi hax (by omega) h0 hx0)
  · have b := hz.2.1 (by omega)
    unfold ent
    rw [g i hi]
    split
    · exact b at_ ga (Nat.le_refl _) c' hc'
    · rw [if_neg (by omega)]
      exact b i hi (by omega) c' hc'
theorem col_none {T : List Row} {w n at_ c : Nat} {R : List Row} (hc : Core T w n at_ c R) (hz : Zs w n at_ c R) (h0 : ∀ i, i < n → at_ ≤ i → ent R i c = 0) :
    Core T w n at_ (c + 1) R ∧ (at_ ≤ 2 → BdR w n at_ (Mb at_) R) := by
  refine ⟨⟨hc.len, hc.rl, hc.kr, fun i hi hai c' hc' => ?_⟩, ?_⟩
  · by_cases e2 : c' < c
    · exact hc.zr i hi hai c' e2
    · have : c' = c := by omega
      rw [this]; exact h0 i hi hai
  · rcases hz.2.2 with ⟨i, hi, hai, hx⟩ | q
    · exact absurd (h0 i hi hai) hx
    · exact q
/-! ### the start -/
def unitR (n i : Nat) : Row := (List.range n).map fun j => if j = i then 1 else 0
def wideR (E : List Row) : List Row := E.mapIdx fun i r => r ++ unitR E.length i
theorem dot_unit : ∀ (a : Row) (i : Nat), i < a.length → dot a ((List.range a.length).map fun j => if j = i then (1 : Int) else 0) = a.getD i 0
  | [], i, h => absurd h (Nat.not_lt_zero _)
  | x :: a, i, h => by
    rw [List.length_cons, List.range_succ_eq_map, List.map_cons, List.map_map]
    unfold dot
    rw [List.zipWith_cons_cons, List.sum_cons]
    cases i with
    | zero =>
      have e : (List.range a.length).map ((fun j => if j = 0 then (1 : Int) else 0) ∘ Nat.succ) = List.replicate a.length 0 := by
        apply List.ext_getElem <;> simp
      rw [e]
      have := dot_zero a a.length
      unfold dot at this
      rw [this]; simp
    | succ i =>
      have e : (List.range a.length).map ((fun j => if j = i + 1 then (1 : Int) else 0) ∘ Nat.succ) = (List.range a.length).map fun j => if j = i then (1 : Int) else 0 := by
        apply List.map_congr_left
        intro j _
        simp [Function.comp]
      rw [e]
      have := dot_unit a i (by simpa using h)
      unfold dot at this
      rw [this]; simp
theorem wide_get {E : List Row} {i : Nat} (hi : i < E.length) : (wideR E).getD i [] = E.getD i [] ++ unitR E.length i := by
  unfold wideR
  simp [List.getD_eq_getElem?_getD, List.getElem?_mapIdx, List.getElem?_eq_getElem hi]
theorem wide_core {E : List Row} {w : Nat} (h : ∀ r ∈ E, r.length = w) (hb : ∀ r ∈ E, ∀ x ∈ r, x.natAbs ≤ 2) : Core E w E.length 0 0 (wideR E) ∧ BdR w E.length 0 2 (wideR E) := by
  have gl : ∀ i, i < E.length → (E.getD i []).length = w ∧ E.getD i [] ∈ E := fun i hi => by
    have e : E.getD i [] = E[i] := by simp [List.getD_eq_getElem?_getD, List.getElem?_eq_getElem hi]
    rw [e]
    exact ⟨h _ (List.getElem_mem hi), List.getElem_mem hi⟩
  have ge : ∀ i c', i < E.length → c' < w → ent (wideR E) i c' = (E.getD i []).getD c' 0 := fun i c' hi hc' => by
    unfold ent
    rw [wide_get hi, List.getD_eq_getElem?_getD, List.getElem?_append_left (by rw [(gl i hi).1]; exact hc'), ← List.getD_eq_getElem?_getD]
  refine ⟨⟨by simp [wideR], fun i hi => ?_, fun i hi c' hc' => ?_, fun i hi _ c' hc' => absurd hc' (Nat.not_lt_zero _)⟩, fun i hi _ c' hc' => ?_⟩
  · rw [wide_get hi, List.length_append, (gl i hi).1]; simp [unitR]
  · rw [ge i c' hi hc', wide_get hi, List.drop_append_of_le_length (by rw [(gl i hi).1]; exact Nat.le_refl _), List.drop_of_length_le (by rw [(gl i hi).1]; exact Nat.le_refl _), List.nil_append]
    have := dot_unit (col E c') i (by rw [col_len]; exact hi)
    rw [col_len] at this
    unfold unitR
    rw [this]
    simp [col, List.getD_eq_getElem?_getD, List.getElem?_eq_getElem hi]
  · rw [ge i c' hi hc']
    have hl := (gl i hi).1
    have hm := hb _ (gl i hi).2 ((E.getD i []).getD c' 0) (by
      rw [List.getD_eq_getElem?_getD (l := E.getD i []), List.getElem?_eq_getElem (by rw [hl]; exact hc')]
      exact List.getElem_mem _)
    exact hm
theorem core_kernel {T : List Row} {w n at_ : Nat} {R : List Row} (hT : T.length = n) (h : Core T w n at_ w R) {r : Row} (hr : r ∈ (R.drop at_).map fun q => q.drop w) : IsK T w r := by
  obtain ⟨q, hq, rfl⟩ := List.mem_map.mp hr
  obtain ⟨k, hk, rfl⟩ := List.mem_iff_getElem.mp hq
  rw [List.length_drop, h.len] at hk
  have hi : at_ + k < n := by omega
  have e : (R.drop at_)[k] = R.getD (at_ + k) [] := by
    rw [List.getElem_drop, List.getD_eq_getElem?_getD, List.getElem?_eq_getElem (by rw [h.len]; exact hi)]; rfl
  rw [e]
  refine ⟨by rw [List.length_drop, h.rl _ hi, hT]; omega, fun c hc => ?_⟩
  rw [← h.kr _ hi c hc]
  exact h.zr _ hi (by omega) c hc
end PF

namespace PF
open PySem PySem.Spec PyProof.Rows L2
/-! ### rows led on -/
def rowL (r : Row) : D := .lst (r.map .int)
theorem rowL_at {R : List Row} {i : Nat} (h : i < R.length) : (R.map rowL)[i]? = some (rowL (R.getD i [])) := by
  rw [List.getElem?_map, List.getElem?_eq_getElem h]
  simp [List.getD_eq_getElem?_getD, List.getElem?_eq_getElem h]
theorem ix_rowL {r : Row} {c : Nat} (h : c < r.length) : dIx (rowL r) (dI c) = some (.int (r.getD c 0)) := nIx_lst (by rw [List.getElem?_map, List.getElem?_eq_getElem h, List.getD_eq_getElem?_getD, List.getElem?_eq_getElem h]; rfl)
theorem dDiv_f {i j : Int} (h : j ≠ 0) (h2 : j.natAbs < 1000000) : dDiv (.int i) (.int j) = some (.int (i.fdiv j)) := by
  have h4 : j.natAbs < 1073741824 := by omega
  simp [dDiv, dI2c, okDiv, h, h4]
theorem dAbs_nat (i : Int) : dAbs [.int i] = some (.int (i.natAbs : Int)) := by
  rw [dAbs_int]; congr 2; split <;> omega
def gS (q : Int) : D → D
  | .tup [.int x, .int y] => .int (x - q * y)
  | _ => .non
theorem zip_sub (q : Int) : ∀ a b : Row, (zipL (a.map .int) (b.map .int)).map (gS q) = (vadd a (-q) b).map .int
  | [], _ => rfl
  | _ :: _, [] => rfl
  | x :: a, y :: b => by
    have := zip_sub q a b
    simp only [vadd, List.map_cons, List.zipWith_cons_cons] at this ⊢
    rw [← this]
    have e : x + -q * y = x - q * y := by rw [Int.neg_mul]; omega
    rw [e]; rfl
section
variable (s0 s1 s4 s5 s6 s7 : Option W)
theorem led_less (s2 s11 s12 : Option W) (R : List Row) (p best : Nat) (q : Int) (hp : p < R.length) (hb : best < R.length) (hq : q.natAbs ≤ 1000000) (pp : Pst) :
    m__law_led_4 [s0, s1, s2, some (.own (R.map rowL)), s4, s5, s6, s7, some (.val (dI best)), some (.val (dI p)), some (.val (.int q)), s11, s12] pp = .ok ((vadd (R.getD p []) (-q) (R.getD best [])).map .int) pp := by
  have x1 := ixo (p1 := pp) (i := 3) (mb := rd 9) (ρ := [s0, s1, s2, some (.own (R.map rowL)), s4, s5, s6, s7, some (.val (dI best)), some (.val (dI p)), some (.val (.int q)), none, none]) (p := pp) rfl (by simp) (rowL_at hp)
  have x2 := ixo (p1 := pp) (i := 3) (mb := rd 8) (ρ := [s0, s1, s2, some (.own (R.map rowL)), s4, s5, s6, s7, some (.val (dI best)), some (.val (dI p)), some (.val (.int q)), none, none]) (p := pp) rfl (by simp) (rowL_at hb)
  have x1' := ixo (p1 := pp) (i := 3) (mb := rd 9) (ρ := [s0, s1, s2, some (.own (R.map rowL)), s4, s5, s6, s7, some (.val (dI best)), some (.val (dI p)), some (.val (.int q)), s11, s12]) (p := pp) rfl (by simp) (rowL_at hp)
  have x2' := ixo (p1 := pp) (i := 3) (mb := rd 8) (ρ := [s0, s1, s2, some (.own (R.map rowL)), s4, s5, s6, s7, some (.val (dI best)), some (.val (dI p)), some (.val (.int q)), s11, s12]) (p := pp) rfl (by simp) (rowL_at hb)
  generalize R.getD p [] = a at *
  generalize R.getD best [] = b at *
  have hz : mZipS (mcons (mIxO 3 (rd 9)) (mcons (mIxO 3 (rd 8)) (mret []))) [s0, s1, s2, some (.own (R.map rowL)), s4, s5, s6, s7, some (.val (dI best)), some (.val (dI p)), some (.val (.int q)), s11, s12] pp = .ok (zipL (a.map .int) (b.map .int)) pp := by
    generalize R.map rowL = RR at *
    have e1 : sqD (rowL a) = some (a.map .int) := rfl
    have e2 : sqD (rowL b) = some (b.map .int) := rfl
    generalize rowL a = A at *
    generalize rowL b = B at *
    simp [x1', x2', e1, e2]
  have m1 := mLc_pure (vs := [11, 12]) (f := fTup (fCons (fName 11) (fCons (fName 12) (fNil)))) (tt := mYes) (el := mOp dSub (rd 11) (mOp dMulX (rd 10) (rd 12))) hz (fun _ => true) (gS q) (by
    intro z hz
    obtain ⟨x, hx, y, hy, rfl⟩ := zip_rmem hz
    generalize R.map rowL = RR at *
    exact ⟨_, rfl, rfl, fun _ => by simp [wipeS, gS, mul_s (i := q) (j := y) (by omega) (by omega)]⟩)
  rw [filter_yes, zip_sub] at m1
  exact m1
/-- one place -/
theorem led_one (R : List Row) (c p best m : Nat) (hm : m ≤ 5000) (hp : p < R.length) (hb : best < R.length) (hlp : c < (R.getD p []).length) (hlb : c < (R.getD best []).length) (h0 : ent R best c ≠ 0) (hbm : (ent R best c).natAbs ≤ m) (hpm : (ent R p c).natAbs ≤ m) (s10 s11 s12 : Option W) (pp : Pst) :
    ∃ t10, b__law_led_5 [s0, s1, some (.val (dI c)), some (.own (R.map rowL)), s4, s5, s6, s7, some (.val (dI best)), some (.val (dI p)), s10, s11, s12] pp
      = .nx [s0, s1, some (.val (dI c)), some (.own ((redAt c best R p).map rowL)), s4, s5, s6, s7, some (.val (dI best)), some (.val (dI p)), t10, s11, s12] pp := by
  by_cases e : p = best
  · refine ⟨s10, ?_⟩
    unfold redAt b__law_led_5
    rw [if_pos e]
    generalize R.map rowL = RR at *
    simp [e]
  · have x1 := ixo (p1 := pp) (i := 3) (mb := rd 9) (ρ := [s0, s1, some (.val (dI c)), some (.own (R.map rowL)), s4, s5, s6, s7, some (.val (dI best)), some (.val (dI p)), s10, s11, s12]) (p := pp) rfl (by simp) (rowL_at hp)
    have x2 := ixo (p1 := pp) (i := 3) (mb := rd 8) (ρ := [s0, s1, some (.val (dI c)), some (.own (R.map rowL)), s4, s5, s6, s7, some (.val (dI best)), some (.val (dI p)), s10, s11, s12]) (p := pp) rfl (by simp) (rowL_at hb)
    have y1 := ix_rowL hlp
    have y2 := ix_rowL hlb
    have dv := dDiv_f (i := (R.getD p []).getD c 0) (j := (R.getD best []).getD c 0) h0 (by unfold ent at hbm; omega)
    have qb : ((ent R p c).fdiv (ent R best c)).natAbs ≤ 1000000 := by
      have q1 := fdiv_abs (ent R p c) (ent R best c) h0
      have q2 : ((ent R p c).fdiv (ent R best c)).natAbs * 1 ≤ ((ent R p c).fdiv (ent R best c)).natAbs * (ent R best c).natAbs := Nat.mul_le_mul_left _ (Int.natAbs_pos.mpr h0)
      omega
    refine ⟨some (.val (.int ((ent R p c).fdiv (ent R best c)))), ?_⟩
    have m4 := led_less s0 s1 s4 s5 s6 s7 (some (.val (dI c))) s11 s12 R p best ((ent R p c).fdiv (ent R best c)) hp hb qb pp
    have st := subo_ok (r := 3) (k := p) (mi := rd 9) (m := mfrz m__law_led_4) (ρ := [s0, s1, some (.val (dI c)), some (.own (R.map rowL)), s4, s5, s6, s7, some (.val (dI best)), some (.val (dI p)), some (.val (.int ((ent R p c).fdiv (ent R best c)))), s11, s12]) (p := pp) (d := rowL (vadd (R.getD p []) (-(ent R p c).fdiv (ent R best c)) (R.getD best []))) (xs := R.map rowL) rfl (by rw [ev_mfrz, ev_mbind, m4, andThen_ok, kM_ap, ev_mret]; rfl) (by simp) (by rw [List.length_map]; exact hp)
    have es : (R.map rowL).set p (rowL (vadd (R.getD p []) (-(ent R p c).fdiv (ent R best c)) (R.getD best []))) = (redAt c best R p).map rowL := by
      unfold redAt
      rw [if_neg e, List.map_set]
    rw [es] at st
    have st' : casgT (tgSubO 3 (rd 9)) (mfrz m__law_led_4) [s0, s1, some (.val (dI c)), some (.own (R.map rowL)), s4, s5, s6, s7, some (.val (dI best)), some (.val (dI p)), some (.val (.int ((ent R p c).fdiv (ent R best c)))), s11, s12] pp = .nx [s0, s1, some (.val (dI c)), some (.own ((redAt c best R p).map rowL)), s4, s5, s6, s7, some (.val (dI best)), some (.val (dI p)), some (.val (.int ((ent R p c).fdiv (ent R best c)))), s11, s12] pp := st
    have cg : casg 10 (mOp dDiv (mOp dIx (mIxO 3 (rd 9)) (rd 2)) (mOp dIx (mIxO 3 (rd 8)) (rd 2))) [s0, s1, some (.val (dI c)), some (.own (R.map rowL)), s4, s5, s6, s7, some (.val (dI best)), some (.val (dI p)), s10, s11, s12] pp = .nx [s0, s1, some (.val (dI c)), some (.own (R.map rowL)), s4, s5, s6, s7, some (.val (dI best)), some (.val (dI p)), some (.val (.int ((ent R p c).fdiv (ent R best c)))), s11, s12] pp := by
      unfold ent
      generalize R.map rowL = RR at *
      generalize rowL (R.getD p []) = A at *
      generalize rowL (R.getD best []) = B at *
      clear m4 st st' es qb hpm hbm h0
      generalize (R.getD p []).getD c 0 = ip at *
      generalize (R.getD best []).getD c 0 = ib at *
      simp [x1, x2, y1, y2, dv]
    have tt : mCmp dNe (rd 9) (rd 8) [s0, s1, some (.val (dI c)), some (.own (R.map rowL)), s4, s5, s6, s7, some (.val (dI best)), some (.val (dI p)), s10, s11, s12] pp = .ok true pp := by
      generalize R.map rowL = RR at *
      simp [e]
    unfold b__law_led_5
    rw [ev_cif, ev_eout, tt, andS_ok, kC_ap, if_pos rfl, ev_cseq, cg, andC_nx]
    exact st'
theorem red_ent {c best : Nat} {R : List Row} {p : Nat} (hp : p < R.length) (i : Nat) (h0 : ent R best c ≠ 0) (hl : ∀ i, i < R.length → (R.getD i []).length = (R.getD best []).length) (hi : i < R.length) : (ent (redAt c best R p) i c).natAbs ≤ max (ent R i c).natAbs (ent R best c).natAbs := by
  by_cases h : i = p ∧ i ≠ best
  · have e : ent (redAt c best R p) i c = ent R i c + -(ent R i c).fdiv (ent R best c) * ent R best c := by
      conv => lhs; unfold ent
      rw [redAt_get hp, if_pos h, vadd_get _ (hl i hi)]
      rfl
    obtain ⟨r, r1, r2, _, _⟩ := fdiv_rem (ent R i c) (ent R best c) h0
    have : ent R i c + -(ent R i c).fdiv (ent R best c) * ent R best c = r := by rw [Int.neg_mul]; omega
    rw [e, this]
    omega
  · have e : ent (redAt c best R p) i c = ent R i c := by
      conv => lhs; unfold ent
      rw [redAt_get hp, if_neg h]
      rfl
    rw [e]
    exact Nat.le_max_left _ _
/-- all places -/
theorem led_all (n w c best m at_ : Nat) (hm : m ≤ 5000) (hb : best < n) (hab : at_ ≤ best) (hc : c < w) (pp : Pst) : ∀ (l : List Nat) (R : List Row), (∀ p ∈ l, p < n ∧ at_ ≤ p) → R.length = n → (∀ i, i < n → (R.getD i []).length = w + n) → ent R best c ≠ 0 → (∀ i, i < n → at_ ≤ i → (ent R i c).natAbs ≤ m) → ∀ s9 s10 s11 s12 : Option W,
    ∃ t9 t10, cforGo (tgName 9) b__law_led_5 (l.map dI) [s0, s1, some (.val (dI c)), some (.own (R.map rowL)), s4, s5, s6, s7, some (.val (dI best)), s9, s10, s11, s12] pp
      = .nx [s0, s1, some (.val (dI c)), some (.own ((l.foldl (redAt c best) R).map rowL)), s4, s5, s6, s7, some (.val (dI best)), t9, t10, s11, s12] pp
  | [], R, _, _, _, _, _, s9, s10, s11, s12 => ⟨s9, s10, rfl⟩
  | p :: l, R, hl, hR, hw, h0, hcol, s9, s10, s11, s12 => by
    obtain ⟨hp, hap⟩ := hl p List.mem_cons_self
    obtain ⟨u10, e1⟩ := led_one s0 s1 s4 s5 s6 s7 R c p best m hm (by omega) (by omega) (by rw [hw p hp]; omega) (by rw [hw best hb]; omega) h0 (hcol best hb hab) (hcol p hp hap) s10 s11 s12 pp
    have g : ∀ i, (redAt c best R p).getD i [] = _ := fun i => redAt_get (c := c) (best := best) (by omega : p < R.length) i
    have eb : (redAt c best R p).getD best [] = R.getD best [] := by rw [g, if_neg (by rintro ⟨_, b⟩; exact b rfl)]
    obtain ⟨t9, t10, e2⟩ := led_all n w c best m at_ hm hb hab hc pp l (redAt c best R p) (fun q hq => hl q (List.mem_cons_of_mem _ hq)) (by rw [redAt_len, hR]) (fun i hi => by
      rw [g i]
      split
      · rw [vadd_len (by rw [hw i hi, hw best hb]), hw i hi]
      · exact hw i hi) (by unfold ent; rw [eb]; exact h0) (fun i hi hai => by
      have := red_ent (c := c) (best := best) (by omega : p < R.length) i h0 (fun i hi => by rw [hw i (by omega), hw best hb]) (by omega)
      have a1 := hcol i hi hai
      have a2 := hcol best hb hab
      omega) (some (.val (dI p))) u10 s11 s12
    refine ⟨t9, t10, ?_⟩
    have gt : tgName 9 (dI p) [s0, s1, some (.val (dI c)), some (.own (R.map rowL)), s4, s5, s6, s7, some (.val (dI best)), s9, s10, s11, s12] pp = some ([s0, s1, some (.val (dI c)), some (.own (R.map rowL)), s4, s5, s6, s7, some (.val (dI best)), some (.val (dI p)), s10, s11, s12], pp) := rfl
    rw [List.map_cons, List.foldl_cons]
    simp only [cforGo, gt, e1]
    exact e2
end
end PF

namespace PF
open PySem PySem.Spec PyProof.Rows L2
theorem tgsubo_ok {r k : Nat} {mi : M D} {ρ : Sl} {p : Pst} {xs : List D} {d : D} (h : ρ[r]? = some (some (.own xs))) (hi : mi ρ p = .ok (dI k) p) (hk : k < xs.length) : tgSubO r mi d ρ p = some (ρ.set r (some (.own (xs.set k d))), p) := by
  have ix : ixN xs.length (k : Int) = some k := by
    simp only [ixN]
    rw [if_pos (by omega), if_pos (by omega), Int.toNat_natCast]
  unfold tgSubO
  rw [h]
  simp only [tgSub, hi, h, dI, ix]
theorem swap_ok {r i j : Nat} {m m1 m2 : M D} {ρ ρ1 : Sl} {p : Pst} {xs : List D} {a b : D} (h : ρ[r]? = some (some (.own xs))) (hm : m ρ p = .ok (.tup [a, b]) p) (h1 : m1 ρ p = .ok (dI i) p) (hi : i < xs.length) (e1 : ρ.set r (some (.own (xs.set i a))) = ρ1)
    (h2 : m2 ρ1 p = .ok (dI j) p) (hr : ρ1[r]? = some (some (.own (xs.set i a)))) (hj : j < xs.length) :
    casgT (tgTup 2 (tgCons (tgSubO r m1) (tgCons (tgSubO r m2) (tgNil)))) m ρ p = .nx (ρ1.set r (some (.own ((xs.set i a).set j b)))) p := by
  unfold casgT
  rw [ev_eout, hm, andS_ok, kC_ap]
  have t1 := tgsubo_ok (d := a) h h1 hi
  rw [e1] at t1
  have t2 := tgsubo_ok (d := b) hr h2 (by rw [List.length_set]; exact hj)
  have e : tgTup 2 (tgCons (tgSubO r m1) (tgCons (tgSubO r m2) (tgNil))) (.tup [a, b]) ρ p = some (ρ1.set r (some (.own ((xs.set i a).set j b))), p) := by
    simp only [tgTup, tgCons, tgNil, t1, t2]
    rfl
  simp only [e]
theorem range_gen (s0 s1 s2 s5 s6 s7 s8 s9 s10 s11 s12 : Option W) (A B : D) (RR R : List D) (hl : dLen [.lst RR] = some B) (hr : dRange2 [A, B] = some R) (sc : scal B = true) (pp : Pst) :
    mRange2 (mcons (rd 4) (mcons (mscal (mCall dLen (mcons (rd 3) (mret [])))) (mret []))) [s0, s1, s2, some (.own RR), some (.val A), s5, s6, s7, s8, s9, s10, s11, s12] pp = .ok R pp := by
  have m1 : mscal (mCall dLen (mcons (rd 3) (mret []))) [s0, s1, s2, some (.own RR), some (.val A), s5, s6, s7, s8, s9, s10, s11, s12] pp = .ok B pp := scal_ok (by simp [-nLen_lst, thaw, hl]) sc
  simp [m1, hr]
section
variable (s0 s1 s5 s6 s7 s8 s9 s10 s11 s12 : Option W)
/-- where a column is not nought -/
theorem led_places (R : List Row) (n w c at_ : Nat) (hn : n ≤ 4) (hR : R.length = n) (hw : ∀ i, i < n → (R.getD i []).length = w + n) (hc : c < w) (ha : at_ ≤ n) (pp : Pst) :
    m__law_led_2 [s0, s1, some (.val (dI c)), some (.own (R.map rowL)), some (.val (dI at_)), s5, s6, s7, s8, s9, s10, s11, s12] pp = .ok ((nzP R at_ c n).map dI) pp := by
  have r2 := nRange2 (a := at_) (b := n) (by omega) (by omega)
  have hl : dLen [.lst (R.map rowL)] = some (dI n) := by rw [nLen_lst, List.length_map, hR]
  have hi := range_gen s0 s1 (some (.val (dI c))) s5 s6 s7 s8 s9 s10 s11 s12 (dI at_) (dI n) (R.map rowL) _ hl r2 rfl pp
  have m1 := mLc_map (i := 9) (tt := mCmp dNe (mOp dIx (mIxO 3 (rd 9)) (rd 2)) (mret (.int 0))) (el := rd 9) (xs := List.range (n - at_)) (c := fun k => dI (at_ + k)) hi (fun k => decide (ent R (at_ + k) c ≠ 0)) (fun k => dI (at_ + k)) (fun k hk => by
    have hk := List.mem_range.mp hk
    have hp : at_ + k < n := by omega
    have x1 := ixo (p1 := pp) (i := 3) (mb := rd 9) (ρ := [s0, s1, some (.val (dI c)), some (.own (R.map rowL)), some (.val (dI at_)), s5, s6, s7, s8, some (.val (dI (at_ + k))), s10, s11, s12]) (p := pp) (k := at_ + k) rfl (by simp) (rowL_at (by omega))
    have y1 := ix_rowL (r := R.getD (at_ + k) []) (c := c) (by rw [hw _ hp]; omega)
    have e0 : (R.getD (at_ + k) []).getD c 0 = ent R (at_ + k) c := rfl
    rw [e0] at y1
    generalize ent R (at_ + k) c = v at *
    generalize rowL (R.getD (at_ + k) []) = A at *
    generalize R.map rowL = RR at *
    constructor
    · show mCmp dNe (mOp dIx (mIxO 3 (rd 9)) (rd 2)) (mret (.int 0)) [s0, s1, some (.val (dI c)), some (.own RR), some (.val (dI at_)), s5, s6, s7, s8, some (.val (dI (at_ + k))), s10, s11, s12] pp = _
      simp [x1, y1]
    · intro _
      rfl)
  have e : ((List.range (n - at_)).filter fun k => decide (ent R (at_ + k) c ≠ 0)).map (fun k => dI (at_ + k)) = (nzP R at_ c n).map dI := by unfold nzP; rw [List.map_map]; rfl
  rw [e] at m1
  exact m1
theorem led_pairs (R : List Row) (n w c at_ : Nat) (hR : R.length = n) (hw : ∀ i, i < n → (R.getD i []).length = w + n) (hc : c < w) (l : List Nat) (hl : ∀ p ∈ l, p < n) (pp : Pst) :
    m__law_led_3 [s0, s1, some (.val (dI c)), some (.own (R.map rowL)), some (.val (dI at_)), s5, some (.val (.lst (l.map dI))), s7, s8, s9, s10, s11, s12] pp = .ok ((l.map fun p => (((ent R p c).natAbs : Int), (p : Int))).map pairD) pp := by
  have m1 := mLc_mapY (i := 9) (mi := mSeq (rd 6)) (el := mtup (mcons (mCall dAbs (mcons (mOp dIx (mIxO 3 (rd 9)) (rd 2)) (mret []))) (mcons (rd 9) (mret [])))) (ρ := [s0, s1, some (.val (dI c)), some (.own (R.map rowL)), some (.val (dI at_)), s5, some (.val (.lst (l.map dI))), s7, s8, s9, s10, s11, s12]) (p := pp) (p1 := pp) (xs := l) (c := dI) (by
      generalize l.map dI = L at *
      generalize R.map rowL = RR at *
      simp) (fun p => pairD (((ent R p c).natAbs : Int), (p : Int))) (fun p hp => by
    have hp := hl p hp
    have x1 := ixo (p1 := pp) (i := 3) (mb := rd 9) (ρ := [s0, s1, some (.val (dI c)), some (.own (R.map rowL)), some (.val (dI at_)), s5, some (.val (.lst (l.map dI))), s7, s8, some (.val (dI p)), s10, s11, s12]) (p := pp) (k := p) rfl (by simp) (rowL_at (by omega))
    have y1 := ix_rowL (r := R.getD p []) (c := c) (by rw [hw _ hp]; omega)
    have e0 : (R.getD p []).getD c 0 = ent R p c := rfl
    rw [e0] at y1
    have ab := dAbs_nat (ent R p c)
    generalize ent R p c = v at *
    generalize rowL (R.getD p []) = A at *
    generalize R.map rowL = RR at *
    generalize l.map dI = L at *
    show mtup (mcons (mCall dAbs (mcons (mOp dIx (mIxO 3 (rd 9)) (rd 2)) (mret []))) (mcons (rd 9) (mret []))) [s0, s1, some (.val (dI c)), some (.own RR), some (.val (dI at_)), s5, some (.val (.lst L)), s7, s8, some (.val (dI p)), s10, s11, s12] pp = _
    have m0 : mCall dAbs (mcons (mOp dIx (mIxO 3 (rd 9)) (rd 2)) (mret [])) [s0, s1, some (.val (dI c)), some (.own RR), some (.val (dI at_)), s5, some (.val (.lst L)), s7, s8, some (.val (dI p)), s10, s11, s12] pp = .ok (.int (v.natAbs : Int)) pp := by
      simp [-dAbs_int, x1, y1, ab]
    have e1 : pairD ((v.natAbs : Int), (p : Int)) = .tup [.int (v.natAbs : Int), dI p] := rfl
    rw [e1]
    generalize D.int (v.natAbs : Int) = VV at *
    simp [-ev_mCall, m0])
  rw [List.map_map]
  exact m1
end
section
variable (s0 s1 s5 s7 s11 s12 : Option W)
theorem led_turn (T : List Row) (R : List Row) (n w c at_ : Nat) (hn : n ≤ 4) (hR : R.length = n) (hw : ∀ i, i < n → (R.getD i []).length = w + n) (hc : c < w) (ha : at_ ≤ n) (hcol : ¬ Clr R n at_ c → ∀ i, i < n → at_ ≤ i → (ent R i c).natAbs ≤ 1458) (s6 s8 s9 s10 : Option W) (pp : Pst) :
    ∃ R' t6 t8 t9 t10, b__law_led_6 [s0, s1, some (.val (dI c)), some (.own (R.map rowL)), some (.val (dI at_)), s5, s6, s7, s8, s9, s10, s11, s12] pp = .nx [s0, s1, some (.val (dI c)), some (.own (R'.map rowL)), some (.val (dI at_)), s5, t6, s7, t8, t9, t10, s11, s12] pp ∧
      ((Clr R n at_ c ∧ R' = R) ∨ (¬ Clr R n at_ c ∧ ∃ best, best < n ∧ at_ ≤ best ∧ ent R best c ≠ 0 ∧ (∀ i, i < n → at_ ≤ i → ent R i c ≠ 0 → (ent R best c).natAbs ≤ (ent R i c).natAbs) ∧ Turned R R' n at_ c best)) := by
  have m2 := led_places s0 s1 s5 s6 s7 s8 s9 s10 s11 s12 R n w c at_ hn hR hw hc ha pp
  have first : casg 6 (mfrz m__law_led_2) [s0, s1, some (.val (dI c)), some (.own (R.map rowL)), some (.val (dI at_)), s5, s6, s7, s8, s9, s10, s11, s12] pp = .nx [s0, s1, some (.val (dI c)), some (.own (R.map rowL)), some (.val (dI at_)), s5, some (.val (.lst ((nzP R at_ c n).map dI))), s7, s8, s9, s10, s11, s12] pp := by
    rw [ev_casg, ev_eout, ev_mfrz, ev_mbind, m2]; rfl
  have ln : dLen [.lst ((nzP R at_ c n).map dI)] = some (dI (nzP R at_ c n).length) := by rw [nLen_lst, List.length_map]
  have gt1 : dGt (dI (nzP R at_ c n).length) (.int 1) = some (decide (1 < (nzP R at_ c n).length)) := nGt (a := (nzP R at_ c n).length) (b := 1)
  by_cases hcl : Clr R n at_ c
  · have h1 : ¬ 1 < (nzP R at_ c n).length := by have := clr_nz.mp hcl; omega
    refine ⟨R, some (.val (.lst ((nzP R at_ c n).map dI))), s8, s9, s10, ?_, .inl ⟨hcl, rfl⟩⟩
    unfold b__law_led_6
    rw [ev_cseq, first, andC_nx]
    rw [decide_eq_false h1] at gt1
    generalize (nzP R at_ c n).map dI = NZ at *
    generalize dI (nzP R at_ c n).length = LL at *
    generalize R.map rowL = RR at *
    simp [-nLen_lst, ln, gt1]
  · have h1 : 1 < (nzP R at_ c n).length := by
      apply Decidable.byContradiction
      intro h
      exact hcl (clr_nz.mpr (by omega))
    have hmem : ∀ p ∈ nzP R at_ c n, p < n ∧ at_ ≤ p := fun p hp => by have := mem_nz.mp hp; omega
    obtain ⟨q, qs, hq⟩ : ∃ q qs, (nzP R at_ c n).map (fun p => (((ent R p c).natAbs : Int), (p : Int))) = q :: qs := by
      cases e : nzP R at_ c n with
      | nil => rw [e] at h1; simp at h1
      | cons x l => exact ⟨_, _, rfl⟩
    obtain ⟨k1, k2⟩ := minOf_spec qs q
    rw [← hq] at k1 k2
    obtain ⟨best, hbm, hbe⟩ := List.mem_map.mp k1
    have hb := mem_nz.mp hbm
    have m3 := led_pairs s0 s1 s5 s7 s8 s9 s10 s11 s12 R n w c at_ hR hw hc (nzP R at_ c n) (fun p hp => (hmem p hp).1) pp
    rw [hq] at m3
    have mn := dMinX_pairs q qs
    rw [← hbe] at mn
    have hmin : ∀ i, i < n → at_ ≤ i → ent R i c ≠ 0 → (ent R best c).natAbs ≤ (ent R i c).natAbs := fun i hi hai h0 => by
      have := k2 _ (List.mem_map.mpr ⟨i, mem_nz.mpr ⟨hai, hi, h0⟩, rfl⟩)
      rw [← hbe] at this
      simp only at this
      omega
    obtain ⟨t9, t10, e9⟩ := led_all s0 s1 (some (.val (dI at_))) s5 (some (.val (.lst ((nzP R at_ c n).map dI)))) s7 n w c best 1458 at_ (by omega) hb.2.1 hb.1 hc pp (nzP R at_ c n) R hmem hR hw hb.2.2 (hcol hcl) s9 s10 s11 s12
    refine ⟨(nzP R at_ c n).foldl (redAt c best) R, some (.val (.lst ((nzP R at_ c n).map dI))), some (.val (dI best)), t9, t10, ?_, .inr ⟨hcl, best, hb.2.1, hb.1, hb.2.2, hmin, turned_fold hR⟩⟩
    unfold b__law_led_6
    rw [ev_cseq, first, andC_nx]
    rw [decide_eq_true h1] at gt1
    have ex : dIx (pairD (((ent R best c).natAbs : Int), (best : Int))) (.int 1) = some (dI best) := rfl
    generalize pairD (((ent R best c).natAbs : Int), (best : Int)) = PD at *
    generalize (q :: qs).map pairD = PS at *
    generalize ((nzP R at_ c n).foldl (redAt c best) R).map rowL = RR' at *
    generalize (nzP R at_ c n).map dI = NZ at *
    generalize dI (nzP R at_ c n).length = LL at *
    generalize R.map rowL = RR at *
    simp [-nLen_lst, ln, gt1, m3, mn, ex, cfor, e9]
theorem led_next (T : List Row) (n w c at_ : Nat) (hT : T.length = n) (hn : n ≤ 4) (hc : c < w) (ha : at_ ≤ n) (pp : Pst) (k : Nat) (R : List Row) (h1 : Core T w n at_ c R) (h2 : Zs w n at_ c R ∨ Os w n at_ c k R) (s6 s8 s9 s10 : Option W) :
    ∃ R' t6 t8 t9 t10, b__law_led_6 [s0, s1, some (.val (dI c)), some (.own (R.map rowL)), some (.val (dI at_)), s5, s6, s7, s8, s9, s10, s11, s12] pp = .nx [s0, s1, some (.val (dI c)), some (.own (R'.map rowL)), some (.val (dI at_)), s5, t6, s7, t8, t9, t10, s11, s12] pp ∧
      Core T w n at_ c R' ∧ (Zs w n at_ c R' ∨ Os w n at_ c (k + 1) R') := by
  obtain ⟨R1, u6, u8, u9, u10, e1, hr⟩ := led_turn s0 s1 s5 s7 s11 s12 T R n w c at_ hn h1.len h1.rl hc ha (fun hncl => by
    rcases h2 with h2 | h2
    · exact absurd h2.1 hncl
    · exact (os_col h2).2) s6 s8 s9 s10 pp
  refine ⟨R1, u6, u8, u9, u10, e1, ?_⟩
  rcases hr with ⟨hcl, rfl⟩ | ⟨hncl, best, q1, q2, q3, q4, q5⟩
  · rcases h2 with h2 | h2
    · exact ⟨h1, .inl h2⟩
    · exact absurd hcl (os_col h2).1
  · rcases h2 with h2 | h2
    · exact absurd h2.1 hncl
    · exact os_turn hT h1 hc q5 q1 q2 q3 q4 h2
end
/-- so many turns, of any body that goes on so -/
theorem turns_gen {α : Type} {G : D → Sl → Pst → Option (Sl × Pst)} {body : C} {p : Pst} (st : α → Sl → Prop) (P : Nat → α → Prop) (h : ∀ d k a ρ, st a ρ → P k a → ∃ a' ρ1 ρ2, G d ρ p = some (ρ1, p) ∧ body ρ1 p = .nx ρ2 p ∧ st a' ρ2 ∧ P (k + 1) a') : ∀ (its : List D) (k : Nat) (a : α) (ρ : Sl), st a ρ → P k a →
    ∃ a' ρ2, cforGo G body its ρ p = .nx ρ2 p ∧ st a' ρ2 ∧ P (k + its.length) a'
  | [], k, a, ρ, h1, h2 => ⟨a, ρ, rfl, h1, h2⟩
  | d :: its, k, a, ρ, h1, h2 => by
    obtain ⟨a1, ρ1, ρ2, e1, e2, h3, h4⟩ := h d k a ρ h1 h2
    obtain ⟨a2, ρ3, e3, h5, h6⟩ := turns_gen st P h its (k + 1) a1 ρ2 h3 h4
    refine ⟨a2, ρ3, ?_, h5, by rw [List.length_cons, show k + (its.length + 1) = k + 1 + its.length by omega]; exact h6⟩
    simp only [cforGo, e1, e2]
    exact e3
section
variable (s0 s1 s7 s11 s12 : Option W)
theorem led_turns (T : List Row) (n w c at_ : Nat) (hT : T.length = n) (hn : n ≤ 4) (hc : c < w) (ha : at_ ≤ n) (pp : Pst) (its : List D) (R : List Row) (h1 : Core T w n at_ c R) (h2 : Zs w n at_ c R ∨ Os w n at_ c 0 R) (s5 s6 s8 s9 s10 : Option W) :
    ∃ R' t5 t6 t8 t9 t10, cforGo (tgName 5) b__law_led_6 its [s0, s1, some (.val (dI c)), some (.own (R.map rowL)), some (.val (dI at_)), s5, s6, s7, s8, s9, s10, s11, s12] pp = .nx [s0, s1, some (.val (dI c)), some (.own (R'.map rowL)), some (.val (dI at_)), t5, t6, s7, t8, t9, t10, s11, s12] pp ∧
      Core T w n at_ c R' ∧ (Zs w n at_ c R' ∨ Os w n at_ c (0 + its.length) R') := by
  obtain ⟨R', ρ2, e, ⟨t5, t6, t8, t9, t10, rfl⟩, h3, h4⟩ := turns_gen (G := tgName 5) (body := b__law_led_6) (p := pp) (fun (R : List Row) ρ => ∃ s5 s6 s8 s9 s10, ρ = [s0, s1, some (.val (dI c)), some (.own (R.map rowL)), some (.val (dI at_)), s5, s6, s7, s8, s9, s10, s11, s12]) (fun k R => Core T w n at_ c R ∧ (Zs w n at_ c R ∨ Os w n at_ c k R)) (by
    rintro d k R ρ ⟨s5, s6, s8, s9, s10, rfl⟩ ⟨h1, h2⟩
    obtain ⟨R1, u6, u8, u9, u10, e1, h3⟩ := led_next s0 s1 (some (.val d)) s7 s11 s12 T n w c at_ hT hn hc ha pp k R h1 h2 s6 s8 s9 s10
    exact ⟨R1, _, _, rfl, e1, ⟨_, _, _, _, _, rfl⟩, h3⟩) its 0 R _ ⟨s5, s6, s8, s9, s10, rfl⟩ ⟨h1, h2⟩
  exact ⟨R', t5, t6, t8, t9, t10, e, h3, h4⟩
end
end PF

namespace PF
open PySem PySem.Spec PyProof.Rows L2
theorem loop_gen (s0 s1 s2 s3 s4 s5 s6 s7 s8 s9 s10 s11 s12 : Option W) (K : D) (R : List D) (body : C) (x : SRes) (pp : Pst) (hr : dRange1 [K] = some R) (e : cforGo (tgName 5) body R [s0, s1, s2, s3, s4, s5, s6, s7, s8, s9, s10, s11, s12] pp = x) :
    cfor (mRange1 (mcons (mret K) (mret []))) (tgName 5) body [s0, s1, s2, s3, s4, s5, s6, s7, s8, s9, s10, s11, s12] pp = x := by
  unfold cfor
  rw [ev_eout, ev_mRange1, ev_mbind, ev_mcons, ev_mbind, ev_mret, andThen_ok, kM_ap, ev_mbind, ev_mret, andThen_ok, kM_ap, ev_mret, andThen_ok, kM_ap, hr, ev_mopt_some, andS_ok, kC_ap]
  exact e
section
variable (s0 s1 s7 s11 s12 : Option W)
theorem led_col (T : List Row) (n w c at_ : Nat) (hT : T.length = n) (hn : n ≤ 4) (hc : c < w) (ha : at_ ≤ n) (R : List Row) (h1 : Core T w n at_ c R) (hb : at_ ≤ 2 → BdR w n at_ (Mb at_) R) (s5 s6 s8 s9 s10 : Option W) (pp : Pst) :
    ∃ R' at' t5 t6 t8 t9 t10, b__law_led_7 [s0, s1, some (.val (dI c)), some (.own (R.map rowL)), some (.val (dI at_)), s5, s6, s7, s8, s9, s10, s11, s12] pp = .nx [s0, s1, some (.val (dI c)), some (.own (R'.map rowL)), some (.val (dI at')), t5, t6, s7, t8, t9, t10, s11, s12] pp ∧
      Core T w n at' (c + 1) R' ∧ (at' ≤ 2 → BdR w n at' (Mb at') R') ∧ at' ≤ n := by
  have r4 : dRange1 [.int 400] = some (rgL 0 400) := dRange1_nat 400 (by omega)
  have lR : (rgL 0 400).length = 400 := by simp [rgL]
  generalize rgL 0 400 = its at *
  obtain ⟨R1, t5, t6, t8, t9, t10, e1, h2, h3⟩ := led_turns s0 s1 s7 s11 s12 T n w c at_ hT hn hc ha pp its R h1 (col_start hn hc hb) s5 s6 s8 s9 s10
  rw [lR, Nat.zero_add] at h3
  have hz : Zs w n at_ c R1 := h3.elim id fun q => (os_end q).elim
  have loop := loop_gen s0 s1 _ _ _ s5 s6 s7 s8 s9 s10 s11 s12 (.int 400) its b__law_led_6 _ pp r4 e1
  have m2 := led_places s0 s1 t5 t6 s7 t8 t9 t10 s11 s12 R1 n w c at_ hn h2.len h2.rl hc ha pp
  have first : casg 6 (mfrz m__law_led_2) [s0, s1, some (.val (dI c)), some (.own (R1.map rowL)), some (.val (dI at_)), t5, t6, s7, t8, t9, t10, s11, s12] pp = .nx [s0, s1, some (.val (dI c)), some (.own (R1.map rowL)), some (.val (dI at_)), t5, some (.val (.lst ((nzP R1 at_ c n).map dI))), s7, t8, t9, t10, s11, s12] pp := by
    rw [ev_casg, ev_eout, ev_mfrz, ev_mbind, m2]; rfl
  have ne := nNeNil (nzP R1 at_ c n)
  unfold b__law_led_7
  rw [ev_cseq, loop, andC_nx, ev_cseq, first, andC_nx]
  cases hnz : nzP R1 at_ c n with
  | nil =>
    rw [hnz] at ne
    refine ⟨R1, at_, t5, some (.val (.lst [])), t8, t9, t10, ?_, ?_⟩
    · simp only [List.map_nil] at ne ⊢
      generalize R1.map rowL = RR at *
      simp [ne]
    · have := col_none h2 hz fun i hi hai => by
        apply Decidable.byContradiction
        intro h0
        have := mem_nz.mpr ⟨hai, hi, h0⟩
        rw [hnz] at this
        cases this
      exact ⟨this.1, this.2, ha⟩
  | cons x l =>
    rw [hnz] at ne
    have hx := mem_nz.mp (by rw [hnz]; exact List.mem_cons_self : x ∈ nzP R1 at_ c n)
    have sw := col_swap h2 hz hx.2.1 hx.1 hx.2.2
    refine ⟨(R1.set at_ (R1.getD x [])).set x (R1.getD at_ []), at_ + 1, t5, some (.val (.lst ((x :: l).map dI))), t8, t9, t10, ?_, sw.1, sw.2, by omega⟩
    have x0 : dIx (.lst ((x :: l).map dI)) (.int 0) = some (dI x) := dIx_lst (k := 0) rfl
    have ng : (!decide ((x :: l : List Nat) = [])) = true := rfl
    rw [ng] at ne
    generalize (x :: l).map dI = NZ at *
    have i0 : ∀ (O : List D) , mOp dIx (rd 6) (mret (.int 0)) [s0, s1, some (.val (dI c)), some (.own O), some (.val (dI at_)), t5, some (.val (.lst NZ)), s7, t8, t9, t10, s11, s12] pp = .ok (dI x) pp := fun O => by simp [x0]
    have i4 : ∀ (O : List D) , rd 4 [s0, s1, some (.val (dI c)), some (.own O), some (.val (dI at_)), t5, some (.val (.lst NZ)), s7, t8, t9, t10, s11, s12] pp = .ok (dI at_) pp := fun O => by simp
    have g1 := ixo (p1 := pp) (i := 3) (mb := mOp dIx (rd 6) (mret (.int 0))) (ρ := [s0, s1, some (.val (dI c)), some (.own (R1.map rowL)), some (.val (dI at_)), t5, some (.val (.lst NZ)), s7, t8, t9, t10, s11, s12]) (p := pp) (k := x) rfl (i0 _) (rowL_at (by rw [h2.len]; exact hx.2.1))
    have g2 := ixo (p1 := pp) (i := 3) (mb := rd 4) (ρ := [s0, s1, some (.val (dI c)), some (.own (R1.map rowL)), some (.val (dI at_)), t5, some (.val (.lst NZ)), s7, t8, t9, t10, s11, s12]) (p := pp) (k := at_) rfl (i4 _) (rowL_at (by rw [h2.len]; omega))
    have tp : mtup (mcons (mIxO 3 (mOp dIx (rd 6) (mret (.int 0)))) (mcons (mIxO 3 (rd 4)) (mret []))) [s0, s1, some (.val (dI c)), some (.own (R1.map rowL)), some (.val (dI at_)), t5, some (.val (.lst NZ)), s7, t8, t9, t10, s11, s12] pp = .ok (.tup [rowL (R1.getD x []), rowL (R1.getD at_ [])]) pp := by
      generalize rowL (R1.getD x []) = A at *
      generalize rowL (R1.getD at_ []) = B at *
      generalize R1.map rowL = RR at *
      simp [g1, g2]
    have sk := swap_ok (r := 3) (i := at_) (j := x) (m := mtup (mcons (mIxO 3 (mOp dIx (rd 6) (mret (.int 0)))) (mcons (mIxO 3 (rd 4)) (mret [])))) (m1 := rd 4) (m2 := mOp dIx (rd 6) (mret (.int 0))) (ρ := [s0, s1, some (.val (dI c)), some (.own (R1.map rowL)), some (.val (dI at_)), t5, some (.val (.lst NZ)), s7, t8, t9, t10, s11, s12]) (p := pp) rfl tp (i4 _) (by rw [List.length_map, h2.len]; omega) rfl (i0 _) rfl (by rw [List.length_map, h2.len]; exact hx.2.1)
    have es : ((R1.map rowL).set at_ (rowL (R1.getD x []))).set x (rowL (R1.getD at_ [])) = ((R1.set at_ (R1.getD x [])).set x (R1.getD at_ [])).map rowL := by rw [List.map_set, List.map_set]
    rw [es] at sk
    have sk' : casgT (tgTup 2 (tgCons (tgSubO 3 (rd 4)) (tgCons (tgSubO 3 (mOp dIx (rd 6) (mret (.int 0)))) (tgNil)))) (mtup (mcons (mIxO 3 (mOp dIx (rd 6) (mret (.int 0)))) (mcons (mIxO 3 (rd 4)) (mret [])))) [s0, s1, some (.val (dI c)), some (.own (R1.map rowL)), some (.val (dI at_)), t5, some (.val (.lst NZ)), s7, t8, t9, t10, s11, s12] pp = .nx [s0, s1, some (.val (dI c)), some (.own (((R1.set at_ (R1.getD x [])).set x (R1.getD at_ [])).map rowL)), some (.val (dI at_)), t5, some (.val (.lst NZ)), s7, t8, t9, t10, s11, s12] pp := sk
    have tt : mCmp dNe (rd 6) (mfrz (mlim (mret []))) [s0, s1, some (.val (dI c)), some (.own (R1.map rowL)), some (.val (dI at_)), t5, some (.val (.lst NZ)), s7, t8, t9, t10, s11, s12] pp = .ok true pp := by
      generalize R1.map rowL = RR at *
      simp [ne]
    have ad : dAdd (dI at_) (.int 1) = some (dI (at_ + 1)) := nAdd (a := at_) (b := 1)
    rw [ev_cif, ev_eout, tt, andS_ok, kC_ap, if_pos rfl, ev_cseq, sk', andC_nx]
    generalize ((R1.set at_ (R1.getD x [])).set x (R1.getD at_ [])).map rowL = RR at *
    simp [ad]
end
theorem range_loop {G : D → Sl → Pst → Option (Sl × Pst)} {body : C} {p : Pst} {w : Nat} (st : Nat → Sl → Prop) (h : ∀ k ρ, k < w → st k ρ → ∃ ρ1 ρ2, G (dI k) ρ p = some (ρ1, p) ∧ body ρ1 p = .nx ρ2 p ∧ st (k + 1) ρ2) : ∀ (m c : Nat) (ρ : Sl), c + m = w → st c ρ →
    ∃ ρ2, cforGo G body ((List.range m).map fun k => dI (c + k)) ρ p = .nx ρ2 p ∧ st w ρ2
  | 0, c, ρ, hc, h1 => ⟨ρ, rfl, by have e : c = w := by omega
                                   rw [← e]; exact h1⟩
  | m + 1, c, ρ, hc, h1 => by
    obtain ⟨ρ1, ρ2, e1, e2, h2⟩ := h c ρ (by omega) h1
    obtain ⟨ρ3, e3, h3⟩ := range_loop st h m (c + 1) ρ2 (by omega) h2
    refine ⟨ρ3, ?_, h3⟩
    have el : (List.range (m + 1)).map (fun k => dI (c + k)) = dI c :: (List.range m).map fun k => dI (c + 1 + k) := by
      rw [List.range_succ_eq_map, List.map_cons, List.map_map]
      have e0 : dI (c + 0) = dI c := by rw [Nat.add_zero]
      rw [e0]
      refine congrArg (dI c :: ·) (List.map_congr_left fun k _ => ?_)
      show dI (c + Nat.succ k) = dI (c + 1 + k)
      rw [show c + Nat.succ k = c + 1 + k by omega]
    rw [el]
    simp only [cforGo, e1, e2]
    exact e3
section
variable (s0 s1 s7 s11 s12 : Option W)
theorem led_cols (T : List Row) (n w : Nat) (hT : T.length = n) (hn : n ≤ 4) (pp : Pst) (R : List Row) (h1 : Core T w n 0 0 R) (hb : BdR w n 0 (Mb 0) R) (s2 s5 s6 s8 s9 s10 : Option W) :
    ∃ R' at' t2 t5 t6 t8 t9 t10, cforGo (tgName 2) b__law_led_7 ((List.range w).map fun k => dI (0 + k)) [s0, s1, s2, some (.own (R.map rowL)), some (.val (dI 0)), s5, s6, s7, s8, s9, s10, s11, s12] pp = .nx [s0, s1, t2, some (.own (R'.map rowL)), some (.val (dI at')), t5, t6, s7, t8, t9, t10, s11, s12] pp ∧ Core T w n at' w R' ∧ at' ≤ n := by
  obtain ⟨ρ2, e, R', at', t2, t5, t6, t8, t9, t10, rfl, h5, _, h6⟩ := range_loop (G := tgName 2) (body := b__law_led_7) (p := pp) (w := w) (fun c ρ => ∃ (R : List Row) (at_ : Nat) (s2 s5 s6 s8 s9 s10 : Option W), ρ = [s0, s1, s2, some (.own (R.map rowL)), some (.val (dI at_)), s5, s6, s7, s8, s9, s10, s11, s12] ∧ Core T w n at_ c R ∧ (at_ ≤ 2 → BdR w n at_ (Mb at_) R) ∧ at_ ≤ n) (by
    rintro c ρ hc ⟨R, at_, s2, s5, s6, s8, s9, s10, rfl, q1, q2, q3⟩
    obtain ⟨R1, at1, u5, u6, u8, u9, u10, e1, h2, h3, h4⟩ := led_col s0 s1 s7 s11 s12 T n w c at_ hT hn hc q3 R q1 q2 s5 s6 s8 s9 s10 pp
    exact ⟨_, _, rfl, e1, R1, at1, _, u5, u6, u8, u9, u10, rfl, h2, h3, h4⟩) w 0 [s0, s1, s2, some (.own (R.map rowL)), some (.val (dI 0)), s5, s6, s7, s8, s9, s10, s11, s12] (by omega) ⟨R, 0, s2, s5, s6, s8, s9, s10, rfl, h1, fun _ => hb, Nat.zero_le _⟩
  exact ⟨R', at', t2, t5, t6, t8, t9, t10, e, h5, h6⟩
end
theorem led_end (L OL : List D) (Wd At : D) (R : List D) {t2 t5 t6 t7 t8 t9 t10 t11 t12 : Option W} (pp : Pst) (m1 : m__law_led_1 [some (.val (.lst L)), some (.val Wd), none, none, none, none, none, none, none, none, none, none, none] pp = .ok OL pp) (hr : dRange1 [Wd] = some R) {OL2 : List D}
    (e : cforGo (tgName 2) b__law_led_7 R [some (.val (.lst L)), some (.val Wd), none, some (.own OL), some (.val (.int 0)), none, none, none, none, none, none, none, none] pp = .nx [some (.val (.lst L)), some (.val Wd), t2, some (.own OL2), some (.val At), t5, t6, t7, t8, t9, t10, t11, t12] pp) :
    F__law_led [.lst L, Wd] pp = .ok (.tup [.lst OL2, At]) false pp := by
  rw [en__law_led, c__law_led]
  have h1 : casgW [3, 4] (muO (m__law_led_1) (muV (mret (.int 0)) (mret []))) [some (.val (.lst L)), some (.val Wd), none, none, none, none, none, none, none, none, none, none, none] pp = .nx [some (.val (.lst L)), some (.val Wd), none, some (.own OL), some (.val (.int 0)), none, none, none, none, none, none, none, none] pp := by simp [m1]
  rw [ev_cseq, h1, andC_nx]
  have h2 : cfor (mRange1 (mcons (rd 1) (mret []))) (tgName 2) b__law_led_7 [some (.val (.lst L)), some (.val Wd), none, some (.own OL), some (.val (.int 0)), none, none, none, none, none, none, none, none] pp = .nx [some (.val (.lst L)), some (.val Wd), t2, some (.own OL2), some (.val At), t5, t6, t7, t8, t9, t10, t11, t12] pp := by
    unfold cfor
    rw [ev_eout, ev_mRange1, ev_mbind, ev_mcons, ev_mbind]
    have r1 : rd 1 [some (.val (.lst L)), some (.val Wd), none, some (.own OL), some (.val (.int 0)), none, none, none, none, none, none, none, none] pp = .ok Wd pp := rfl
    rw [r1, andThen_ok, kM_ap, ev_mbind, ev_mret, andThen_ok, kM_ap, ev_mret, andThen_ok, kM_ap, hr, ev_mopt_some, andS_ok, kC_ap]
    exact e
  rw [ev_cseq, h2, andC_nx]
  simp [cfrz]
theorem e__law_led (E : List Row) (w : Nat) (h : Tab 2 E w) (pp : Pst) : ∃ R at_, F__law_led [.lst ((wideR E).map rowT), dI w] pp = .ok (.tup [.lst (R.map rowL), dI at_]) false pp ∧ Core E w E.length at_ w R ∧ at_ ≤ E.length := by
  obtain ⟨c1, c2⟩ := wide_core h.rl h.bd
  have m1 : m__law_led_1 [some (.val (.lst ((wideR E).map rowT))), some (.val (dI w)), none, none, none, none, none, none, none, none, none, none, none] pp = .ok ((wideR E).map rowL) pp := by
    have := mLc_mapY (i := 7) (mi := mSeq (rd 0)) (el := mfrz (mLst dList (mcons (rd 7) (mret [])))) (ρ := [some (.val (.lst ((wideR E).map rowT))), some (.val (dI w)), none, none, none, none, none, none, none, none, none, none, none]) (p := pp) (p1 := pp) (xs := wideR E) (c := rowT) (by generalize (wideR E).map rowT = L at *; simp) rowL (fun r hr => by
      have dl : dList [rowT r] = some (r.map .int) := rfl
      show _ = Res.ok (D.lst (r.map .int)) pp
      generalize (wideR E).map rowT = L at *
      generalize r.map D.int = RI at *
      generalize rowT r = RR at *
      simp [wipeS, dl])
    exact this
  have rr := nRange1 (n := w) (by have := h.w4; omega)
  have ri : rgL 0 w = (List.range w).map fun k => dI (0 + k) := by rw [rgL_dI]; simp
  rw [ri] at rr
  obtain ⟨R, at_, t2, t5, t6, t8, t9, t10, e, h5, h6⟩ := led_cols (some (.val (.lst ((wideR E).map rowT)))) (some (.val (dI w))) none none none E E.length w rfl h.n4 pp (wideR E) c1 c2 none none none none none none
  exact ⟨R, at_, led_end _ _ _ _ _ pp m1 rr e, h5, h6⟩
end PF

namespace PF
open PySem PySem.Spec PyProof.Rows L2
/-! ### kernels -/
def gW (n : Nat) : D → D
  | .tup [.int i, .tup xs] => .tup (xs ++ (unitR n i.toNat).map .int)
  | _ => .non
theorem enum_mem {xs : List D} {d : D} (h : d ∈ enumL xs) : ∃ i, i < xs.length ∧ ∃ x, xs[i]? = some x ∧ d = .tup [dI i, x] := by
  unfold enumL at h
  obtain ⟨i, hi, rfl⟩ := List.mem_iff_getElem.mp h
  rw [List.length_mapIdx] at hi
  exact ⟨i, hi, xs[i], List.getElem?_eq_getElem hi, by rw [List.getElem_mapIdx]; rfl⟩
theorem enum_wide (E : List Row) : (enumL (E.map rowT)).map (gW E.length) = (wideR E).map rowT := by
  apply List.ext_getElem
  · simp [enumL, wideR]
  · intro i h1 h2
    simp only [enumL, wideR, List.getElem_map, List.getElem_mapIdx]
    show D.tup (_ ++ (unitR E.length (i : Int).toNat).map .int) = _
    rw [Int.toNat_natCast]
    show _ = D.tup ((E[i]'_ ++ unitR E.length i).map .int)
    rw [List.map_append]
theorem sl_lst (xs : List D) (k : Nat) : dSl (.lst xs) (some (k : Int)) none = some (.lst (xs.drop k)) := by
  show some (D.lst (cutA xs (some (k : Int)) none)) = _
  rw [cut_from]
theorem catT_ok {xs ys : List D} (h : xs.length + ys.length ≤ 16000000) : dAdd (.tup xs) (.tup ys) = some (.tup (xs ++ ys)) := by
  show dCatT (.tup xs) (.tup ys) = _
  simp only [dCatT]
  rw [if_pos (by rw [sizeLine_eq]; omega)]
theorem kern_unit (s0 : D) (n i : Nat) (s1 s2 s4 s5 : Option W) (hl : dLen [s0] = some (dI n)) (hn : n ≤ 4) (p : Pst) :
    m__law_kernel_1 [some (.val s0), s1, s2, some (.val (dI i)), s4, s5] p = .ok ((unitR n i).map .int) p := by
  have r1 := nRange1 (n := n) (by omega)
  have hi : mRange1 (mcons (mCall dLen (mcons (rd 0) (mret []))) (mret [])) [some (.val s0), s1, s2, some (.val (dI i)), s4, s5] p = .ok (rgL 0 n) p := by
    generalize dI n = N at *
    generalize rgL 0 n = R at *
    simp [hl, r1]
  have := mLc_rngY (i := 5) (el := mCall dInt (mcons (mB (mCmp dEq (rd 5) (rd 3))) (mret []))) hi (fun j => .int (if j = i then 1 else 0)) fun j hj => by
    have ek : D.int (0 + (j : Int)) = dI j := by rw [Int.zero_add]; rfl
    rw [ek]
    by_cases e : j = i <;> simp [wipeS, e]
  have e2 : (unitR n i).map D.int = (List.range n).map fun j => D.int (if j = i then 1 else 0) := by unfold unitR; rw [List.map_map]; rfl
  rw [e2]
  exact this
theorem kern_wide (E : List Row) (hn : E.length ≤ 4) (hw : ∀ r ∈ E, r.length ≤ 4) (p : Pst) :
    m__law_kernel_2 [some (.val (.lst (E.map rowT))), none, none, none, none, none] p = .ok ((wideR E).map rowT) p := by
  have hl : dLen [.lst (E.map rowT)] = some (dI E.length) := by rw [nLen_lst, List.length_map]
  have hi : mEnum (mcons (rd 0) (mret [])) [some (.val (.lst (E.map rowT))), none, none, none, none, none] p = .ok (enumL (E.map rowT)) p := by
    generalize E.map rowT = L at *
    simp [mEnum]
  have := mLc_pure (vs := [3, 4]) (f := fTup (fCons (fName 3) (fCons (fName 4) (fNil)))) (tt := mYes) (el := mOp dAdd (mCall dTuple (mcons (rd 4) (mret []))) (mCall dTuple (mcons (mfrz (m__law_kernel_1)) (mret [])))) hi (fun _ => true) (gW E.length) (by
    intro z hz
    obtain ⟨i, hi, x, hx, rfl⟩ := enum_mem hz
    rw [List.length_map] at hi
    rw [List.getElem?_map, List.getElem?_eq_getElem hi] at hx
    cases hx
    have hr := hw E[i] (List.getElem_mem hi)
    have ku := kern_unit (.lst (E.map rowT)) E.length i none none (some (.val (rowT E[i]))) none hl hn p
    have tp := dTuple_lst ((unitR E.length i).map .int)
    have t4 : dTuple [rowT E[i]] = some (rowT E[i]) := rfl
    have ct : dAdd (rowT E[i]) (.tup ((unitR E.length i).map .int)) = some (.tup (E[i].map .int ++ (unitR E.length i).map .int)) := catT_ok (by simp [unitR]; omega)
    have gz : gW E.length (.tup [dI i, rowT E[i]]) = .tup (E[i].map .int ++ (unitR E.length i).map .int) := rfl
    refine ⟨_, rfl, rfl, fun _ => ?_⟩
    rw [gz]
    generalize rowT E[i] = Z at *
    generalize E[i].map D.int ++ (unitR E.length i).map D.int = ZZ at *
    generalize (unitR E.length i).map D.int = U at *
    generalize E.map rowT = L at *
    show mOp dAdd (mCall dTuple (mcons (rd 4) (mret []))) (mCall dTuple (mcons (mfrz (m__law_kernel_1)) (mret []))) [some (.val (.lst L)), none, none, some (.val (dI i)), some (.val Z), none] p = _
    simp [t4, ku, tp, ct])
  rw [filter_yes, enum_wide] at this
  exact this
theorem kern_rows (E0 : D) (s0 : Option W) (R : List Row) (w at_ : Nat) (s1 s4 s5 : Option W) (x0 : dIx E0 (.int 0) = some s0d) (l0 : dLen [s0d] = some (dI w)) (p : Pst) :
    m__law_kernel_3 [some (.val E0), s1, some (.val (.lst (R.map rowL))), some (.val (dI at_)), s4, s5] p = .ok (((R.drop at_).map fun q => q.drop w).map rowT) p := by
  have sl := sl_lst (R.map rowL) at_
  rw [← List.map_drop] at sl
  have hs : mSeq (mSl (rd 2) (mPart (rd 3)) (mret none)) [some (.val E0), s1, some (.val (.lst (R.map rowL))), some (.val (dI at_)), s4, s5] p = .ok ((R.drop at_).map rowL) p := by
    generalize (R.drop at_).map rowL = RD at *
    generalize R.map rowL = RR at *
    simp [dI, sl]
  have := mLc_mapY (i := 4) (el := mCall dTuple (mcons (mSl (rd 4) (mPart (mCall dLen (mcons (mOp dIx (rd 0) (mret (.int 0))) (mret [])))) (mret none)) (mret []))) (xs := R.drop at_) (c := rowL) hs (fun q => rowT (q.drop w)) (fun q hq => by
    have s2 : dSl (rowL q) (some (w : Int)) none = some (.lst ((q.drop w).map .int)) := by
      have := sl_lst (q.map .int) w
      rw [← List.map_drop] at this
      exact this
    have tp := dTuple_lst ((q.drop w).map .int)
    show _ = Res.ok (D.tup ((q.drop w).map .int)) p
    have iw : ∀ ρ p, (mPart (mCall dLen (mcons (mOp dIx (rd 0) (mret (.int 0))) (mret [])))) ρ p = mbind (mCall dLen (mcons (mOp dIx (rd 0) (mret (.int 0))) (mret []))) (fun d => inK d fun i => mret (some i)) ρ p := fun ρ p => ev_mPart _ ..
    have l0' : dLen [s0d] = some (.int (w : Int)) := l0
    generalize (q.drop w).map D.int = QD at *
    generalize rowL q = Q at *
    generalize R.map rowL = RR at *
    simp [wipeS, x0, l0', s2, tp])
  rw [List.map_map]
  exact this
theorem e__law_kernel (E : List Row) (w : Nat) (h : Tab 2 E w) (p : Pst) : ∃ K : List Row, F__law_kernel [.lst (E.map rowT)] p = .ok (.lst (K.map rowT)) true p ∧ (∀ r ∈ K, IsK E w r) ∧ K.length ≤ 4 := by
  have s := sqv_lst (E.map rowT)
  obtain ⟨r0, _, x0, lr0⟩ := tab_head s h
  have l0 : dLen [rowT r0] = some (dI w) := by rw [len_rowT, lr0]
  have k2 := kern_wide E h.n4 (fun r hr => by rw [h.rl r hr]; exact h.w4) p
  obtain ⟨R, at_, e1, h5, h6⟩ := e__law_led E w h p
  refine ⟨(R.drop at_).map fun q => q.drop w, ?_, fun r hr => core_kernel rfl h5 hr, by simp [h5.len]; have := h.n4; omega⟩
  have k3 := kern_rows (.lst (E.map rowT)) none R w at_ (some (.val (.lst ((wideR E).map rowT)))) none none x0 l0 p
  rw [en__law_kernel, c__law_kernel]
  generalize ((R.drop at_).map fun q => q.drop w).map rowT = KK at *
  generalize R.map rowL = RR at *
  generalize (wideR E).map rowT = WW at *
  generalize E.map rowT = EE at *
  generalize rowT r0 = Z0 at *
  have h1 : casg 1 (mfrz m__law_kernel_2) [some (.val (.lst EE)), none, none, none, none, none] p = .nx [some (.val (.lst EE)), some (.val (.lst WW)), none, none, none, none] p := by
    rw [ev_casg, ev_eout, ev_mfrz, ev_mbind, k2]; rfl
  rw [ev_cseq, h1, andC_nx]
  have h2 : casgT (tgTup 2 (tgCons (tgName 2) (tgCons (tgName 3) (tgNil)))) (mFn F__law_led 2 0 [0, 1] (mcons (rd 1) (mcons (mCall dLen (mcons (mOp dIx (rd 0) (mret (.int 0))) (mret []))) (mret []))) (mret [])) [some (.val (.lst EE)), some (.val (.lst WW)), none, none, none, none] p = .nx [some (.val (.lst EE)), some (.val (.lst WW)), some (.val (.lst RR)), some (.val (dI at_)), none, none] p := by
    simp [casgT, tgTup, tgCons, tgName, tgNil, x0, l0, e1]
  rw [ev_cseq, h2, andC_nx, ev_creto, ev_eout, k3]
  rfl
end PF

namespace PF
open PySem PySem.Spec PyProof.Rows L2
theorem drw {g : Nat} {m : Int} {p : Pst} (hm : 0 < m) (hm2 : m < 1073741824) (hp : Good g p) : ∃ d p', F__law_draw [.pot g, .int m] p = .ok (.int d) false p' ∧ 0 ≤ d ∧ d < m ∧ Good g p' :=
  draw_ok (A := 40014) (B := 11933) (M1 := 2147483563) (M2 := 2147483549) (S := 19) (by decide) (by decide) (by decide) (by decide) (by decide) hm hm2 hp
theorem ints_at {r : Row} {k : Nat} (h : k < r.length) : (r.map D.int)[k]? = some (.int (r.getD k 0)) := by
  rw [List.getElem?_map, List.getElem?_eq_getElem h]
  simp [List.getD_eq_getElem?_getD, List.getElem?_eq_getElem h]
/-! ### sums of rows -/
def gA (q : Int) : D → D
  | .tup [.int x, .int y] => .int (x + q * y)
  | _ => .non
theorem zip_add (q : Int) : ∀ a b : Row, (zipL (a.map .int) (b.map .int)).map (gA q) = (vadd a q b).map .int
  | [], _ => rfl
  | _ :: _, [] => rfl
  | x :: a, y :: b => by
    have := zip_add q a b
    simp only [vadd, List.map_cons, List.zipWith_cons_cons] at this ⊢
    rw [← this]; rfl
theorem max_abs {r : Row} (h : r ≠ []) : ∃ M : Int, dMax1 [.lst (r.map fun x => D.int (x.natAbs : Int))] = some (.int M) ∧ ∀ x ∈ r, (x.natAbs : Int) ≤ M := by
  have e : (r.map fun x => D.int (x.natAbs : Int)) = (r.map fun x => (x.natAbs : Int)).map .int := by rw [List.map_map]; rfl
  have hne : (r.map fun x => (x.natAbs : Int)) ≠ [] := by simpa using h
  refine ⟨maxI (r.map fun x => (x.natAbs : Int)), ?_, fun x hx => (maxI_spec hne).2 _ (List.mem_map.mpr ⟨x, hx, rfl⟩)⟩
  rw [e]
  simp only [dMax1, intsOf_map, Option.bind_some]
  rw [if_neg hne]
theorem mul_tup0 {n : Nat} (h1 : 1 ≤ n) (h4 : n ≤ 4) : dMulX (.tup [.int 0]) (dI n) = some (rowT (List.replicate n 0)) := by
  have := dMulX_tup (xs := [.int 0]) (n := n) (by simp) h1 (by omega) (by simp)
  have e : (List.replicate n [D.int 0]).flatten = (List.replicate n (0 : Int)).map .int := by
    clear this h1 h4
    rw [List.map_replicate]
    induction n with
    | zero => rfl
    | succ n ih => rw [List.replicate_succ, List.flatten_cons, ih, List.replicate_succ]; rfl
  rw [e] at this
  exact this
/-! ### a chain drawn: a line -/
def Sl2 (r : Row) (P : Nat) : Prop := r.length = P ∧ ∀ x ∈ r, x.natAbs ≤ 2
theorem line_start (s0 s1 s2 s3 s5 s6 s7 s8 s9 s10 s11 s12 s13 s14 s15 s16 s17 : Option W) (PP : D) (Z : List D) (rp : dRepO (.lst [.int 0]) PP = some Z) (p : Pst) :
    caso 8 (mOpo dRepO (mfrz (mlim (mcons (mret (.int 0)) (mret [])))) (rd 4)) [s0, s1, s2, s3, some (.val PP), s5, s6, s7, s8, s9, s10, s11, s12, s13, s14, s15, s16, s17] p = .nx [s0, s1, s2, s3, some (.val PP), s5, s6, s7, some (.own Z), s9, s10, s11, s12, s13, s14, s15, s16, s17] p := by simp [rp]
theorem line_fin (s0 s2 s3 s4 s5 s6 s7 s9 s10 s11 s12 s13 s14 s15 s16 s17 : Option W) (E : List D) (hE : E.length ≤ 100) (r : Row) (q : Pst) :
    (cseq (cfrz 8) (capp 1 (mCall dTuple (mcons (rd 8) (mret []))))) [s0, some (.own E), s2, s3, s4, s5, s6, s7, some (.own (r.map .int)), s9, s10, s11, s12, s13, s14, s15, s16, s17] q
      = .nx [s0, some (.own (E ++ [rowT r])), s2, s3, s4, s5, s6, s7, some (.val (.lst (r.map .int))), s9, s10, s11, s12, s13, s14, s15, s16, s17] q := by
  have f1 : cfrz 8 [s0, some (.own E), s2, s3, s4, s5, s6, s7, some (.own (r.map .int)), s9, s10, s11, s12, s13, s14, s15, s16, s17] q = .nx [s0, some (.own E), s2, s3, s4, s5, s6, s7, some (.val (.lst (r.map .int))), s9, s10, s11, s12, s13, s14, s15, s16, s17] q := rfl
  rw [ev_cseq, f1, andC_nx]
  have tp := dTuple_lst (r.map .int)
  exact capp_ok (xs := E) (d := rowT r) rfl (by
    show _ = Res.ok (D.tup (r.map .int)) q
    generalize r.map D.int = Z at *
    simp [tp]) (by omega)
theorem line_draws (g : Nat) (s1 s2 s3 s5 s6 s7 s8 s9 s10 s11 s12 s13 s14 s15 s16 s17 : Option W) (PP B C0 : D) (p p1 p2 : Pst) (e1 : F__law_draw [.pot g, PP] p = .ok B false p1) (e2 : F__law_draw [.pot g, PP] p1 = .ok C0 false p2) :
    casgW [13, 14] (muV (mFn F__law_draw 2 0 [0, 1] (mcons (rd 0) (mcons (rd 4) (mret []))) (mret [])) (muV (mFn F__law_draw 2 0 [0, 1] (mcons (rd 0) (mcons (rd 4) (mret []))) (mret [])) (mret []))) [some (.val (.pot g)), s1, s2, s3, some (.val PP), s5, s6, s7, s8, s9, s10, s11, s12, s13, s14, s15, s16, s17] p = .nx [some (.val (.pot g)), s1, s2, s3, some (.val PP), s5, s6, s7, s8, s9, s10, s11, s12, some (.val B), some (.val C0), s15, s16, s17] p2 := by simp [e1, e2]
section
variable (g : Nat) (s3 s5 s6 s9 s10 s11 s12 s15 s16 s17 : Option W)
theorem line_way (P : Nat) (hP : P ≤ 4) (p : Pst) (hp : Good g p) (EE : List D) (s2 s7 s8 s13 s14 : Option W) : ∃ (r : Row) (p' : Pst), m__law_chain_1 [some (.val (.pot g)), some (.own EE), s2, s3, some (.val (dI P)), s5, s6, s7, s8, s9, s10, s11, s12, s13, s14, s15, s16, s17] p = .ok (r.map .int) p' ∧ Good g p' ∧ Sl2 r P := by
  have r1 := nRange1 (n := P) (by omega)
  have lR : (rgL 0 P).length = P := by simp [rgL]
  generalize rgL 0 P = R at *
  have hi : mRange1 (mcons (rd 4) (mret [])) [some (.val (.pot g)), some (.own EE), s2, s3, some (.val (dI P)), s5, s6, s7, s8, s9, s10, s11, s12, s13, s14, s15, s16, s17] p = .ok R p := by
    generalize dI P = PP at *
    simp [r1]
  obtain ⟨ys, p', e, gg, rs⟩ := mLc_draw (vs := [15]) (f := fName 15) (el := mOp dSub (mFn F__law_draw 2 0 [0, 1] (mcons (rd 0) (mcons (mret (.int 5)) (mret []))) (mret [])) (mret (.int 2))) hi (fun p => Good g p) (fun _ y => ∃ i : Int, y = .int i ∧ i.natAbs ≤ 2) hp (by
    intro d hd p hp
    obtain ⟨v, p2, e2, a2, b2, g2⟩ := drw (m := 5) (by omega) (by omega) hp
    exact ⟨_, rfl, .int (v - 2), p2, by simp [wipeS, e2], g2, v - 2, rfl, by omega⟩)
  have hy : ∀ y ∈ ys, ∃ i : Int, y = .int i ∧ i.natAbs ≤ 2 := fun y hy => by
    obtain ⟨k, hk, rfl⟩ := List.mem_iff_getElem.mp hy
    have hk2 : k < R.length := by rw [rs.1]; exact hk
    exact rs.2 k _ _ (List.getElem?_eq_getElem hk2) (List.getElem?_eq_getElem hk)
  have em : ys = (ys.map intD).map .int := by
    rw [List.map_map]
    refine (List.map_id ys).symm.trans (List.map_congr_left fun y hy2 => ?_)
    obtain ⟨i, rfl, _⟩ := hy y hy2
    rfl
  refine ⟨ys.map intD, p', by rw [← em]; exact e, gg, by rw [List.length_map, ← rs.1, lR], fun x hx => ?_⟩
  obtain ⟨y, hy2, rfl⟩ := List.mem_map.mp hx
  obtain ⟨i, rfl, hi⟩ := hy y hy2
  exact hi
theorem rep0 (P : Nat) (hP : P ≤ 4) : dRepO (.lst [.int 0]) (dI P) = some ((List.replicate P (0 : Int)).map .int) := by
  unfold dI
  simp only [dRepO]
  rw [if_pos ⟨by omega, by omega, by rw [sizeLine_eq, Int.toNat_natCast, List.length_singleton]; omega⟩, Int.toNat_natCast]
  congr 1
  clear hP
  rw [List.map_replicate]
  induction P with
  | zero => rfl
  | succ n ih => rw [List.replicate_succ, List.flatten_cons, ih, List.replicate_succ]; rfl
theorem line_turn (P : Nat) (hP1 : 1 ≤ P) (hP : P ≤ 4) (way : Int) (E : List D) (hE : E.length ≤ 100) (p : Pst) (hp : Good g p) (s2 s8 s13 s14 : Option W) :
    ∃ (r : Row) (t8 t13 t14 : Option W) (p' : Pst), b__law_chain_2 [some (.val (.pot g)), some (.own E), s2, s3, some (.val (dI P)), s5, s6, some (.val (.int way)), s8, s9, s10, s11, s12, s13, s14, s15, s16, s17] p
      = .nx [some (.val (.pot g)), some (.own (E ++ [rowT r])), s2, s3, some (.val (dI P)), s5, s6, some (.val (.int way)), t8, s9, s10, s11, s12, t13, t14, s15, s16, s17] p' ∧ Good g p' ∧ Sl2 r P := by
  have rp := rep0 P hP
  have h1 := line_start (some (.val (.pot g))) (some (.own E)) s2 s3 s5 s6 (some (.val (.int way))) s8 s9 s10 s11 s12 s13 s14 s15 s16 s17 _ _ rp p
  -- the end of the turn
  have fin : ∀ (r : Row) (q : Pst) (t13 t14 : Option W), (cseq (cfrz 8) (capp 1 (mCall dTuple (mcons (rd 8) (mret []))))) [some (.val (.pot g)), some (.own E), s2, s3, some (.val (dI P)), s5, s6, some (.val (.int way)), some (.own (r.map .int)), s9, s10, s11, s12, t13, t14, s15, s16, s17] q
      = .nx [some (.val (.pot g)), some (.own (E ++ [rowT r])), s2, s3, some (.val (dI P)), s5, s6, some (.val (.int way)), some (.val (.lst (r.map .int))), s9, s10, s11, s12, t13, t14, s15, s16, s17] q := fun r q t13 t14 => by
    exact line_fin (some (.val (.pot g))) s2 s3 (some (.val (dI P))) s5 s6 (some (.val (.int way))) s9 s10 s11 s12 t13 t14 s15 s16 s17 E hE r q
  unfold b__law_chain_2
  rw [ev_cseq, h1, andC_nx]
  by_cases hw : way = 0
  · subst hw
    obtain ⟨r, p', e1, g1, hr⟩ := line_way g s3 s5 s6 s9 s10 s11 s12 s15 s16 s17 P hP p hp E s2 (some (.val (.int 0))) (some (.own ((List.replicate P (0 : Int)).map .int))) s13 s14
    refine ⟨r, some (.val (.lst (r.map .int))), s13, s14, p', ?_, g1, hr⟩
    have h2 : cif (mCmp dEq (rd 7) (mret (.int 0))) (caso 8 (m__law_chain_1)) (cseq (casgW [13, 14] (muV (mFn F__law_draw 2 0 [0, 1] (mcons (rd 0) (mcons (rd 4) (mret []))) (mret [])) (muV (mFn F__law_draw 2 0 [0, 1] (mcons (rd 0) (mcons (rd 4) (mret []))) (mret [])) (mret [])))) (cseq (casgT (tgSubO 8 (rd 13)) (mOp dSub (mIxO 8 (rd 13)) (mret (.int 1)))) (casgT (tgSubO 8 (rd 14)) (mOp dAdd (mIxO 8 (rd 14)) (mret (.int 1)))))) [some (.val (.pot g)), some (.own E), s2, s3, some (.val (dI P)), s5, s6, some (.val (.int 0)), some (.own ((List.replicate P (0 : Int)).map .int)), s9, s10, s11, s12, s13, s14, s15, s16, s17] p = .nx [some (.val (.pot g)), some (.own E), s2, s3, some (.val (dI P)), s5, s6, some (.val (.int 0)), some (.own (r.map .int)), s9, s10, s11, s12, s13, s14, s15, s16, s17] p' := by
      generalize (List.replicate P (0 : Int)).map D.int = Z at *
      generalize r.map D.int = Y at *
      simp [e1]
    rw [ev_cseq, h2, andC_nx]
    exact fin r p' s13 s14
  · obtain ⟨d1, p1, e1, a1, b1, g1⟩ := drw (m := (P : Int)) (by omega) (by omega) hp
    obtain ⟨d2, p2, e2, a2, b2, g2⟩ := drw (m := (P : Int)) (by omega) (by omega) g1
    obtain ⟨b, hb⟩ : ∃ b : Nat, d1 = b := ⟨d1.toNat, by omega⟩
    obtain ⟨c, hc⟩ : ∃ c : Nat, d2 = c := ⟨d2.toNat, by omega⟩
    have e1' : F__law_draw [.pot g, dI P] p = .ok (dI b) false p1 := by rw [← show D.int d1 = dI b by rw [hb]; rfl]; exact e1
    have e2' : F__law_draw [.pot g, dI P] p1 = .ok (dI c) false p2 := by rw [← show D.int d2 = dI c by rw [hc]; rfl]; exact e2
    have hbP : b < P := by omega
    have hcP : c < P := by omega
    obtain ⟨r0, hr0⟩ : ∃ r0 : Row, r0 = List.replicate P (0 : Int) := ⟨_, rfl⟩
    have l0 : r0.length = P := by rw [hr0, List.length_replicate]
    have m0 : ∀ x ∈ r0, x = 0 := fun x hx => by rw [hr0] at hx; exact (List.mem_replicate.mp hx).2
    rw [← hr0]
    have mem_getD : ∀ (r : Row) (k : Nat), k < r.length → r.getD k 0 ∈ r := fun r k hk => by
      rw [List.getD_eq_getElem?_getD, List.getElem?_eq_getElem hk]; exact List.getElem_mem hk
    obtain ⟨r1, hr1⟩ : ∃ r1 : Row, r1 = r0.set b (r0.getD b 0 - 1) := ⟨_, rfl⟩
    have l1 : r1.length = P := by rw [hr1, List.length_set, l0]
    have m1 : ∀ x ∈ r1, x = 0 ∨ x = -1 := fun x hx => by
      rw [hr1] at hx
      rcases List.mem_or_eq_of_mem_set hx with k | k
      · exact .inl (m0 x k)
      · rw [m0 _ (mem_getD r0 b (by omega))] at k; right; omega
    have hS : ∃ p', cif (mCmp dEq (rd 7) (mret (.int 0))) (caso 8 (m__law_chain_1)) (cseq (casgW [13, 14] (muV (mFn F__law_draw 2 0 [0, 1] (mcons (rd 0) (mcons (rd 4) (mret []))) (mret [])) (muV (mFn F__law_draw 2 0 [0, 1] (mcons (rd 0) (mcons (rd 4) (mret []))) (mret [])) (mret [])))) (cseq (casgT (tgSubO 8 (rd 13)) (mOp dSub (mIxO 8 (rd 13)) (mret (.int 1)))) (casgT (tgSubO 8 (rd 14)) (mOp dAdd (mIxO 8 (rd 14)) (mret (.int 1)))))) [some (.val (.pot g)), some (.own E), s2, s3, some (.val (dI P)), s5, s6, some (.val (.int way)), some (.own (r0.map .int)), s9, s10, s11, s12, s13, s14, s15, s16, s17] p = .nx [some (.val (.pot g)), some (.own E), s2, s3, some (.val (dI P)), s5, s6, some (.val (.int way)), some (.own ((r1.set c (r1.getD c 0 + 1)).map .int)), s9, s10, s11, s12, some (.val (dI b)), some (.val (dI c)), s15, s16, s17] p' ∧ Good g p' := by
      refine ⟨p2, ?_, g2⟩
      have w1 := line_draws g (some (.own E)) s2 s3 s5 s6 (some (.val (.int way))) (some (.own (r0.map .int))) s9 s10 s11 s12 s13 s14 s15 s16 s17 _ _ _ p p1 p2 e1' e2'
      have i13 : ∀ O : List D, rd 13 [some (.val (.pot g)), some (.own E), s2, s3, some (.val (dI P)), s5, s6, some (.val (.int way)), some (.own O), s9, s10, s11, s12, some (.val (dI b)), some (.val (dI c)), s15, s16, s17] p2 = .ok (dI b) p2 := fun O => rfl
      have i14 : ∀ O : List D, rd 14 [some (.val (.pot g)), some (.own E), s2, s3, some (.val (dI P)), s5, s6, some (.val (.int way)), some (.own O), s9, s10, s11, s12, some (.val (dI b)), some (.val (dI c)), s15, s16, s17] p2 = .ok (dI c) p2 := fun O => rfl
      have x1 := ixo (p1 := p2) (i := 8) (mb := rd 13) (ρ := [some (.val (.pot g)), some (.own E), s2, s3, some (.val (dI P)), s5, s6, some (.val (.int way)), some (.own (r0.map .int)), s9, s10, s11, s12, some (.val (dI b)), some (.val (dI c)), s15, s16, s17]) (p := p2) (k := b) rfl (i13 _) (ints_at (by omega))
      have st1 := subo_ok (r := 8) (k := b) (mi := rd 13) (m := mOp dSub (mIxO 8 (rd 13)) (mret (.int 1))) (ρ := [some (.val (.pot g)), some (.own E), s2, s3, some (.val (dI P)), s5, s6, some (.val (.int way)), some (.own (r0.map .int)), s9, s10, s11, s12, some (.val (dI b)), some (.val (dI c)), s15, s16, s17]) (p := p2) (d := .int (r0.getD b 0 - 1)) (xs := r0.map .int) rfl (by rw [ev_mOp, ev_mbind, x1, andThen_ok, kM_ap, ev_mbind, ev_mret, andThen_ok, kM_ap, dSub_int, ev_mopt_some]) (i13 _) (by rw [List.length_map]; omega)
      have es1 : (r0.map D.int).set b (.int (r0.getD b 0 - 1)) = r1.map .int := by rw [hr1, List.map_set]
      rw [es1] at st1
      have st1' : casgT (tgSubO 8 (rd 13)) (mOp dSub (mIxO 8 (rd 13)) (mret (.int 1))) [some (.val (.pot g)), some (.own E), s2, s3, some (.val (dI P)), s5, s6, some (.val (.int way)), some (.own (r0.map .int)), s9, s10, s11, s12, some (.val (dI b)), some (.val (dI c)), s15, s16, s17] p2 = .nx [some (.val (.pot g)), some (.own E), s2, s3, some (.val (dI P)), s5, s6, some (.val (.int way)), some (.own (r1.map .int)), s9, s10, s11, s12, some (.val (dI b)), some (.val (dI c)), s15, s16, s17] p2 := st1
      have x2 := ixo (p1 := p2) (i := 8) (mb := rd 14) (ρ := [some (.val (.pot g)), some (.own E), s2, s3, some (.val (dI P)), s5, s6, some (.val (.int way)), some (.own (r1.map .int)), s9, s10, s11, s12, some (.val (dI b)), some (.val (dI c)), s15, s16, s17]) (p := p2) (k := c) rfl (i14 _) (ints_at (by omega))
      have st2 := subo_ok (r := 8) (k := c) (mi := rd 14) (m := mOp dAdd (mIxO 8 (rd 14)) (mret (.int 1))) (ρ := [some (.val (.pot g)), some (.own E), s2, s3, some (.val (dI P)), s5, s6, some (.val (.int way)), some (.own (r1.map .int)), s9, s10, s11, s12, some (.val (dI b)), some (.val (dI c)), s15, s16, s17]) (p := p2) (d := .int (r1.getD c 0 + 1)) (xs := r1.map .int) rfl (by rw [ev_mOp, ev_mbind, x2, andThen_ok, kM_ap, ev_mbind, ev_mret, andThen_ok, kM_ap, dAdd_int, ev_mopt_some]) (i14 _) (by rw [List.length_map]; omega)
      have es2 : (r1.map D.int).set c (.int (r1.getD c 0 + 1)) = (r1.set c (r1.getD c 0 + 1)).map .int := by rw [List.map_set]
      rw [es2] at st2
      have st2' : casgT (tgSubO 8 (rd 14)) (mOp dAdd (mIxO 8 (rd 14)) (mret (.int 1))) [some (.val (.pot g)), some (.own E), s2, s3, some (.val (dI P)), s5, s6, some (.val (.int way)), some (.own (r1.map .int)), s9, s10, s11, s12, some (.val (dI b)), some (.val (dI c)), s15, s16, s17] p2 = .nx [some (.val (.pot g)), some (.own E), s2, s3, some (.val (dI P)), s5, s6, some (.val (.int way)), some (.own ((r1.set c (r1.getD c 0 + 1)).map .int)), s9, s10, s11, s12, some (.val (dI b)), some (.val (dI c)), s15, s16, s17] p2 := st2
      have tt : mCmp dEq (rd 7) (mret (.int 0)) [some (.val (.pot g)), some (.own E), s2, s3, some (.val (dI P)), s5, s6, some (.val (.int way)), some (.own (r0.map .int)), s9, s10, s11, s12, s13, s14, s15, s16, s17] p = .ok false p := by
        generalize r0.map D.int = Z at *
        simp [hw]
      rw [ev_cif, ev_eout, tt, andS_ok, kC_ap, if_neg (by simp), ev_cseq, w1, andC_nx, ev_cseq, st1', andC_nx]
      exact st2'
    obtain ⟨p', h2, g'⟩ := hS
    refine ⟨r1.set c (r1.getD c 0 + 1), some (.val (.lst ((r1.set c (r1.getD c 0 + 1)).map .int))), some (.val (dI b)), some (.val (dI c)), p', ?_, g', by rw [List.length_set, l1], fun x hx => ?_⟩
    · rw [ev_cseq, h2, andC_nx]
      exact fin _ p' _ _
    · rcases List.mem_or_eq_of_mem_set hx with k | k
      · rcases m1 x k with q | q <;> rw [q] <;> decide
      · rcases m1 _ (mem_getD r1 c (by omega)) with q | q <;> rw [q] at k <;> rw [k] <;> decide
end
end PF

namespace PF
open PySem PySem.Spec PyProof.Rows L2
theorem draws_gen {α β : Type} {G : D → Sl → Pst → Option (Sl × Pst)} {body : C} (it : β → D) (st : α → Sl → Prop) (P : Nat → α → Prop) (Gd : Pst → Prop) : ∀ (l : List β), (∀ b ∈ l, ∀ k a ρ p, Gd p → st a ρ → P k a → ∃ a' ρ1 ρ2 p', G (it b) ρ p = some (ρ1, p) ∧ body ρ1 p = .nx ρ2 p' ∧ Gd p' ∧ st a' ρ2 ∧ P (k + 1) a') →
    ∀ (k : Nat) (a : α) (ρ : Sl) (p : Pst), Gd p → st a ρ → P k a → ∃ a' ρ2 p', cforGo G body (l.map it) ρ p = .nx ρ2 p' ∧ Gd p' ∧ st a' ρ2 ∧ P (k + l.length) a'
  | [], h, k, a, ρ, p, hp, h1, h2 => ⟨a, ρ, p, rfl, hp, h1, h2⟩
  | b :: l, h, k, a, ρ, p, hp, h1, h2 => by
    obtain ⟨a1, ρ1, ρ2, p1, e1, e2, g1, h3, h4⟩ := h b List.mem_cons_self k a ρ p hp h1 h2
    obtain ⟨a2, ρ3, p2, e3, g2, h5, h6⟩ := draws_gen it st P Gd l (fun c hc => h c (List.mem_cons_of_mem _ hc)) (k + 1) a1 ρ2 p1 g1 h3 h4
    refine ⟨a2, ρ3, p2, ?_, g2, h5, by rw [List.length_cons, show k + (l.length + 1) = k + 1 + l.length by omega]; exact h6⟩
    rw [List.map_cons]
    simp only [cforGo, e1, e2]
    exact e3
/-! ### a face drawn -/
section
variable (g : Nat) (s1 s2 s3 s4 s5 s6 s7 s9 s10 s13 s14 s15 s16 s17 : Option W)
theorem face_add (u v : Row) (d : Int) (hd : d.natAbs ≤ 100) (p : Pst) (s11b : Option W) :
    m__law_chain_3 [some (.val (.pot g)), s1, s2, s3, s4, s5, s6, s7, some (.val (rowT u)), s9, s10, some (.val (rowT v)), some (.val (.int d)), s13, s14, s15, s16, s17] p = .ok ((vadd u d v).map .int) p := by
  have e1 : sqD (rowT u) = some (u.map .int) := rfl
  have e2 : sqD (rowT v) = some (v.map .int) := rfl
  have hz : mZipS (mcons (rd 8) (mcons (rd 11) (mret []))) [some (.val (.pot g)), s1, s2, s3, s4, s5, s6, s7, some (.val (rowT u)), s9, s10, some (.val (rowT v)), some (.val (.int d)), s13, s14, s15, s16, s17] p = .ok (zipL (u.map .int) (v.map .int)) p := by
    generalize rowT u = A at *
    generalize rowT v = B at *
    simp [e1, e2]
  have m1 := mLc_pure (vs := [16, 17]) (f := fTup (fCons (fName 16) (fCons (fName 17) (fNil)))) (tt := mYes) (el := mOp dAdd (rd 16) (mOp dMulX (rd 12) (rd 17))) hz (fun _ => true) (gA d) (by
    intro z hz
    obtain ⟨x, hx, y, hy, rfl⟩ := zip_rmem hz
    generalize rowT u = A at *
    generalize rowT v = B at *
    exact ⟨_, rfl, rfl, fun _ => by simp [wipeS, gA, mul_s (i := d) (j := y) (by omega) (by omega)]⟩)
  rw [filter_yes, zip_add] at m1
  exact m1
theorem face_one (u v : Row) (p : Pst) (hp : Good g p) (s12 : Option W) : ∃ (d : Int) (p' : Pst), b__law_chain_4 [some (.val (.pot g)), s1, s2, s3, s4, s5, s6, s7, some (.val (rowT u)), s9, s10, some (.val (rowT v)), s12, s13, s14, s15, s16, s17] p = .nx [some (.val (.pot g)), s1, s2, s3, s4, s5, s6, s7, some (.val (rowT (vadd u d v))), s9, s10, some (.val (rowT v)), some (.val (.int d)), s13, s14, s15, s16, s17] p' ∧ Good g p' := by
  obtain ⟨d, p1, e1, a1, b1, g1⟩ := drw (m := 5) (by omega) (by omega) hp
  refine ⟨d - 2, p1, ?_, g1⟩
  have m3 := face_add g s1 s2 s3 s4 s5 s6 s7 s9 s10 s13 s14 s15 s16 s17 u v (d - 2) (by omega) p1 none
  have tp := dTuple_lst ((vadd u (d - 2) v).map .int)
  unfold b__law_chain_4
  show _ = SRes.nx [some (.val (.pot g)), s1, s2, s3, s4, s5, s6, s7, some (.val (.tup ((vadd u (d - 2) v).map .int))), s9, s10, some (.val (rowT v)), some (.val (.int (d - 2))), s13, s14, s15, s16, s17] p1
  generalize (vadd u (d - 2) v).map D.int = Z at *
  generalize rowT u = A at *
  generalize rowT v = B at *
  have h1 : casg 12 (mOp dSub (mFn F__law_draw 2 0 [0, 1] (mcons (rd 0) (mcons (mret (.int 5)) (mret []))) (mret [])) (mret (.int 2))) [some (.val (.pot g)), s1, s2, s3, s4, s5, s6, s7, some (.val A), s9, s10, some (.val B), s12, s13, s14, s15, s16, s17] p = .nx [some (.val (.pot g)), s1, s2, s3, s4, s5, s6, s7, some (.val A), s9, s10, some (.val B), some (.val (.int (d - 2))), s13, s14, s15, s16, s17] p1 := by simp [e1]
  rw [ev_cseq, h1, andC_nx]
  simp [m3, tp]
/-- abs, and the greatest -/
theorem face_max (u : Row) (hu : u ≠ []) (s11 s12 : Option W) (s0 : Option W) (p : Pst) : ∃ M : Int, mCall dMax1 (mcons (mfrz (m__law_chain_5)) (mret [])) [s0, s1, s2, s3, s4, s5, s6, s7, some (.val (rowT u)), s9, s10, s11, s12, s13, s14, s15, s16, s17] p = .ok (.int M) p ∧ ∀ x ∈ u, (x.natAbs : Int) ≤ M := by
  obtain ⟨M, e, hM⟩ := max_abs hu
  refine ⟨M, ?_, hM⟩
  have m1 : m__law_chain_5 [s0, s1, s2, s3, s4, s5, s6, s7, some (.val (rowT u)), s9, s10, s11, s12, s13, s14, s15, s16, s17] p = .ok (u.map fun x => D.int (x.natAbs : Int)) p := by
    have := mLc_mapY (i := 11) (mi := mSeq (rd 8)) (el := mCall dAbs (mcons (rd 11) (mret []))) (ρ := [s0, s1, s2, s3, s4, s5, s6, s7, some (.val (rowT u)), s9, s10, s11, s12, s13, s14, s15, s16, s17]) (p := p) (p1 := p) (xs := u) (c := D.int) (by simp [rowT]) (fun x => D.int (x.natAbs : Int)) (fun x hx => by
      have ab := dAbs_nat x
      generalize D.int (x.natAbs : Int) = Y at *
      generalize rowT u = A at *
      simp [-dAbs_int, wipeS, ab])
    exact this
  generalize (u.map fun x => D.int (x.natAbs : Int)) = Z at *
  generalize rowT u = A at *
  simp [m1, e]
end
/-- rows that are made so -/
def Fc (E : List Row) (w : Nat) (f : Row) : Prop := IsK E w f ∧ ∀ x ∈ f, x.natAbs ≤ 99
section
variable (g : Nat) (s1 s2 s4 s6 s7 s13 s14 s15 s16 s17 : Option W)
theorem fc_zero (E : List Row) (w : Nat) : Fc E w (List.replicate E.length 0) := ⟨isK_zero E w, fun x hx => by rw [(List.mem_replicate.mp hx).2]; decide⟩
theorem face_turn (E K : List Row) (w : Nat) (hE1 : 1 ≤ E.length) (hE4 : E.length ≤ 4) (hK : ∀ r ∈ K, IsK E w r) (O : List D) (hO : O.length ≤ 100) (p : Pst) (hp : Good g p) (s3 s8 s11 s12 : Option W) :
    ∃ (f : Row) (t8 t11 t12 : Option W) (p' : Pst), b__law_chain_6 [some (.val (.pot g)), s1, s2, s3, s4, some (.val (dI E.length)), s6, s7, s8, some (.val (.lst (K.map rowT))), some (.own O), s11, s12, s13, s14, s15, s16, s17] p
      = .nx [some (.val (.pot g)), s1, s2, s3, s4, some (.val (dI E.length)), s6, s7, t8, some (.val (.lst (K.map rowT))), some (.own (O ++ [rowT f])), t11, t12, s13, s14, s15, s16, s17] p' ∧ Good g p' ∧ Fc E w f := by
  have mz := mul_tup0 hE1 hE4
  obtain ⟨u, ρ2, p1, e1, g1, ⟨t11, t12, rfl⟩, hu⟩ := draws_gen (G := tgName 11) (body := b__law_chain_4) rowT (fun (u : Row) ρ => ∃ s11 s12, ρ = [some (.val (.pot g)), s1, s2, s3, s4, some (.val (dI E.length)), s6, s7, some (.val (rowT u)), some (.val (.lst (K.map rowT))), some (.own O), s11, s12, s13, s14, s15, s16, s17]) (fun _ u => IsK E w u) (fun p => Good g p) K (by
    rintro v hv k u ρ p hp ⟨s11, s12, rfl⟩ hu
    obtain ⟨d, p', e, g'⟩ := face_one g s1 s2 s3 s4 (some (.val (dI E.length))) s6 s7 (some (.val (.lst (K.map rowT)))) (some (.own O)) s13 s14 s15 s16 s17 u v p hp s12
    exact ⟨vadd u d v, _, _, p', rfl, e, g', ⟨_, _, rfl⟩, isK_add d hu (hK v hv)⟩) 0 (List.replicate E.length 0) _ p hp ⟨s11, s12, rfl⟩ (isK_zero E w)
  have hune : u ≠ [] := by
    intro e
    have := hu.1
    rw [e] at this
    simp at this
    omega
  obtain ⟨M, e2, hM⟩ := face_max s1 s2 s3 s4 (some (.val (dI E.length))) s6 s7 (some (.val (.lst (K.map rowT)))) (some (.own O)) s13 s14 s15 s16 s17 u hune t11 t12 (some (.val (.pot g))) p1
  have last : ∃ f, Fc E w f ∧ mIf (mCmp dLt (mCall dMax1 (mcons (mfrz (m__law_chain_5)) (mret []))) (mret (.int 100))) (rd 8) (mOp dMulX (mtup (mcons (mret (.int 0)) (mret []))) (rd 5)) [some (.val (.pot g)), s1, s2, s3, s4, some (.val (dI E.length)), s6, s7, some (.val (rowT u)), some (.val (.lst (K.map rowT))), some (.own O), t11, t12, s13, s14, s15, s16, s17] p1 = .ok (rowT f) p1 := by
    by_cases hlt : M < 100
    · refine ⟨u, ⟨hu, fun x hx => by have := hM x hx; omega⟩, ?_⟩
      generalize rowT u = U at *
      generalize K.map rowT = KK at *
      generalize dI E.length = N at *
      simp [-ev_mCall, e2, hlt]
    · refine ⟨List.replicate E.length 0, fc_zero E w, ?_⟩
      generalize rowT (List.replicate E.length 0) = Z at *
      generalize rowT u = U at *
      generalize K.map rowT = KK at *
      generalize dI E.length = N at *
      simp [-ev_mCall, e2, hlt, mz]
  obtain ⟨f, hf, e3⟩ := last
  refine ⟨f, some (.val (rowT u)), t11, t12, p1, ?_, g1, hf⟩
  have h1 : casg 8 (mOp dMulX (mtup (mcons (mret (.int 0)) (mret []))) (rd 5)) [some (.val (.pot g)), s1, s2, s3, s4, some (.val (dI E.length)), s6, s7, s8, some (.val (.lst (K.map rowT))), some (.own O), s11, s12, s13, s14, s15, s16, s17] p = .nx [some (.val (.pot g)), s1, s2, s3, s4, some (.val (dI E.length)), s6, s7, some (.val (rowT (List.replicate E.length 0))), some (.val (.lst (K.map rowT))), some (.own O), s11, s12, s13, s14, s15, s16, s17] p := by
    generalize rowT (List.replicate E.length 0) = Z at *
    generalize K.map rowT = KK at *
    generalize dI E.length = N at *
    simp [mz]
  have h2 : cfor (mSeq (rd 9)) (tgName 11) b__law_chain_4 [some (.val (.pot g)), s1, s2, s3, s4, some (.val (dI E.length)), s6, s7, some (.val (rowT (List.replicate E.length 0))), some (.val (.lst (K.map rowT))), some (.own O), s11, s12, s13, s14, s15, s16, s17] p = .nx [some (.val (.pot g)), s1, s2, s3, s4, some (.val (dI E.length)), s6, s7, some (.val (rowT u)), some (.val (.lst (K.map rowT))), some (.own O), t11, t12, s13, s14, s15, s16, s17] p1 := by
    generalize rowT (List.replicate E.length 0) = Z at *
    generalize rowT u = U at *
    generalize K.map rowT = KK at *
    generalize dI E.length = N at *
    simp [cfor, e1]
  unfold b__law_chain_6
  rw [ev_cseq, h1, andC_nx, ev_cseq, h2, andC_nx]
  exact capp_ok (xs := O) (d := rowT f) rfl e3 (by omega)
end
end PF

namespace PF
open PySem PySem.Spec PyProof.Rows L2
theorem draws_to {α β : Type} {G : D → Sl → Pst → Option (Sl × Pst)} {body : C} (it : β → D) (st : α → Sl → Prop) (P : Nat → α → Prop) (Gd : Pst → Prop) (m : Nat) : ∀ (l : List β), (∀ b ∈ l, ∀ k a ρ p, k < m → Gd p → st a ρ → P k a → ∃ a' ρ1 ρ2 p', G (it b) ρ p = some (ρ1, p) ∧ body ρ1 p = .nx ρ2 p' ∧ Gd p' ∧ st a' ρ2 ∧ P (k + 1) a') →
    ∀ (k : Nat) (a : α) (ρ : Sl) (p : Pst), k + l.length ≤ m → Gd p → st a ρ → P k a → ∃ a' ρ2 p', cforGo G body (l.map it) ρ p = .nx ρ2 p' ∧ Gd p' ∧ st a' ρ2 ∧ P (k + l.length) a'
  | [], h, k, a, ρ, p, _, hp, h1, h2 => ⟨a, ρ, p, rfl, hp, h1, h2⟩
  | b :: l, h, k, a, ρ, p, hk, hp, h1, h2 => by
    rw [List.length_cons] at hk
    obtain ⟨a1, ρ1, ρ2, p1, e1, e2, g1, h3, h4⟩ := h b List.mem_cons_self k a ρ p (by omega) hp h1 h2
    obtain ⟨a2, ρ3, p2, e3, g2, h5, h6⟩ := draws_to it st P Gd m l (fun c hc => h c (List.mem_cons_of_mem _ hc)) (k + 1) a1 ρ2 p1 (by omega) g1 h3 h4
    refine ⟨a2, ρ3, p2, ?_, g2, h5, by rw [List.length_cons, show k + (l.length + 1) = k + 1 + l.length by omega]; exact h6⟩
    rw [List.map_cons]
    simp only [cforGo, e1, e2]
    exact e3
/-! ### chains drawn -/
theorem rng_loop (i : Nat) {G : D → Sl → Pst → Option (Sl × Pst)} {body : C} {ρ : Sl} {n : Nat} {x : SRes} {p : Pst} (hi : ρ[i]? = some (some (.val (dI n)))) (hn : n ≤ 100) (e : cforGo G body ((List.range n).map dI) ρ p = x) : cfor (mRange1 (mcons (rd i) (mret []))) G body ρ p = x := by
  have rr := nRange1 (n := n) (by omega)
  rw [rgL_dI] at rr
  unfold cfor
  have r1 : rd i ρ p = .ok (dI n) p := by rw [ev_rd, hi]; rfl
  rw [ev_eout, ev_mRange1, ev_mbind, ev_mcons, ev_mbind, r1, andThen_ok, kM_ap, ev_mbind, ev_mret, andThen_ok, kM_ap, ev_mret, andThen_ok, kM_ap, rr, ev_mopt_some, andS_ok, kC_ap]
  exact e
theorem chain_sizes (g : Nat) (p : Pst) (hp : Good g p) (s1 s2 s3 s4 s5 s6 s7 s8 s9 s10 s11 s12 s13 s14 s15 s16 s17 : Option W) : ∃ (P L N : Nat) (way : Int) (p' : Pst), casgW [4, 5, 6, 7] (muV (mOp dAdd (mret (.int 1)) (mFn F__law_draw 2 0 [0, 1] (mcons (rd 0) (mcons (mret (.int 4)) (mret []))) (mret []))) (muV (mOp dAdd (mret (.int 1)) (mFn F__law_draw 2 0 [0, 1] (mcons (rd 0) (mcons (mret (.int 4)) (mret []))) (mret []))) (muV (mOp dAdd (mret (.int 1)) (mFn F__law_draw 2 0 [0, 1] (mcons (rd 0) (mcons (mret (.int 4)) (mret []))) (mret []))) (muV (mFn F__law_draw 2 0 [0, 1] (mcons (rd 0) (mcons (mret (.int 3)) (mret []))) (mret [])) (mret []))))) [some (.val (.pot g)), s1, s2, s3, s4, s5, s6, s7, s8, s9, s10, s11, s12, s13, s14, s15, s16, s17] p
      = .nx [some (.val (.pot g)), s1, s2, s3, some (.val (dI P)), some (.val (dI L)), some (.val (dI N)), some (.val (.int way)), s8, s9, s10, s11, s12, s13, s14, s15, s16, s17] p' ∧ Good g p' ∧ 1 ≤ P ∧ P ≤ 4 ∧ 1 ≤ L ∧ L ≤ 4 ∧ 1 ≤ N ∧ N ≤ 4 := by
  obtain ⟨d1, p1, e1, a1, b1, g1⟩ := drw (m := 4) (by omega) (by omega) hp
  obtain ⟨d2, p2, e2, a2, b2, g2⟩ := drw (m := 4) (by omega) (by omega) g1
  obtain ⟨d3, p3, e3, a3, b3, g3⟩ := drw (m := 4) (by omega) (by omega) g2
  obtain ⟨d4, p4, e4, a4, b4, g4⟩ := drw (m := 3) (by omega) (by omega) g3
  have cv : ∀ d : Int, 0 ≤ d → dAdd (.int 1) (.int d) = some (dI (1 + d.toNat)) := fun d h => by
    rw [dAdd_int]; unfold dI; congr 2; omega
  refine ⟨1 + d1.toNat, 1 + d2.toNat, 1 + d3.toNat, d4, p4, ?_, g4, by omega, by omega, by omega, by omega, by omega, by omega⟩
  have c1 := cv d1 a1
  have c2 := cv d2 a2
  have c3 := cv d3 a3
  generalize dI (1 + d1.toNat) = A1 at *
  generalize dI (1 + d2.toNat) = A2 at *
  generalize dI (1 + d3.toNat) = A3 at *
  simp [-dAdd_int, e1, e2, e3, e4, c1, c2, c3]
theorem chain_lines (g : Nat) (P L : Nat) (N : D) (hP1 : 1 ≤ P) (hP4 : P ≤ 4) (hL : L ≤ 4) (way : Int) (p : Pst) (hp : Good g p) : ∃ (E : List Row) (t2 t8 t13 t14 : Option W) (p' : Pst), cforGo (tgName 2) b__law_chain_2 ((List.range L).map dI) [some (.val (.pot g)), some (.own []), none, none, some (.val (dI P)), some (.val (dI L)), some (.val N), some (.val (.int way)), none, none, none, none, none, none, none, none, none, none] p
      = .nx [some (.val (.pot g)), some (.own (E.map rowT)), t2, none, some (.val (dI P)), some (.val (dI L)), some (.val N), some (.val (.int way)), t8, none, none, none, none, t13, t14, none, none, none] p' ∧ Good g p' ∧ E.length = L ∧ ∀ r ∈ E, Sl2 r P := by
  obtain ⟨E, ρ2, p2, e2, g2, ⟨t2, t8, t13, t14, rfl⟩, hE1, hE2⟩ := draws_to (G := tgName 2) (body := b__law_chain_2) dI (fun (E : List Row) ρ => ∃ s2 s8 s13 s14, ρ = [some (.val (.pot g)), some (.own (E.map rowT)), s2, none, some (.val (dI P)), some (.val (dI L)), some (.val N), some (.val (.int way)), s8, none, none, none, none, s13, s14, none, none, none]) (fun k E => E.length = k ∧ ∀ r ∈ E, Sl2 r P) (fun p => Good g p) 4 (List.range L) (by
    rintro v hv k E ρ p hk hp ⟨s2, s8, s13, s14, rfl⟩ ⟨hk2, hE⟩
    obtain ⟨r, u8, u13, u14, p', e, g', hr⟩ := line_turn g none (some (.val (dI L))) (some (.val N)) none none none none none none none P hP1 hP4 way (E.map rowT) (by rw [List.length_map]; omega) p hp (some (.val (dI v))) s8 s13 s14
    refine ⟨E ++ [r], _, _, p', rfl, e, g', ⟨_, _, _, _, by rw [List.map_append]; rfl⟩, by rw [List.length_append, List.length_singleton, hk2], fun z hz => ?_⟩
    rcases List.mem_append.mp hz with q | q
    · exact hE z q
    · rw [List.mem_singleton.mp q]; exact hr) 0 [] [some (.val (.pot g)), some (.own []), none, none, some (.val (dI P)), some (.val (dI L)), some (.val N), some (.val (.int way)), none, none, none, none, none, none, none, none, none, none] p (by rw [List.length_range]; omega) hp ⟨none, none, none, none, rfl⟩ ⟨rfl, by simp⟩
  rw [List.length_range, Nat.zero_add] at hE1
  exact ⟨E, t2, t8, t13, t14, p2, e2, g2, hE1, hE2⟩
theorem chain_faces (g : Nat) (E K : List Row) (w N : Nat) (hE1 : 1 ≤ E.length) (hE4 : E.length ≤ 4) (hK : ∀ r ∈ K, IsK E w r) (hN : N ≤ 4) (s1 s2 s4 s6 s7 s8 s13 s14 : Option W) (p : Pst) (hp : Good g p) : ∃ (F : List Row) (t3 t8 t11 t12 : Option W) (p' : Pst), cforGo (tgName 3) b__law_chain_6 ((List.range N).map dI) [some (.val (.pot g)), s1, s2, none, s4, some (.val (dI E.length)), s6, s7, s8, some (.val (.lst (K.map rowT))), some (.own []), none, none, s13, s14, none, none, none] p
      = .nx [some (.val (.pot g)), s1, s2, t3, s4, some (.val (dI E.length)), s6, s7, t8, some (.val (.lst (K.map rowT))), some (.own (F.map rowT)), t11, t12, s13, s14, none, none, none] p' ∧ Good g p' ∧ F.length = N ∧ ∀ f ∈ F, Fc E w f := by
  obtain ⟨F, ρ2, p2, e2, g2, ⟨t3, t8, t11, t12, rfl⟩, hF1, hF2⟩ := draws_to (G := tgName 3) (body := b__law_chain_6) dI (fun (F : List Row) ρ => ∃ s3 s8 s11 s12, ρ = [some (.val (.pot g)), s1, s2, s3, s4, some (.val (dI E.length)), s6, s7, s8, some (.val (.lst (K.map rowT))), some (.own (F.map rowT)), s11, s12, s13, s14, none, none, none]) (fun k F => F.length = k ∧ ∀ f ∈ F, Fc E w f) (fun p => Good g p) 4 (List.range N) (by
    rintro v hv k F ρ p hk hp ⟨s3, s8, s11, s12, rfl⟩ ⟨hk2, hF⟩
    obtain ⟨f, u8, u11, u12, p', e, g', hf⟩ := face_turn g s1 s2 s4 s6 s7 s13 s14 none none none E K w hE1 hE4 hK (F.map rowT) (by rw [List.length_map]; omega) p hp (some (.val (dI v))) s8 s11 s12
    refine ⟨F ++ [f], _, _, p', rfl, e, g', ⟨_, _, _, _, by rw [List.map_append]; rfl⟩, by rw [List.length_append, List.length_singleton, hk2], fun z hz => ?_⟩
    rcases List.mem_append.mp hz with q | q
    · exact hF z q
    · rw [List.mem_singleton.mp q]; exact hf) 0 [] [some (.val (.pot g)), s1, s2, none, s4, some (.val (dI E.length)), s6, s7, s8, some (.val (.lst (K.map rowT))), some (.own []), none, none, s13, s14, none, none, none] p (by rw [List.length_range]; omega) hp ⟨none, s8, none, none, rfl⟩ ⟨rfl, by simp⟩
  rw [List.length_range, Nat.zero_add] at hF1
  exact ⟨F, t3, t8, t11, t12, p2, e2, g2, hF1, hF2⟩
theorem e__law_chain (g : Nat) (p : Pst) (hp : Good g p) : ∃ (F E : List Row) (w : Nat) (p' : Pst), F__law_chain [.pot g] p = .ok (.tup [.lst (F.map rowT), .lst (E.map rowT)]) false p' ∧ Good g p' ∧ Tab 99 F E.length ∧ Tab 2 E w ∧ ∀ f ∈ F, IsK E w f := by
  obtain ⟨P, L, N, way, p1, e1, g1, hP1, hP4, hL1, hL4, hN1, hN4⟩ := chain_sizes g p hp none none none none none none none none none none none none none none none none none
  obtain ⟨E, t2, t8, t13, t14, p2, e2, g2, hE1, hE2⟩ := chain_lines g P L (dI N) hP1 hP4 hL4 way p1 g1
  have tE : Tab 2 E P := ⟨by omega, by omega, hP1, hP4, fun r hr => (hE2 r hr).1, fun r hr => (hE2 r hr).2⟩
  obtain ⟨K, e3, hK, _⟩ := e__law_kernel E P tE p2
  obtain ⟨F, u3, u8, u11, u12, p3, e4, g3, hF1, hF2⟩ := chain_faces g E K P N (by omega) (by omega) hK hN4 (some (.val (.lst (E.map rowT)))) t2 (some (.val (dI P))) (some (.val (dI N))) (some (.val (.int way))) t8 t13 t14 p2 g2
  refine ⟨F, E, P, p3, ?_, g3, ⟨by omega, by omega, by omega, by omega, fun f hf => (hF2 f hf).1.1, fun f hf => (hF2 f hf).2⟩, tE, fun f hf => (hF2 f hf).1⟩
  rw [hE1] at e4
  rw [en__law_chain, c__law_chain, ev_cseq, e1, andC_nx]
  have h1 : caso 1 (mlim (mret [])) [some (.val (.pot g)), none, none, none, some (.val (dI P)), some (.val (dI L)), some (.val (dI N)), some (.val (.int way)), none, none, none, none, none, none, none, none, none, none] p1 = .nx [some (.val (.pot g)), some (.own []), none, none, some (.val (dI P)), some (.val (dI L)), some (.val (dI N)), some (.val (.int way)), none, none, none, none, none, none, none, none, none, none] p1 := by simp
  rw [ev_cseq, h1, andC_nx]
  have h2 := rng_loop 5 (ρ := [some (.val (.pot g)), some (.own []), none, none, some (.val (dI P)), some (.val (dI L)), some (.val (dI N)), some (.val (.int way)), none, none, none, none, none, none, none, none, none, none]) (n := L) rfl (by omega) e2
  rw [ev_cseq, h2, andC_nx]
  generalize E.map rowT = ED at *
  generalize K.map rowT = KD at *
  generalize F.map rowT = FD at *
  have h3 : cfrz 1 [some (.val (.pot g)), some (.own ED), t2, none, some (.val (dI P)), some (.val (dI L)), some (.val (dI N)), some (.val (.int way)), t8, none, none, none, none, t13, t14, none, none, none] p2 = .nx [some (.val (.pot g)), some (.val (.lst ED)), t2, none, some (.val (dI P)), some (.val (dI L)), some (.val (dI N)), some (.val (.int way)), t8, none, none, none, none, t13, t14, none, none, none] p2 := rfl
  rw [ev_cseq, h3, andC_nx]
  have h4 : casgW [9, 10] (muV (mFn F__law_kernel 1 0 [0] (mcons (rd 1) (mret [])) (mret [])) (muO (mlim (mret [])) (mret []))) [some (.val (.pot g)), some (.val (.lst ED)), t2, none, some (.val (dI P)), some (.val (dI L)), some (.val (dI N)), some (.val (.int way)), t8, none, none, none, none, t13, t14, none, none, none] p2 = .nx [some (.val (.pot g)), some (.val (.lst ED)), t2, none, some (.val (dI P)), some (.val (dI L)), some (.val (dI N)), some (.val (.int way)), t8, some (.val (.lst KD)), some (.own []), none, none, t13, t14, none, none, none] p2 := by simp [e3]
  rw [ev_cseq, h4, andC_nx]
  have h5 := rng_loop 6 (ρ := [some (.val (.pot g)), some (.val (.lst ED)), t2, none, some (.val (dI P)), some (.val (dI L)), some (.val (dI N)), some (.val (.int way)), t8, some (.val (.lst KD)), some (.own []), none, none, t13, t14, none, none, none]) (n := N) rfl (by omega) e4
  rw [ev_cseq, h5, andC_nx]
  simp [cfrz]
end PF

namespace PF
open PySem PySem.Spec PyProof.Rows L2
/-! ### a round drawn -/
section
variable (g : Nat) (s1 : Option W)
theorem round_add (u v : Row) (d : Int) (hd : d.natAbs ≤ 100) (s5 s6 s7 s8 : Option W) (p : Pst) :
    m__law_round_1 [some (.val (.pot g)), s1, some (.val (rowT u)), some (.val (rowT v)), some (.val (.int d)), s5, s6, s7, s8] p = .ok ((vadd u d v).map .int) p := by
  have e1 : sqD (rowT u) = some (u.map .int) := rfl
  have e2 : sqD (rowT v) = some (v.map .int) := rfl
  have hz : mZipS (mcons (rd 2) (mcons (rd 3) (mret []))) [some (.val (.pot g)), s1, some (.val (rowT u)), some (.val (rowT v)), some (.val (.int d)), s5, s6, s7, s8] p = .ok (zipL (u.map .int) (v.map .int)) p := by
    generalize rowT u = A at *
    generalize rowT v = B at *
    simp [e1, e2]
  have m1 := mLc_pure (vs := [6, 7]) (f := fTup (fCons (fName 6) (fCons (fName 7) (fNil)))) (tt := mYes) (el := mOp dAdd (rd 6) (mOp dMulX (rd 4) (rd 7))) hz (fun _ => true) (gA d) (by
    intro z hz
    obtain ⟨x, hx, y, hy, rfl⟩ := zip_rmem hz
    generalize rowT u = A at *
    generalize rowT v = B at *
    exact ⟨_, rfl, rfl, fun _ => by simp [wipeS, gA, mul_s (i := d) (j := y) (by omega) (by omega)]⟩)
  rw [filter_yes, zip_add] at m1
  exact m1
theorem round_max (s0 s2 s3 s4 s6 s7 s8 : Option W) (u : Row) (hu : u ≠ []) (p : Pst) : ∃ M : Int, mCall dMax1 (mcons (mfrz (m__law_round_2)) (mret [])) [s0, s1, s2, s3, s4, some (.val (rowT u)), s6, s7, s8] p = .ok (.int M) p ∧ ∀ x ∈ u, (x.natAbs : Int) ≤ M := by
  obtain ⟨M, e, hM⟩ := max_abs hu
  refine ⟨M, ?_, hM⟩
  have m1 : m__law_round_2 [s0, s1, s2, s3, s4, some (.val (rowT u)), s6, s7, s8] p = .ok (u.map fun x => D.int (x.natAbs : Int)) p := by
    have := mLc_mapY (i := 8) (mi := mSeq (rd 5)) (el := mCall dAbs (mcons (rd 8) (mret []))) (ρ := [s0, s1, s2, s3, s4, some (.val (rowT u)), s6, s7, s8]) (p := p) (p1 := p) (xs := u) (c := D.int) (by simp [rowT]) (fun x => D.int (x.natAbs : Int)) (fun x hx => by
      have ab := dAbs_nat x
      generalize D.int (x.natAbs : Int) = Y at *
      generalize rowT u = A at *
      simp [-dAbs_int, wipeS, ab])
    exact this
  generalize (u.map fun x => D.int (x.natAbs : Int)) = Z at *
  generalize rowT u = A at *
  simp [m1, e]
theorem round_one (E : List Row) (w : Nat) (hE1 : 1 ≤ E.length) (u v : Row) (hu : Fc E w u) (hv : IsK E w v) (s4 s5 s6 s7 s8 : Option W) (p : Pst) (hp : Good g p) :
    ∃ (x : Row) (t4 t5 : Option W) (p' : Pst), b__law_round_3 [some (.val (.pot g)), s1, some (.val (rowT u)), some (.val (rowT v)), s4, s5, s6, s7, s8] p = .nx [some (.val (.pot g)), s1, some (.val (rowT x)), some (.val (rowT v)), t4, t5, s6, s7, s8] p' ∧ Good g p' ∧ Fc E w x := by
  obtain ⟨d, p1, e1, a1, b1, g1⟩ := drw (m := 5) (by omega) (by omega) hp
  have hk := isK_add (d - 2) hu.1 hv
  have m3 := round_add g s1 u v (d - 2) (by omega) s5 s6 s7 s8 p1
  have hne : vadd u (d - 2) v ≠ [] := by
    intro e
    have := hk.1
    rw [e] at this
    simp at this
    omega
  obtain ⟨M, e2, hM⟩ := round_max s1 (some (.val (.pot g))) (some (.val (rowT u))) (some (.val (rowT v))) (some (.val (.int (d - 2)))) s6 s7 s8 (vadd u (d - 2) v) hne p1
  have h1 : casg 4 (mOp dSub (mFn F__law_draw 2 0 [0, 1] (mcons (rd 0) (mcons (mret (.int 5)) (mret []))) (mret [])) (mret (.int 2))) [some (.val (.pot g)), s1, some (.val (rowT u)), some (.val (rowT v)), s4, s5, s6, s7, s8] p = .nx [some (.val (.pot g)), s1, some (.val (rowT u)), some (.val (rowT v)), some (.val (.int (d - 2))), s5, s6, s7, s8] p1 := by
    generalize rowT u = A at *
    generalize rowT v = B at *
    simp [e1]
  have tp := dTuple_lst ((vadd u (d - 2) v).map .int)
  have h2 : casg 5 (mCall dTuple (mcons (mfrz (m__law_round_1)) (mret []))) [some (.val (.pot g)), s1, some (.val (rowT u)), some (.val (rowT v)), some (.val (.int (d - 2))), s5, s6, s7, s8] p1 = .nx [some (.val (.pot g)), s1, some (.val (rowT u)), some (.val (rowT v)), some (.val (.int (d - 2))), some (.val (rowT (vadd u (d - 2) v))), s6, s7, s8] p1 := by
    show _ = SRes.nx [some (.val (.pot g)), s1, some (.val (rowT u)), some (.val (rowT v)), some (.val (.int (d - 2))), some (.val (.tup ((vadd u (d - 2) v).map .int))), s6, s7, s8] p1
    generalize (vadd u (d - 2) v).map D.int = Z at *
    generalize rowT u = A at *
    generalize rowT v = B at *
    simp [m3, tp]
  unfold b__law_round_3
  rw [ev_cseq, h1, andC_nx, ev_cseq, h2, andC_nx]
  by_cases hlt : M < 100
  · refine ⟨vadd u (d - 2) v, some (.val (.int (d - 2))), some (.val (rowT (vadd u (d - 2) v))), p1, ?_, g1, hk, fun x hx => by have := hM x hx; omega⟩
    generalize rowT (vadd u (d - 2) v) = Z at *
    generalize rowT u = A at *
    generalize rowT v = B at *
    simp [-ev_mCall, e2, hlt]
  · refine ⟨u, some (.val (.int (d - 2))), some (.val (rowT (vadd u (d - 2) v))), p1, ?_, g1, hu⟩
    generalize rowT (vadd u (d - 2) v) = Z at *
    generalize rowT u = A at *
    generalize rowT v = B at *
    simp [-ev_mCall, e2, hlt]
end
theorem e__law_round (g : Nat) (E F : List Row) (w : Nat) (tE : Tab 2 E w) (hF4 : F.length ≤ 4) (hF : ∀ f ∈ F, IsK E w f) (p : Pst) (hp : Good g p) : ∃ (u : Row) (p' : Pst), F__law_round [.pot g, .tup [.lst (F.map rowT), .lst (E.map rowT)]] p = .ok (rowT u) false p' ∧ Good g p' ∧ Fc E w u := by
  obtain ⟨K, e1, hK, hK4⟩ := e__law_kernel E w tE p
  have mz := mul_tup0 tE.n1 tE.n4
  have hall : ∀ v ∈ K ++ F, IsK E w v := fun v hv => (List.mem_append.mp hv).elim (hK v) (hF v)
  obtain ⟨u, ρ2, p1, e2, g1, ⟨t3, t4, t5, rfl⟩, hu⟩ := draws_gen (G := tgName 3) (body := b__law_round_3) rowT (fun (u : Row) ρ => ∃ s3 s4 s5, ρ = [some (.val (.pot g)), some (.val (.tup [.lst (F.map rowT), .lst (E.map rowT)])), some (.val (rowT u)), s3, s4, s5, none, none, none]) (fun _ u => Fc E w u) (fun p => Good g p) (K ++ F) (by
    rintro v hv k u ρ p hp ⟨s3, s4, s5, rfl⟩ hu
    obtain ⟨x, t4, t5, p', e, g', hx⟩ := round_one g (some (.val (.tup [.lst (F.map rowT), .lst (E.map rowT)]))) E w tE.n1 u v hu (hall v hv) s4 s5 none none none p hp
    exact ⟨x, _, _, p', rfl, e, g', ⟨_, _, _, rfl⟩, hx⟩) 0 (List.replicate E.length 0) _ p hp ⟨none, none, none, rfl⟩ (fc_zero E w)
  refine ⟨u, p1, ?_, g1, hu⟩
  rw [en__law_round, c__law_round]
  have ct := cat_ok (xs := K.map rowT) (ys := F.map rowT) (by rw [List.length_map, List.length_map]; omega)
  rw [← List.map_append] at ct
  have x1 : dIx (.tup [.lst (F.map rowT), .lst (E.map rowT)]) (.int 1) = some (.lst (E.map rowT)) := rfl
  have x0 : dIx (.tup [.lst (F.map rowT), .lst (E.map rowT)]) (.int 0) = some (.lst (F.map rowT)) := rfl
  have lE : dLen [.lst (E.map rowT)] = some (dI E.length) := by rw [nLen_lst, List.length_map]
  generalize hCH : D.tup [.lst (F.map rowT), .lst (E.map rowT)] = CH at *
  clear hCH
  generalize rowT (List.replicate E.length 0) = Z at *
  generalize rowT u = U at *
  generalize (K ++ F).map rowT = KF at *
  generalize K.map rowT = KK at *
  generalize F.map rowT = FF at *
  generalize E.map rowT = EE at *
  generalize dI E.length = N at *
  have h1 : casg 2 (mOp dMulX (mtup (mcons (mret (.int 0)) (mret []))) (mCall dLen (mcons (mOp dIx (rd 1) (mret (.int 1))) (mret [])))) [some (.val (.pot g)), some (.val CH), none, none, none, none, none, none, none] p = .nx [some (.val (.pot g)), some (.val CH), some (.val Z), none, none, none, none, none, none] p := by simp [-nLen_lst, x1, lE, mz]
  rw [ev_cseq, h1, andC_nx]
  have h2 : cfor (mSeq (mOp dAdd (mFn F__law_kernel 1 0 [0] (mcons (mOp dIx (rd 1) (mret (.int 1))) (mret [])) (mret [])) (mOp dIx (rd 1) (mret (.int 0))))) (tgName 3) (b__law_round_3) [some (.val (.pot g)), some (.val CH), some (.val Z), none, none, none, none, none, none] p = .nx [some (.val (.pot g)), some (.val CH), some (.val U), t3, t4, t5, none, none, none] p1 := by
    simp [cfor, x1, x0, e1, ct, e2]
  rw [ev_cseq, h2, andC_nx]
  simp
end PF

namespace PF
open PySem PySem.Spec PyProof.Rows L2
/-! ### == and repr -/
theorem pass {t : M Bool} {m : M D} {ρ : Sl} {p p1 : Pst} (h : t ρ p = .ok false p1) : cif t (cret m) cskip ρ p = .nx ρ p1 := by
  rw [ev_cif, ev_eout, h]; rfl
theorem rep_of (x : D) (n : Nat) (hn : n ≤ 9999) : dMul (.lst [x]) (.int (n : Int)) = some (.lst (List.replicate n x)) := by
  show dRep (.lst [x]) (.int (n : Int)) = _
  simp only [dRep]
  rw [if_pos ⟨by omega, by omega, by rw [sizeLine_eq, Int.toNat_natCast, List.length_singleton]; omega⟩, Int.toNat_natCast]
  congr 2
  clear hn
  induction n with
  | zero => rfl
  | succ n ih => rw [List.replicate_succ, List.flatten_cons, ih, List.replicate_succ]; rfl
theorem mul_3 (x : D) : dMul (.lst [x]) (.int 3) = some (.lst [x, x, x]) := rep_of x 3 (by omega)
theorem mul_2 (x : D) : dMul (.lst [x]) (.int 2) = some (.lst [x, x]) := rep_of x 2 (by omega)
theorem eqv_row (a b : Row) : PyData.eqv (toPy (rowT a)) (toPy (rowT b)) = decide (a = b) := by
  show PyData.eqvAll (toPys (a.map .int)) (toPys (b.map .int)) = _
  exact eqvAll_ints a b
theorem eqvAll_rows : ∀ S : List Row, PyData.eqvAll (toPys (S.map rowT)) (toPys (S.map rowT)) = true
  | [] => by simp [toPys, PyData.eqvAll]
  | m :: ms => by simp only [List.map_cons, toPys, PyData.eqvAll, eqv_row, eqvAll_rows ms]; simp
theorem pl_row (r : Row) : pl (rowT r) = true := by
  show pl (.tup (r.map .int)) = true
  simp only [pl, pls_ints]
theorem dep_row (r : Row) : dep (rowT r) ≤ 1 := by
  show dep (.tup (r.map .int)) ≤ 1
  simp only [dep, dep_ints]; omega
theorem pls_rows : ∀ S : List Row, pls (S.map rowT) = true
  | [] => rfl
  | r :: S => by simp only [List.map_cons, pls, pl_row, pls_rows S]; rfl
theorem deps_rows (S : List Row) : deps (S.map rowT) ≤ 1 := deps_le 1 _ fun x hx => by
  obtain ⟨r, _, rfl⟩ := List.mem_map.mp hx
  exact dep_row r
theorem okEq_rows (S : List Row) : okEq (.lst (S.map rowT)) = true := by
  have := deps_rows S
  simp only [okEq, pl, dep, pls_rows]
  simp; omega
theorem dNe_rows (S : List Row) : dNe (.lst (S.map rowT)) (.lst (S.map rowT)) = some false := by
  have e : dEq (.lst (S.map rowT)) (.lst (S.map rowT)) = some true := by
    simp only [dEq, okEq_rows, Bool.and_self, if_true, toPy, PyData.eqv, eqvAll_rows]
  simp [dNe, e]
theorem dNe_two (S T : List Row) : dNe (.tup [.lst (S.map rowT), .lst (T.map rowT)]) (.tup [.lst (S.map rowT), .lst (T.map rowT)]) = some false := by
  have ok : okEq (.tup [.lst (S.map rowT), .lst (T.map rowT)]) = true := by
    have h1 := deps_rows S
    have h2 := deps_rows T
    simp only [okEq, pl, pls, dep, deps, pls_rows]
    simp; omega
  have e : dEq (.tup [.lst (S.map rowT), .lst (T.map rowT)]) (.tup [.lst (S.map rowT), .lst (T.map rowT)]) = some true := by
    simp only [dEq, ok, Bool.and_self, if_true, toPy, toPys, PyData.eqv, PyData.eqvAll, eqvAll_rows]
  simp [dNe, e]
theorem dNe_row (a b : Row) : dNe (rowT a) (rowT b) = some (!decide (a = b)) := dNe_intsT a b
theorem dEq_row (a b : Row) : dEq (rowT a) (rowT b) = some (decide (a = b)) := dEq_intsT a b
def Bg (r : Row) : Prop := r.length ≤ 4 ∧ ∀ x ∈ r, x.natAbs ≤ 1000000
theorem rl_row {r : Row} (h : Bg r) : RL 63 1 (rowT r) := by
  have := rl_tup (n := 13) (k := 0) (xs := r.map .int) (fun x hx => by
    obtain ⟨i, hi, rfl⟩ := List.mem_map.mp hx
    have := h.2 i hi
    exact rl_int (by omega))
  rw [List.length_map] at this
  exact this.mono (by have := h.1; omega) (by omega)
theorem ok_three {r : Row} (h : Bg r) : okX (.lst [rowT r, rowT r, rowT r]) = true := okX_of ((rl_lst (n := 63) (k := 1) (xs := [rowT r, rowT r, rowT r]) (fun x hx => by
  simp only [List.mem_cons, List.not_mem_nil, or_false] at hx
  rcases hx with rfl | rfl | rfl <;> exact rl_row h)).ok (by simp) (by simp))
theorem ok_b2 (b : Bool) : okX (.lst [.bl b, .bl b]) = true := by cases b <;> decide +kernel
theorem rl_tab {t : List Row} (h4 : t.length ≤ 4) (h : ∀ r ∈ t, Bg r) : RL 263 2 (.lst (t.map rowT)) := by
  have := rl_lst (n := 63) (k := 1) (xs := t.map rowT) (fun x hx => by
    obtain ⟨r, hr, rfl⟩ := List.mem_map.mp hx
    exact rl_row (h r hr))
  rw [List.length_map] at this
  exact this.mono (by omega) (by omega)
theorem rl_two {S T : List Row} (h1 : S.length ≤ 4) (h2 : T.length ≤ 4) (hS : ∀ r ∈ S, Bg r) (hT : ∀ r ∈ T, Bg r) : RL 533 3 (.tup [.lst (S.map rowT), .lst (T.map rowT)]) := by
  have := rl_tup (n := 263) (k := 2) (xs := [.lst (S.map rowT), .lst (T.map rowT)]) (fun x hx => by
    simp only [List.mem_cons, List.not_mem_nil, or_false] at hx
    rcases hx with rfl | rfl
    · exact rl_tab h1 hS
    · exact rl_tab h2 hT)
  exact this.mono (by simp) (by omega)
theorem ok_two2 {d : D} (h : RL 533 3 d) : okX (.lst [d, d]) = true := okX_of ((rl_lst (n := 533) (k := 3) (xs := [d, d]) (fun x hx => by
  simp only [List.mem_cons, List.not_mem_nil, or_false] at hx
  rcases hx with rfl | rfl <;> exact h)).ok (by simp) (by simp))
/-! ### bounds of products -/
theorem dot_bound : ∀ (a b : Row) (A B : Nat), (∀ x ∈ a, x.natAbs ≤ A) → (∀ y ∈ b, y.natAbs ≤ B) → (dot a b).natAbs ≤ a.length * (A * B)
  | [], b, A, B, _, _ => by simp [dot]
  | x :: a, [], A, B, _, _ => by simp [dot]
  | x :: a, y :: b, A, B, h1, h2 => by
    have ih := dot_bound a b A B (fun z hz => h1 z (List.mem_cons_of_mem _ hz)) (fun z hz => h2 z (List.mem_cons_of_mem _ hz))
    have e : dot (x :: a) (y :: b) = x * y + dot a b := by simp [dot]
    rw [e, List.length_cons, Nat.succ_mul]
    have h3 := Int.natAbs_add_le (x * y) (dot a b)
    have h4 : (x * y).natAbs ≤ A * B := by
      rw [Int.natAbs_mul]
      exact Nat.mul_le_mul (h1 x List.mem_cons_self) (h2 y List.mem_cons_self)
    omega
theorem comb_bg {t : List Row} {w : Nat} {v : Row} (h : Tab 99 t w) (hv : ∀ x ∈ v, x.natAbs ≤ 999) : Bg (comb t w v) := by
  refine ⟨by rw [comb_len]; exact h.w4, fun x hx => ?_⟩
  unfold comb at hx
  obtain ⟨c, hc, rfl⟩ := List.mem_map.mp hx
  have := dot_bound (col t c) v 99 999 (fun y hy => by
    obtain ⟨r, hr, rfl⟩ := List.mem_map.mp hy
    have hl : c < r.length := by rw [h.rl r hr]; exact List.mem_range.mp hc
    exact h.bd r hr _ (by rw [List.getD_eq_getElem?_getD, List.getElem?_eq_getElem hl]; exact List.getElem_mem hl)) hv
  rw [col_len] at this
  have h4 := h.n4
  have : t.length * (99 * 999) ≤ 4 * (99 * 999) := Nat.mul_le_mul_right _ h4
  omega
theorem comb_unit {t : List Row} {w i : Nat} (h : ∀ r ∈ t, r.length = w) (hi : i < t.length) : comb t w (unitR t.length i) = t[i] := by
  have hl := h t[i] (List.getElem_mem hi)
  refine row_ext (by rw [comb_len, hl]) fun c hc => ?_
  rw [comb_len] at hc
  rw [comb_get _ _ hc]
  have := dot_unit (col t c) i (by rw [col_len]; exact hi)
  rw [col_len] at this
  unfold unitR
  rw [this]
  simp [col, List.getD_eq_getElem?_getD, List.getElem?_eq_getElem hi]
theorem tab_turn {t : List Row} {w M : Nat} (h : Tab M t w) : Tab M (turnT t w) t.length := by
  refine ⟨by rw [turnT_len]; exact h.w1, by rw [turnT_len]; exact h.w4, h.n1, h.n4, fun r hr => ?_, fun r hr x hx => ?_⟩
  · unfold turnT at hr
    obtain ⟨c, hc, rfl⟩ := List.mem_map.mp hr
    exact col_len t c
  · unfold turnT at hr
    obtain ⟨c, hc, rfl⟩ := List.mem_map.mp hr
    obtain ⟨q, hq, rfl⟩ := List.mem_map.mp hx
    have hl : c < q.length := by rw [h.rl q hq]; exact List.mem_range.mp hc
    exact h.bd q hq _ (by rw [List.getD_eq_getElem?_getD, List.getElem?_eq_getElem hl]; exact List.getElem_mem hl)
theorem tab_bg {t : List Row} {w : Nat} (h : Tab 99 t w) : ∀ r ∈ t, Bg r := fun r hr => ⟨by rw [h.rl r hr]; exact h.w4, fun x hx => by have := h.bd r hr x hx; omega⟩
/-- the chain turned is one -/
theorem kz_turn {F E : List Row} {w : Nat} (tF : Tab 99 F E.length) (tE : Tab 99 E w) (kz : ∀ f ∈ F, IsK E w f) : ∀ e ∈ turnT E w, IsK (turnT F E.length) F.length e := by
  intro e he
  unfold turnT at he
  obtain ⟨c, hc, rfl⟩ := List.mem_map.mp he
  refine ⟨by rw [col_len, turnT_len], fun i hi => ?_⟩
  rw [col_turnT tF.rl i hi, dot_comm]
  exact (kz F[i] (List.getElem_mem hi)).2 c (List.mem_range.mp hc)
end PF

namespace PF
open PySem PySem.Spec PyProof.Rows L2
def gP : D → D
  | .tup [.int x, .int y] => .int (x + y)
  | _ => .non
theorem zip_plus : ∀ a b : Row, (zipL (a.map .int) (b.map .int)).map gP = (vadd a 1 b).map .int
  | [], _ => rfl
  | _ :: _, [] => rfl
  | x :: a, y :: b => by
    have := zip_plus a b
    simp only [vadd, List.map_cons, List.zipWith_cons_cons] at this ⊢
    rw [← this, Int.one_mul]; rfl
theorem ints_of_draws {ys : List D} {M : Nat} (hy : ∀ y ∈ ys, ∃ i : Int, y = .int i ∧ i.natAbs ≤ M) : ys = (ys.map intD).map .int ∧ ∀ x ∈ ys.map intD, x.natAbs ≤ M := by
  refine ⟨?_, fun x hx => ?_⟩
  · rw [List.map_map]
    refine (List.map_id ys).symm.trans (List.map_congr_left fun y hy2 => ?_)
    obtain ⟨i, rfl, _⟩ := hy y hy2
    rfl
  · obtain ⟨y, hy2, rfl⟩ := List.mem_map.mp hx
    obtain ⟨i, rfl, hi⟩ := hy y hy2
    exact hi
section
variable {s0 s1 s2 s3 s4 s5 s6 s7 s8 s9 s10 s11 s12 s13 s14 s15 s16 s17 s18 s19 : Option W}

theorem right_lines (g : Nat) (XL : List D) (p : Pst) (hp : Good g p) : ∃ (r : Row) (p' : Pst), m__law_right_1 [some (.val (.pot g)), s1, s2, s3, s4, s5, s6, some (.val (.lst XL)), s8, s9, s10, s11, s12, s13, s14, s15, s16, s17, s18, s19] p = .ok (r.map .int) p' ∧ Good g p' ∧ r.length = XL.length ∧ ∀ x ∈ r, x.natAbs ≤ 99 := by
  obtain ⟨ys, p', e, gg, rs⟩ := mLc_draw (vs := [4]) (mi := mSeq (rd 7)) (f := fName 4) (el := mOp dSub (mFn F__law_draw 2 0 [0, 1] (mcons (rd 0) (mcons (mret (.int 199)) (mret []))) (mret [])) (mret (.int 99))) (ρ := [some (.val (.pot g)), s1, s2, s3, s4, s5, s6, some (.val (.lst XL)), s8, s9, s10, s11, s12, s13, s14, s15, s16, s17, s18, s19]) (p := p) (p1 := p) (items := XL) (by simp) (fun p => Good g p) (fun _ y => ∃ i : Int, y = .int i ∧ i.natAbs ≤ 99) hp (by
    intro d hd p hp
    obtain ⟨v, p2, e2, a2, b2, g2⟩ := drw (m := 199) (by omega) (by omega) hp
    exact ⟨_, rfl, .int (v - 99), p2, by simp [wipeS, e2], g2, v - 99, rfl, by omega⟩)
  obtain ⟨h1, h2⟩ := ints_of_draws (ys := ys) (M := 99) (fun y hy => by
    obtain ⟨k, hk, rfl⟩ := List.mem_iff_getElem.mp hy
    have hk2 : k < XL.length := by rw [rs.1]; exact hk
    exact rs.2 k _ _ (List.getElem?_eq_getElem hk2) (List.getElem?_eq_getElem hk))
  exact ⟨ys.map intD, p', by rw [← h1]; exact e, gg, by rw [List.length_map, ← rs.1], h2⟩
theorem right_parts (g : Nat) (XL : List D) (p : Pst) (hp : Good g p) : ∃ (r : Row) (p' : Pst), m__law_right_2 [some (.val (.pot g)), s1, s2, s3, s4, s5, some (.val (.lst XL)), s7, s8, s9, s10, s11, s12, s13, s14, s15, s16, s17, s18, s19] p = .ok (r.map .int) p' ∧ Good g p' ∧ r.length = XL.length ∧ ∀ x ∈ r, x.natAbs ≤ 3 := by
  obtain ⟨ys, p', e, gg, rs⟩ := mLc_draw (vs := [5]) (mi := mSeq (rd 6)) (f := fName 5) (el := mOp dSub (mFn F__law_draw 2 0 [0, 1] (mcons (rd 0) (mcons (mret (.int 7)) (mret []))) (mret [])) (mret (.int 3))) (ρ := [some (.val (.pot g)), s1, s2, s3, s4, s5, some (.val (.lst XL)), s7, s8, s9, s10, s11, s12, s13, s14, s15, s16, s17, s18, s19]) (p := p) (p1 := p) (items := XL) (by simp) (fun p => Good g p) (fun _ y => ∃ i : Int, y = .int i ∧ i.natAbs ≤ 3) hp (by
    intro d hd p hp
    obtain ⟨v, p2, e2, a2, b2, g2⟩ := drw (m := 7) (by omega) (by omega) hp
    exact ⟨_, rfl, .int (v - 3), p2, by simp [wipeS, e2], g2, v - 3, rfl, by omega⟩)
  obtain ⟨h1, h2⟩ := ints_of_draws (ys := ys) (M := 3) (fun y hy => by
    obtain ⟨k, hk, rfl⟩ := List.mem_iff_getElem.mp hy
    have hk2 : k < XL.length := by rw [rs.1]; exact hk
    exact rs.2 k _ _ (List.getElem?_eq_getElem hk2) (List.getElem?_eq_getElem hk))
  exact ⟨ys.map intD, p', by rw [← h1]; exact e, gg, by rw [List.length_map, ← rs.1], h2⟩
theorem right_both (u v : Row) (p : Pst) : m__law_right_3 [s0, s1, s2, s3, s4, s5, s6, s7, s8, s9, s10, s11, s12, some (.val (rowT v)), some (.val (rowT u)), s15, s16, s17, s18, s19] p = .ok ((vadd u 1 v).map .int) p := by
  have e1 : sqD (rowT u) = some (u.map .int) := rfl
  have e2 : sqD (rowT v) = some (v.map .int) := rfl
  have hz : mZipS (mcons (rd 14) (mcons (rd 13) (mret []))) [s0, s1, s2, s3, s4, s5, s6, s7, s8, s9, s10, s11, s12, some (.val (rowT v)), some (.val (rowT u)), s15, s16, s17, s18, s19] p = .ok (zipL (u.map .int) (v.map .int)) p := by
    generalize rowT u = A at *
    generalize rowT v = B at *
    simp [e1, e2]
  have m1 := mLc_pure (vs := [17, 18]) (f := fTup (fCons (fName 17) (fCons (fName 18) (fNil)))) (tt := mYes) (el := mOp dAdd (rd 17) (rd 18)) hz (fun _ => true) gP (by
    intro z hz
    obtain ⟨x, hx, y, hy, rfl⟩ := zip_rmem hz
    generalize rowT u = A at *
    generalize rowT v = B at *
    exact ⟨_, rfl, rfl, fun _ => by simp [wipeS, gP]⟩)
  rw [filter_yes, zip_plus] at m1
  exact m1
theorem right_mixed (u v : Row) (p : Pst) : m__law_right_4 [s0, s1, s2, s3, s4, s5, s6, s7, s8, s9, some (.val (rowT v)), s11, s12, s13, some (.val (rowT u)), s15, s16, s17, s18, s19] p = .ok ((vadd u 1 v).map .int) p := by
  have e1 : sqD (rowT u) = some (u.map .int) := rfl
  have e2 : sqD (rowT v) = some (v.map .int) := rfl
  have hz : mZipS (mcons (rd 14) (mcons (rd 10) (mret []))) [s0, s1, s2, s3, s4, s5, s6, s7, s8, s9, some (.val (rowT v)), s11, s12, s13, some (.val (rowT u)), s15, s16, s17, s18, s19] p = .ok (zipL (u.map .int) (v.map .int)) p := by
    generalize rowT u = A at *
    generalize rowT v = B at *
    simp [e1, e2]
  have m1 := mLc_pure (vs := [17, 18]) (f := fTup (fCons (fName 17) (fCons (fName 18) (fNil)))) (tt := mYes) (el := mOp dAdd (rd 17) (rd 18)) hz (fun _ => true) gP (by
    intro z hz
    obtain ⟨x, hx, y, hy, rfl⟩ := zip_rmem hz
    generalize rowT u = A at *
    generalize rowT v = B at *
    exact ⟨_, rfl, rfl, fun _ => by simp [wipeS, gP]⟩)
  rw [filter_yes, zip_plus] at m1
  exact m1
theorem c10 (r : Row) (p p' : Pst)  (h : m__law_right_1 [s0, s1, s2, s3, s4, s5, s6, s7, s8, s9, s10, s11, s12, s13, s14, s15, s16, s17, s18, s19] p = .ok (r.map .int) p') : casg 10 (mCall dTuple (mcons (mfrz (m__law_right_1)) (mret []))) [s0, s1, s2, s3, s4, s5, s6, s7, s8, s9, s10, s11, s12, s13, s14, s15, s16, s17, s18, s19] p = .nx [s0, s1, s2, s3, s4, s5, s6, s7, s8, s9, some (.val (rowT r)), s11, s12, s13, s14, s15, s16, s17, s18, s19] p' := by
  have tp := dTuple_lst (r.map .int)
  have e : rowT r = .tup (r.map .int) := rfl
  rw [e]
  generalize r.map D.int = Z at *
  simp [h, tp]
theorem c12 (r : Row) (p p' : Pst)  (h : m__law_right_2 [s0, s1, s2, s3, s4, s5, s6, s7, s8, s9, s10, s11, s12, s13, s14, s15, s16, s17, s18, s19] p = .ok (r.map .int) p') : casg 12 (mCall dTuple (mcons (mfrz (m__law_right_2)) (mret []))) [s0, s1, s2, s3, s4, s5, s6, s7, s8, s9, s10, s11, s12, s13, s14, s15, s16, s17, s18, s19] p = .nx [s0, s1, s2, s3, s4, s5, s6, s7, s8, s9, s10, s11, some (.val (rowT r)), s13, s14, s15, s16, s17, s18, s19] p' := by
  have tp := dTuple_lst (r.map .int)
  have e : rowT r = .tup (r.map .int) := rfl
  rw [e]
  generalize r.map D.int = Z at *
  simp [h, tp]
theorem c15 (r : Row) (p p' : Pst)  (h : m__law_right_3 [s0, s1, s2, s3, s4, s5, s6, s7, s8, s9, s10, s11, s12, s13, s14, s15, s16, s17, s18, s19] p = .ok (r.map .int) p') : casg 15 (mCall dTuple (mcons (mfrz (m__law_right_3)) (mret []))) [s0, s1, s2, s3, s4, s5, s6, s7, s8, s9, s10, s11, s12, s13, s14, s15, s16, s17, s18, s19] p = .nx [s0, s1, s2, s3, s4, s5, s6, s7, s8, s9, s10, s11, s12, s13, s14, some (.val (rowT r)), s16, s17, s18, s19] p' := by
  have tp := dTuple_lst (r.map .int)
  have e : rowT r = .tup (r.map .int) := rfl
  rw [e]
  generalize r.map D.int = Z at *
  simp [h, tp]
theorem c16 (r : Row) (p p' : Pst)  (h : m__law_right_4 [s0, s1, s2, s3, s4, s5, s6, s7, s8, s9, s10, s11, s12, s13, s14, s15, s16, s17, s18, s19] p = .ok (r.map .int) p') : casg 16 (mCall dTuple (mcons (mfrz (m__law_right_4)) (mret []))) [s0, s1, s2, s3, s4, s5, s6, s7, s8, s9, s10, s11, s12, s13, s14, s15, s16, s17, s18, s19] p = .nx [s0, s1, s2, s3, s4, s5, s6, s7, s8, s9, s10, s11, s12, s13, s14, s15, some (.val (rowT r)), s17, s18, s19] p' := by
  have tp := dTuple_lst (r.map .int)
  have e : rowT r = .tup (r.map .int) := rfl
  rw [e]
  generalize r.map D.int = Z at *
  simp [h, tp]
theorem c11 (EL : List D) (LN DU : D) (p : Pst) (e : F__law_combined [.lst EL, LN] p = .ok DU false p) : casg 11 (mFn F__law_combined 2 0 [0, 1] (mcons (rd 7) (mcons (rd 10) (mret []))) (mret [])) [s0, s1, s2, s3, s4, s5, s6, some (.val (.lst EL)), s8, s9, some (.val LN), s11, s12, s13, s14, s15, s16, s17, s18, s19] p = .nx [s0, s1, s2, s3, s4, s5, s6, some (.val (.lst EL)), s8, s9, some (.val LN), some (.val DU), s12, s13, s14, s15, s16, s17, s18, s19] p := by
  simp [e]
theorem c13 (FL : List D) (PT TO : D) (p : Pst) (e : F__law_combined [.lst FL, PT] p = .ok TO false p) : casg 13 (mFn F__law_combined 2 0 [0, 1] (mcons (rd 6) (mcons (rd 12) (mret []))) (mret [])) [s0, s1, s2, s3, s4, s5, some (.val (.lst FL)), s7, s8, s9, s10, s11, some (.val PT), s13, s14, s15, s16, s17, s18, s19] p = .nx [s0, s1, s2, s3, s4, s5, some (.val (.lst FL)), s7, s8, s9, s10, s11, some (.val PT), some (.val TO), s14, s15, s16, s17, s18, s19] p := by
  simp [e]
theorem c14 (g : Nat) (CH ON : D) (p p' : Pst) (e : F__law_round [.pot g, CH] p = .ok ON false p') : casg 14 (mFn F__law_round 2 0 [0, 1] (mcons (rd 0) (mcons (rd 1) (mret []))) (mret [])) [some (.val (.pot g)), some (.val CH), s2, s3, s4, s5, s6, s7, s8, s9, s10, s11, s12, s13, s14, s15, s16, s17, s18, s19] p = .nx [some (.val (.pot g)), some (.val CH), s2, s3, s4, s5, s6, s7, s8, s9, s10, s11, s12, s13, some (.val ON), s15, s16, s17, s18, s19] p' := by
  simp [e]
theorem i2 (CH LN DU : D) (FL EL : List D) (SS : Str) (p : Pst) (e1 : F_ends_of [CH, LN] p = .ok DU false p) (e2 : F_ends_of [.tup [.tup FL, .tup EL], LN] p = .ok DU false p) (e3 : F_combined [.lst EL, LN] p = .ok DU false p) (o : dReprE [.lst [DU, DU, DU]] = some (.str SS)) : cif (mCmp dNe (mCall dReprE (mcons (mfrz (mlim (mcons (mFn F_ends_of 2 0 [0, 1] (mcons (rd 1) (mcons (rd 10) (mret []))) (mret [])) (mcons (mFn F_ends_of 0 2 [1, 0] (mret []) (mcons (rd 10) (mcons (mtup (mcons (mCall dTuple (mcons (rd 6) (mret []))) (mcons (mCall dTuple (mcons (rd 7) (mret []))) (mret [])))) (mret [])))) (mcons (mFn F_combined 2 0 [0, 1] (mcons (rd 7) (mcons (rd 10) (mret []))) (mret [])) (mret [])))))) (mret []))) (mCall dReprE (mcons (mOp dMulX (mfrz (mlim (mcons (rd 11) (mret [])))) (mret (.int 3))) (mret [])))) (cret (mret (.bl false))) (cskip) [s0, some (.val CH), s2, s3, s4, s5, some (.val (.lst FL)), some (.val (.lst EL)), s8, s9, some (.val LN), some (.val DU), s12, s13, s14, s15, s16, s17, s18, s19] p = .nx [s0, some (.val CH), s2, s3, s4, s5, some (.val (.lst FL)), some (.val (.lst EL)), s8, s9, some (.val LN), some (.val DU), s12, s13, s14, s15, s16, s17, s18, s19] p := by
  refine pass (p1 := p) ?_
  simp [e1, e2, e3, o, mul_3, dTuple_lst]
theorem i3 (CH LN DU Z : D) (B : Bool) (SS : Str) (p : Pst) (e1 : F_is_round [CH, LN] p = .ok (.bl B) false p) (q : dEq DU Z = some B) (o : dReprE [.lst [.bl B, .bl B]] = some (.str SS)) : cif (mCmp dNe (mCall dReprE (mcons (mfrz (mlim (mcons (mFn F_is_round 2 0 [0, 1] (mcons (rd 1) (mcons (rd 10) (mret []))) (mret [])) (mcons (mFn F_is_round 0 2 [1, 0] (mret []) (mcons (rd 10) (mcons (rd 1) (mret [])))) (mret []))))) (mret []))) (mCall dReprE (mcons (mOp dMulX (mfrz (mlim (mcons (mB (mCmp dEq (rd 11) (rd 9))) (mret [])))) (mret (.int 2))) (mret [])))) (cret (mret (.bl false))) (cskip) [s0, some (.val CH), s2, s3, s4, s5, s6, s7, s8, some (.val Z), some (.val LN), some (.val DU), s12, s13, s14, s15, s16, s17, s18, s19] p = .nx [s0, some (.val CH), s2, s3, s4, s5, s6, s7, s8, some (.val Z), some (.val LN), some (.val DU), s12, s13, s14, s15, s16, s17, s18, s19] p := by
  refine pass (p1 := p) ?_
  simp [e1, q, o, mul_2]
theorem i6 (CH PT TO : D) (FL : List D) (SS : Str) (p : Pst) (e1 : F_rim [CH, PT] p = .ok TO false p) (e3 : F_combined [.lst FL, PT] p = .ok TO false p) (e4 : F_is_round [CH, TO] p = .ok (.bl true) false p) (o : dReprE [.lst [TO, TO, TO]] = some (.str SS)) : cif (mOr (mCmp dNe (mCall dReprE (mcons (mfrz (mlim (mcons (mFn F_rim 2 0 [0, 1] (mcons (rd 1) (mcons (rd 12) (mret []))) (mret [])) (mcons (mFn F_rim 0 2 [1, 0] (mret []) (mcons (rd 12) (mcons (rd 1) (mret [])))) (mcons (mFn F_combined 2 0 [0, 1] (mcons (rd 6) (mcons (rd 12) (mret []))) (mret [])) (mret [])))))) (mret []))) (mCall dReprE (mcons (mOp dMulX (mfrz (mlim (mcons (rd 13) (mret [])))) (mret (.int 3))) (mret [])))) (mCmp dNotB (mFn F_is_round 2 0 [0, 1] (mcons (rd 1) (mcons (rd 13) (mret []))) (mret [])) (mret (.bl true)))) (cret (mret (.bl false))) (cskip) [s0, some (.val CH), s2, s3, s4, s5, some (.val (.lst FL)), s7, s8, s9, s10, s11, some (.val PT), some (.val TO), s14, s15, s16, s17, s18, s19] p = .nx [s0, some (.val CH), s2, s3, s4, s5, some (.val (.lst FL)), s7, s8, s9, s10, s11, some (.val PT), some (.val TO), s14, s15, s16, s17, s18, s19] p := by
  refine pass (p1 := p) ?_
  simp [e1, e3, e4, o, mul_3]
theorem i9 (CH ON BO Z : D) (p : Pst) (e1 : F_is_round [CH, ON] p = .ok (.bl true) false p) (e2 : F_is_round [CH, BO] p = .ok (.bl true) false p) (e3 : F_ends_of [CH, ON] p = .ok Z false p) (n : dNe Z Z = some false) : cif (mOr (mCmp dNotB (mFn F_is_round 2 0 [0, 1] (mcons (rd 1) (mcons (rd 14) (mret []))) (mret [])) (mret (.bl true))) (mOr (mCmp dNotB (mFn F_is_round 2 0 [0, 1] (mcons (rd 1) (mcons (rd 15) (mret []))) (mret [])) (mret (.bl true))) (mCmp dNe (mFn F_ends_of 2 0 [0, 1] (mcons (rd 1) (mcons (rd 14) (mret []))) (mret [])) (rd 9)))) (cret (mret (.bl false))) (cskip) [s0, some (.val CH), s2, s3, s4, s5, s6, s7, s8, some (.val Z), s10, s11, s12, s13, some (.val ON), some (.val BO), s16, s17, s18, s19] p = .nx [s0, some (.val CH), s2, s3, s4, s5, s6, s7, s8, some (.val Z), s10, s11, s12, s13, some (.val ON), some (.val BO), s16, s17, s18, s19] p := by
  refine pass (p1 := p) ?_
  simp [e1, e2, e3, n]
theorem i11 (CH MI DU Z : D) (B : Bool) (p : Pst) (e1 : F_is_round [CH, MI] p = .ok (.bl B) false p) (q : dEq DU Z = some B) : cif (mCmp dNe (mFn F_is_round 2 0 [0, 1] (mcons (rd 1) (mcons (rd 16) (mret []))) (mret [])) (mB (mCmp dEq (rd 11) (rd 9)))) (cret (mret (.bl false))) (cskip) [s0, some (.val CH), s2, s3, s4, s5, s6, s7, s8, some (.val Z), s10, some (.val DU), s12, s13, s14, s15, some (.val MI), s17, s18, s19] p = .nx [s0, some (.val CH), s2, s3, s4, s5, s6, s7, s8, some (.val Z), s10, some (.val DU), s12, s13, s14, s15, some (.val MI), s17, s18, s19] p := by
  refine pass (p1 := p) ?_
  simp [e1, q]
end
theorem fn2 {G : Fn} {ρ : Sl} {p p' : Pst} {i j : Nat} {d e z : D} {fr : Bool} (h : ρ[i]? = some (some (.val d))) (h2 : ρ[j]? = some (some (.val e))) (q : G [d, e] p = .ok z fr p') : mFn G 2 0 [0, 1] (mcons (rd i) (mcons (rd j) (mret []))) (mret []) ρ p = .ok z p' := by
  simp [ev_rd, h, h2, q]
theorem rep1 {x F R : D} {mx mf : M D} {ρ : Sl} {p : Pst} (hx : mx ρ p = .ok x p) (hf : mf ρ p = .ok F p) (r : dMulX (.lst [x]) F = some R) : mOp dMulX (mfrz (mlim (mcons mx (mret [])))) mf ρ p = .ok R p := by
  have e1 : mfrz (mlim (mcons mx (mret []))) ρ p = .ok (.lst [x]) p := by simp [hx]
  rw [ev_mOp, ev_mbind, e1, andThen_ok, kM_ap, ev_mbind, hf, andThen_ok, kM_ap, r, ev_mopt_some]
theorem or_ff {a b : M Bool} {ρ : Sl} {p : Pst} (h1 : a ρ p = .ok false p) (h2 : b ρ p = .ok false p) : mOr a b ρ p = .ok false p := by
  simp [h1, h2]
section
variable {s0 s1 s2 s3 s4 s5 s6 s7 s8 s9 s10 s11 s12 s13 s14 s15 s16 s17 s18 s19 : Option W}
theorem j3 (CH Z N : D) (FL EL ZS : List D) (p : Pst) (e1 : F_is_chain [CH] p = .ok (.bl true) false p) (e2 : F_times_table [.lst FL, .lst EL] p = .ok (.lst ZS) false p) (l : dLen [.lst FL] = some N) (r : dMulX (.lst [Z]) N = some (.lst ZS)) (n : dNe (.lst ZS) (.lst ZS) = some false) : cif (mOr (mCmp dNotB (mFn F_is_chain 1 0 [0] (mcons (rd 1) (mret [])) (mret [])) (mret (.bl true))) (mCmp dNe (mFn F_times_table 2 0 [0, 1] (mcons (rd 6) (mcons (rd 7) (mret []))) (mret [])) (mOp dMulX (mfrz (mlim (mcons (rd 9) (mret [])))) (mCall dLen (mcons (rd 6) (mret [])))))) (cret (mret (.bl false))) (cskip) [s0, some (.val CH), s2, s3, s4, s5, some (.val (.lst FL)), some (.val (.lst EL)), s8, some (.val Z), s10, s11, s12, s13, s14, s15, s16, s17, s18, s19] p = .nx [s0, some (.val CH), s2, s3, s4, s5, some (.val (.lst FL)), some (.val (.lst EL)), s8, some (.val Z), s10, s11, s12, s13, s14, s15, s16, s17, s18, s19] p := by
  refine pass (p1 := p) (or_ff ?_ ?_)
  · simp [e1]
  · have ln : mCall dLen (mcons (rd 6) (mret [])) [s0, some (.val CH), s2, s3, s4, s5, some (.val (.lst FL)), some (.val (.lst EL)), s8, some (.val Z), s10, s11, s12, s13, s14, s15, s16, s17, s18, s19] p = .ok N p := by simp [-nLen_lst, l]
    rw [ev_mCmp, ev_mbind, fn2 (i := 6) (j := 7) rfl rfl e2, andThen_ok, kM_ap, ev_mbind, rep1 (ev_rd 9) ln r, andThen_ok, kM_ap, n, ev_mopt_some]
theorem j6 (CH : D) (FL EL A B : List D) (SS : Str) (p : Pst) (e1 : F_turned_chain [CH] p = .ok (.tup [.lst A, .lst B]) false p) (e2 : F__law_turned [.lst EL] p = .ok (.lst A) true p) (e3 : F__law_turned [.lst FL] p = .ok (.lst B) true p) (e4 : F_is_chain [.tup [.lst A, .lst B]] p = .ok (.bl true) false p) (o : dReprE [.lst [.tup [.lst A, .lst B], .tup [.lst A, .lst B]]] = some (.str SS)) : cif (mOr (mCmp dNe (mCall dReprE (mcons (mfrz (mlim (mcons (rd 3) (mcons (mFn F_turned_chain 0 1 [0] (mret []) (mcons (rd 1) (mret []))) (mret []))))) (mret []))) (mCall dReprE (mcons (mOp dMulX (mfrz (mlim (mcons (mtup (mcons (mFn F__law_turned 1 0 [0] (mcons (rd 7) (mret [])) (mret [])) (mcons (mFn F__law_turned 1 0 [0] (mcons (rd 6) (mret [])) (mret [])) (mret [])))) (mret [])))) (mret (.int 2))) (mret [])))) (mCmp dNotB (mFn F_is_chain 1 0 [0] (mcons (rd 3) (mret [])) (mret [])) (mret (.bl true)))) (cret (mret (.bl false))) (cskip) [s0, some (.val CH), s2, some (.val (.tup [.lst A, .lst B])), s4, s5, some (.val (.lst FL)), some (.val (.lst EL)), s8, s9, s10, s11, s12, s13, s14, s15, s16, s17, s18, s19] p = .nx [s0, some (.val CH), s2, some (.val (.tup [.lst A, .lst B])), s4, s5, some (.val (.lst FL)), some (.val (.lst EL)), s8, s9, s10, s11, s12, s13, s14, s15, s16, s17, s18, s19] p := by
  refine pass (p1 := p) ?_
  simp [e1, e2, e3, e4, o, mul_2]
theorem j7 (CH : D) (FL EL A B : List D) (p : Pst) (e1 : F_turned_chain [.tup [.lst A, .lst B]] p = .ok (.tup [.lst FL, .lst EL]) false p) (e2 : F_turned [.lst EL] p = .ok (.lst A) true p) (e3 : F_turned [.lst FL] p = .ok (.lst B) true p) (n1 : dNe (.tup [.lst FL, .lst EL]) (.tup [.lst FL, .lst EL]) = some false) (n2 : dNe (.tup [.lst A, .lst B]) (.tup [.lst A, .lst B]) = some false) (dl : ∀ X : List D, dList [.lst X] = some X) : cif (mOr (mCmp dNe (mFn F_turned_chain 1 0 [0] (mcons (rd 3) (mret [])) (mret [])) (mtup (mcons (mfrz (mLst dList (mcons (rd 6) (mret [])))) (mcons (mfrz (mLst dList (mcons (rd 7) (mret [])))) (mret []))))) (mCmp dNe (rd 3) (mtup (mcons (mFn F_turned 1 0 [0] (mcons (rd 7) (mret [])) (mret [])) (mcons (mFn F_turned 1 0 [0] (mcons (rd 6) (mret [])) (mret [])) (mret [])))))) (cret (mret (.bl false))) (cskip) [s0, some (.val CH), s2, some (.val (.tup [.lst A, .lst B])), s4, s5, some (.val (.lst FL)), some (.val (.lst EL)), s8, s9, s10, s11, s12, s13, s14, s15, s16, s17, s18, s19] p = .nx [s0, some (.val CH), s2, some (.val (.tup [.lst A, .lst B])), s4, s5, some (.val (.lst FL)), some (.val (.lst EL)), s8, s9, s10, s11, s12, s13, s14, s15, s16, s17, s18, s19] p := by
  refine pass (p1 := p) ?_
  simp [e1, e2, e3, n1, n2, dl]
theorem unit_line (XL : List D) (i : Nat) (h4 : XL.length ≤ 4) (p : Pst) : m__law_right_6 [s0, s1, s2, s3, some (.val (dI i)), s5, s6, some (.val (.lst XL)), s8, s9, s10, s11, s12, s13, s14, s15, s16, s17, s18, s19] p = .ok ((unitR XL.length i).map .int) p := by
  have r1 := nRange1 (n := XL.length) (by omega)
  have hl : dLen [.lst XL] = some (dI XL.length) := nLen_lst XL
  have hi : mRange1 (mcons (mCall dLen (mcons (rd 7) (mret []))) (mret [])) [s0, s1, s2, s3, some (.val (dI i)), s5, s6, some (.val (.lst XL)), s8, s9, s10, s11, s12, s13, s14, s15, s16, s17, s18, s19] p = .ok (rgL 0 XL.length) p := by
    generalize dI XL.length = N at *
    generalize rgL 0 XL.length = R at *
    simp [-nLen_lst, hl, r1]
  have := mLc_rngY (i := 19) (el := mCall dInt (mcons (mB (mCmp dEq (rd 19) (rd 4))) (mret []))) hi (fun j => .int (if j = i then 1 else 0)) fun j hj => by
    have ek : D.int (0 + (j : Int)) = dI j := by rw [Int.zero_add]; rfl
    rw [ek]
    by_cases e : j = i <;> simp [wipeS, e]
  have e2 : (unitR XL.length i).map D.int = (List.range XL.length).map fun j => D.int (if j = i then 1 else 0) := by unfold unitR; rw [List.map_map]; rfl
  rw [e2]
  exact this
theorem unit_face (XL : List D) (i : Nat) (h4 : XL.length ≤ 4) (p : Pst) : m__law_right_8 [s0, s1, s2, s3, s4, some (.val (dI i)), some (.val (.lst XL)), s7, s8, s9, s10, s11, s12, s13, s14, s15, s16, s17, s18, s19] p = .ok ((unitR XL.length i).map .int) p := by
  have r1 := nRange1 (n := XL.length) (by omega)
  have hl : dLen [.lst XL] = some (dI XL.length) := nLen_lst XL
  have hi : mRange1 (mcons (mCall dLen (mcons (rd 6) (mret []))) (mret [])) [s0, s1, s2, s3, s4, some (.val (dI i)), some (.val (.lst XL)), s7, s8, s9, s10, s11, s12, s13, s14, s15, s16, s17, s18, s19] p = .ok (rgL 0 XL.length) p := by
    generalize dI XL.length = N at *
    generalize rgL 0 XL.length = R at *
    simp [-nLen_lst, hl, r1]
  have := mLc_rngY (i := 19) (el := mCall dInt (mcons (mB (mCmp dEq (rd 19) (rd 5))) (mret []))) hi (fun j => .int (if j = i then 1 else 0)) fun j hj => by
    have ek : D.int (0 + (j : Int)) = dI j := by rw [Int.zero_add]; rfl
    rw [ek]
    by_cases e : j = i <;> simp [wipeS, e]
  have e2 : (unitR XL.length i).map D.int = (List.range XL.length).map fun j => D.int (if j = i then 1 else 0) := by unfold unitR; rw [List.map_map]; rfl
  rw [e2]
  exact this
theorem one_line (CH : D) (XL : List D) (i : Nat) (r q : Row) (p : Pst) (h : m__law_right_6 [s0, some (.val CH), s2, s3, some (.val (dI i)), s5, s6, some (.val (.lst XL)), s8, s9, s10, s11, s12, s13, s14, s15, s16, s17, s18, s19] p = .ok (r.map .int) p) (e : F_ends_of [CH, rowT r] p = .ok (rowT q) false p) (x : dIx (.lst XL) (dI i) = some (rowT q)) : b__law_right_7 [s0, some (.val CH), s2, s3, some (.val (dI i)), s5, s6, some (.val (.lst XL)), s8, s9, s10, s11, s12, s13, s14, s15, s16, s17, s18, s19] p = .nx [s0, some (.val CH), s2, s3, some (.val (dI i)), s5, s6, some (.val (.lst XL)), s8, s9, s10, s11, s12, s13, s14, s15, s16, s17, s18, s19] p := by
  have tp : dTuple [.lst (r.map .int)] = some (rowT r) := rfl
  have n : dNe (rowT q) (rowT q) = some false := by rw [dNe_row]; simp
  unfold b__law_right_7
  refine pass (p1 := p) ?_
  generalize r.map D.int = Z at *
  generalize rowT r = R at *
  generalize rowT q = Q at *
  simp [h, tp, e, x, n]
theorem one_face (CH : D) (XL : List D) (i : Nat) (r q : Row) (p : Pst) (h : m__law_right_8 [s0, some (.val CH), s2, s3, s4, some (.val (dI i)), some (.val (.lst XL)), s7, s8, s9, s10, s11, s12, s13, s14, s15, s16, s17, s18, s19] p = .ok (r.map .int) p) (e : F_rim [CH, rowT r] p = .ok (rowT q) false p) (x : dIx (.lst XL) (dI i) = some (rowT q)) : b__law_right_9 [s0, some (.val CH), s2, s3, s4, some (.val (dI i)), some (.val (.lst XL)), s7, s8, s9, s10, s11, s12, s13, s14, s15, s16, s17, s18, s19] p = .nx [s0, some (.val CH), s2, s3, s4, some (.val (dI i)), some (.val (.lst XL)), s7, s8, s9, s10, s11, s12, s13, s14, s15, s16, s17, s18, s19] p := by
  have tp : dTuple [.lst (r.map .int)] = some (rowT r) := rfl
  have n : dNe (rowT q) (rowT q) = some false := by rw [dNe_row]; simp
  unfold b__law_right_9
  refine pass (p1 := p) ?_
  generalize r.map D.int = Z at *
  generalize rowT r = R at *
  generalize rowT q = Q at *
  simp [h, tp, e, x, n]
end
end PF

namespace PF
open PySem PySem.Spec PyProof.Rows L2
theorem comb_mixed {E : List Row} {w : Nat} {u v : Row} (hu : IsK E w u) (hv : v.length = E.length) : comb E w (vadd u 1 v) = comb E w v := by
  have hl : u.length = v.length := hu.1.trans hv.symm
  refine row_ext (by rw [comb_len, comb_len]) fun c hc => ?_
  rw [comb_len] at hc
  rw [comb_get _ _ hc, comb_get _ _ hc, dot_vadd _ _ _ _ (by rw [col_len]; exact hu.1) (by rw [col_len]; exact hv), hu.2 c hc]
  omega

theorem chain_turn (g : Nat) (F E : List Row) (w : Nat) (tF : Tab 99 F E.length) (tE : Tab 2 E w) (kz : ∀ f ∈ F, IsK E w f) (s2 s8 s10 s11 s12 s13 s14 s15 s16 : Option W) (p : Pst) (hp : Good g p) :
    ∃ (t10 t11 t12 t13 t14 t15 t16 : Option W) (p' : Pst), b__law_right_5 [some (.val (.pot g)), some (.val (.tup [.lst (F.map rowT), .lst (E.map rowT)])), s2, none, none, none, some (.val (.lst (F.map rowT))), some (.val (.lst (E.map rowT))), s8, some (.val (rowT (List.replicate w 0))), s10, s11, s12, s13, s14, s15, s16, none, none, none] p = .nx [some (.val (.pot g)), some (.val (.tup [.lst (F.map rowT), .lst (E.map rowT)])), s2, none, none, none, some (.val (.lst (F.map rowT))), some (.val (.lst (E.map rowT))), s8, some (.val (rowT (List.replicate w 0))), t10, t11, t12, t13, t14, t15, t16, none, none, none] p' ∧ Good g p' := by
  have tE9 : Tab 99 E w := ⟨tE.n1, tE.n4, tE.w1, tE.w4, tE.rl, fun r hr x hx => by have := tE.bd r hr x hx; omega⟩
  have hC : Chn (.tup [.lst (F.map rowT), .lst (E.map rowT)]) F E w := ⟨⟨_, _, rfl, sqv_lst _, sqv_lst _⟩, tF, tE9, kz⟩
  have hC2 : Chn (.tup [.tup (F.map rowT), .tup (E.map rowT)]) F E w := ⟨⟨_, _, rfl, sqv_tup _, sqv_tup _⟩, tF, tE9, kz⟩
  obtain ⟨lines, p1, m1, g1, ll, lb⟩ := right_lines (s1 := some (.val (.tup [.lst (F.map rowT), .lst (E.map rowT)]))) (s2 := s2) (s3 := none) (s4 := none) (s5 := none) (s6 := some (.val (.lst (F.map rowT)))) (s8 := s8) (s9 := some (.val (rowT (List.replicate w 0)))) (s10 := s10) (s11 := s11) (s12 := s12) (s13 := s13) (s14 := s14) (s15 := s15) (s16 := s16) (s17 := none) (s18 := none) (s19 := none) g (E.map rowT) p hp
  rw [List.length_map] at ll
  have vl : Vec lines E.length := ⟨ll, tE.n1, tE.n4, fun x hx => by have := lb x hx; omega⟩
  have bgd := comb_bg tE9 vl.bd

  obtain ⟨parts, p2, m2, g2, lp, pb⟩ := right_parts (s1 := some (.val (.tup [.lst (F.map rowT), .lst (E.map rowT)]))) (s2 := s2) (s3 := none) (s4 := none) (s5 := none) (s7 := some (.val (.lst (E.map rowT)))) (s8 := s8) (s9 := some (.val (rowT (List.replicate w 0)))) (s10 := some (.val (rowT lines))) (s11 := some (.val (rowT (comb E w lines)))) (s12 := s12) (s13 := s13) (s14 := s14) (s15 := s15) (s16 := s16) (s17 := none) (s18 := none) (s19 := none) g (F.map rowT) p1 g1
  rw [List.length_map] at lp
  have vp : Vec parts F.length := ⟨lp, tF.n1, tF.n4, fun x hx => by have := pb x hx; omega⟩
  have bgt := comb_bg tF vp.bd
  have kt : IsK E w (comb F E.length parts) := comb_isK F parts kz lp
  have lt : (comb F E.length parts).length = E.length := comb_len _ _ _
  obtain ⟨one, p3, e14, g3, ko, bo⟩ := e__law_round g E F w tE tF.n4 kz p2 g2
  have vo : Vec one E.length := ⟨ko.1, tE.n1, tE.n4, fun x hx => by have := bo x hx; omega⟩
  have kb : IsK E w (vadd one 1 (comb F E.length parts)) := isK_add 1 ko kt
  have lm : (vadd one 1 lines).length = E.length := by rw [vadd_len (ko.1.trans ll.symm)]; exact ko.1
  have r1 := e_is_round hC ll p1
  have r2 := e_is_round hC lt p2
  have r3 := e_is_round hC ko.1 p3
  have r4 := e_is_round hC kb.1 p3
  have r5 := e_is_round hC lm p3
  rw [decide_eq_true ((isK_comb kt.1).mp kt)] at r2
  rw [decide_eq_true ((isK_comb ko.1).mp ko)] at r3
  rw [decide_eq_true ((isK_comb kb.1).mp kb)] at r4
  rw [comb_mixed ko ll] at r5
  have en := e_ends_of hC vo p3
  rw [(isK_comb ko.1).mp ko] at en
  have q := dEq_row (comb E w lines) (List.replicate w 0)
  refine ⟨some (.val (rowT lines)), some (.val (rowT (comb E w lines))), some (.val (rowT parts)), some (.val (rowT (comb F E.length parts))), some (.val (rowT one)), some (.val (rowT (vadd one 1 (comb F E.length parts)))), some (.val (rowT (vadd one 1 lines))), p3, ?_, g3⟩
  unfold b__law_right_5
  rw [ev_cseq, c10 lines p p1 m1, andC_nx, ev_cseq, c11 (E.map rowT) (rowT lines) (rowT (comb E w lines)) p1 (e__law_combined tE9 (by omega) lines p1), andC_nx,
    ev_cseq, i2 _ _ _ (F.map rowT) (E.map rowT) _ p1 (e_ends_of hC vl p1) (e_ends_of hC2 vl p1) (e_combined (sqv_lst _) tE9 vl p1) (dReprE_ok (ok_three bgd)), andC_nx,
    ev_cseq, i3 _ _ _ _ _ _ p1 r1 q (dReprE_ok (ok_b2 _)), andC_nx,
    ev_cseq, c12 parts p1 p2 m2, andC_nx, ev_cseq, c13 (F.map rowT) (rowT parts) (rowT (comb F E.length parts)) p2 (e__law_combined tF (by omega) parts p2), andC_nx,
    ev_cseq, i6 _ _ _ (F.map rowT) _ p2 (e_rim hC vp p2) (e_combined (sqv_lst _) tF vp p2) r2 (dReprE_ok (ok_three bgt)), andC_nx,
    ev_cseq, c14 g _ (rowT one) p2 p3 e14, andC_nx, ev_cseq, c15 (vadd one 1 (comb F E.length parts)) p3 p3 (right_both one (comb F E.length parts) p3), andC_nx,
    ev_cseq, i9 _ _ _ _ p3 r3 r4 en (by rw [dNe_row]; simp), andC_nx, ev_cseq, c16 (vadd one 1 lines) p3 p3 (right_mixed one lines p3), andC_nx]
  exact i11 _ _ _ _ _ p3 r5 q
end PF

namespace PF
open PySem PySem.Spec PyProof.Rows L2
theorem unit_vec {n i : Nat} (h1 : 1 ≤ n) (h4 : n ≤ 4) : Vec (unitR n i) n := ⟨by simp [unitR], h1, h4, fun x hx => by
  unfold unitR at hx
  obtain ⟨j, _, rfl⟩ := List.mem_map.mp hx
  split <;> decide⟩
theorem len_loop (i : Nat) {G : D → Sl → Pst → Option (Sl × Pst)} {body : C} {ρ : Sl} {XL : List D} {x : SRes} {p : Pst} (hi : ρ[i]? = some (some (.val (.lst XL)))) (hn : XL.length ≤ 100) (e : cforGo G body ((List.range XL.length).map dI) ρ p = x) : cfor (mRange1 (mcons (mCall dLen (mcons (rd i) (mret []))) (mret []))) G body ρ p = x := by
  have rr := nRange1 (n := XL.length) (by omega)
  rw [rgL_dI] at rr
  unfold cfor
  have r1 : rd i ρ p = .ok (.lst XL) p := by rw [ev_rd, hi]; rfl
  have r2 : mCall dLen (mcons (rd i) (mret [])) ρ p = .ok (dI XL.length) p := by
    rw [ev_mCall, ev_mbind, ev_mcons, ev_mbind, r1, andThen_ok, kM_ap, ev_mbind, ev_mret, andThen_ok, kM_ap, ev_mret, andThen_ok, kM_ap, nLen_lst, ev_mopt_some]
  rw [ev_eout, ev_mRange1, ev_mbind, ev_mcons, ev_mbind, r2, andThen_ok, kM_ap, ev_mbind, ev_mret, andThen_ok, kM_ap, ev_mret, andThen_ok, kM_ap, rr, ev_mopt_some, andS_ok, kC_ap]
  exact e
theorem lit_loop {G : D → Sl → Pst → Option (Sl × Pst)} {body : C} {ρ : Sl} {K : D} {R : List D} {x : SRes} {p : Pst} (hr : dRange1 [K] = some R) (e : cforGo G body R ρ p = x) : cfor (mRange1 (mcons (mret K) (mret []))) G body ρ p = x := by
  unfold cfor
  rw [ev_eout, ev_mRange1, ev_mbind, ev_mcons, ev_mbind, ev_mret, andThen_ok, kM_ap, ev_mbind, ev_mret, andThen_ok, kM_ap, ev_mret, andThen_ok, kM_ap, hr, ev_mopt_some, andS_ok, kC_ap]
  exact e

theorem right_start (g : Nat) (F E : List Row) (w : Nat) (tF : Tab 99 F E.length) (tE : Tab 99 E w) (p p1 : Pst) (e1 : F__law_chain [.pot g] p = .ok (.tup [.lst (F.map rowT), .lst (E.map rowT)]) false p1) (b : C) :
    (cseq (casg 1 (mFn F__law_chain 1 0 [0] (mcons (rd 0) (mret [])) (mret []))) (cseq (casgT (tgTup 2 (tgCons (tgName 6) (tgCons (tgName 7) (tgNil)))) (rd 1)) (cseq (casgW [8, 9] (muV (mCall dReprE (mcons (rd 1) (mret []))) (muV (mOp dMulX (mtup (mcons (mret (.int 0)) (mret []))) (mCall dLen (mcons (mOp dIx (rd 7) (mret (.int 0))) (mret [])))) (mret [])))) b))) [some (.val (.pot g)), none, none, none, none, none, none, none, none, none, none, none, none, none, none, none, none, none, none, none] p = b [some (.val (.pot g)), some (.val (.tup [.lst (F.map rowT), .lst (E.map rowT)])), none, none, none, none, some (.val (.lst (F.map rowT))), some (.val (.lst (E.map rowT))), some (.val (.str (rtext (.tup [.lst (F.map rowT), .lst (E.map rowT)])))), some (.val (rowT (List.replicate w 0))), none, none, none, none, none, none, none, none, none, none] p1 := by
  have o := dReprE_ok (okX_of ((rl_two tF.n4 tE.n4 (tab_bg tF) (tab_bg tE)).ok (by omega) (by omega)))
  obtain ⟨r0, _, x0, lr0⟩ := tab_head (sqv_lst (E.map rowT)) tE
  have l0 : dLen [rowT r0] = some (dI w) := by rw [len_rowT, lr0]
  have mz := mul_tup0 tE.w1 tE.w4
  generalize hR : rtext (.tup [.lst (F.map rowT), .lst (E.map rowT)]) = RT at *
  generalize rowT (List.replicate w 0) = Z at *
  generalize F.map rowT = FL at *
  generalize E.map rowT = EL at *
  generalize rowT r0 = R0 at *
  generalize dI w = W1 at *
  have h1 : casg 1 (mFn F__law_chain 1 0 [0] (mcons (rd 0) (mret [])) (mret [])) [some (.val (.pot g)), none, none, none, none, none, none, none, none, none, none, none, none, none, none, none, none, none, none, none] p = .nx [some (.val (.pot g)), some (.val (.tup [.lst FL, .lst EL])), none, none, none, none, none, none, none, none, none, none, none, none, none, none, none, none, none, none] p1 := by simp [e1]
  have h2 : casgT (tgTup 2 (tgCons (tgName 6) (tgCons (tgName 7) (tgNil)))) (rd 1) [some (.val (.pot g)), some (.val (.tup [.lst FL, .lst EL])), none, none, none, none, none, none, none, none, none, none, none, none, none, none, none, none, none, none] p1 = .nx [some (.val (.pot g)), some (.val (.tup [.lst FL, .lst EL])), none, none, none, none, some (.val (.lst FL)), some (.val (.lst EL)), none, none, none, none, none, none, none, none, none, none, none, none] p1 := by simp [casgT, tgTup, tgCons, tgName, tgNil]
  have h3 : casgW [8, 9] (muV (mCall dReprE (mcons (rd 1) (mret []))) (muV (mOp dMulX (mtup (mcons (mret (.int 0)) (mret []))) (mCall dLen (mcons (mOp dIx (rd 7) (mret (.int 0))) (mret [])))) (mret []))) [some (.val (.pot g)), some (.val (.tup [.lst FL, .lst EL])), none, none, none, none, some (.val (.lst FL)), some (.val (.lst EL)), none, none, none, none, none, none, none, none, none, none, none, none] p1 = .nx [some (.val (.pot g)), some (.val (.tup [.lst FL, .lst EL])), none, none, none, none, some (.val (.lst FL)), some (.val (.lst EL)), some (.val (.str RT)), some (.val Z), none, none, none, none, none, none, none, none, none, none] p1 := by simp [o, x0, l0, mz]
  rw [ev_cseq, h1, andC_nx, ev_cseq, h2, andC_nx, ev_cseq, h3, andC_nx]
theorem right_turns (g : Nat) (F E : List Row) (w : Nat) (tF : Tab 99 F E.length) (tE : Tab 2 E w) (kz : ∀ f ∈ F, IsK E w f) (R : List D) (p : Pst) (hp : Good g p) : ∃ (t2 t10 t11 t12 t13 t14 t15 t16 : Option W) (p' : Pst), cforGo (tgName 2) b__law_right_5 R [some (.val (.pot g)), some (.val (.tup [.lst (F.map rowT), .lst (E.map rowT)])), none, none, none, none, some (.val (.lst (F.map rowT))), some (.val (.lst (E.map rowT))), some (.val (.str (rtext (.tup [.lst (F.map rowT), .lst (E.map rowT)])))), some (.val (rowT (List.replicate w 0))), none, none, none, none, none, none, none, none, none, none] p = .nx [some (.val (.pot g)), some (.val (.tup [.lst (F.map rowT), .lst (E.map rowT)])), t2, none, none, none, some (.val (.lst (F.map rowT))), some (.val (.lst (E.map rowT))), some (.val (.str (rtext (.tup [.lst (F.map rowT), .lst (E.map rowT)])))), some (.val (rowT (List.replicate w 0))), t10, t11, t12, t13, t14, t15, t16, none, none, none] p' ∧ Good g p' := by
  obtain ⟨_, ρ2, p1, e, g1, ⟨t2, t10, t11, t12, t13, t14, t15, t16, rfl⟩, _⟩ := draws_gen (G := tgName 2) (body := b__law_right_5) (fun d : D => d) (fun (_ : Unit) ρ => ∃ s2 s10 s11 s12 s13 s14 s15 s16, ρ = [some (.val (.pot g)), some (.val (.tup [.lst (F.map rowT), .lst (E.map rowT)])), s2, none, none, none, some (.val (.lst (F.map rowT))), some (.val (.lst (E.map rowT))), some (.val (.str (rtext (.tup [.lst (F.map rowT), .lst (E.map rowT)])))), some (.val (rowT (List.replicate w 0))), s10, s11, s12, s13, s14, s15, s16, none, none, none]) (fun _ _ => True) (fun p => Good g p) R (by
    rintro d hd k a ρ p hp ⟨s2, s10, s11, s12, s13, s14, s15, s16, rfl⟩ _
    obtain ⟨u10, u11, u12, u13, u14, u15, u16, p', e, g'⟩ := chain_turn g F E w tF tE kz (some (.val d)) (some (.val (.str (rtext (.tup [.lst (F.map rowT), .lst (E.map rowT)]))))) s10 s11 s12 s13 s14 s15 s16 p hp
    exact ⟨(), _, _, p', rfl, e, g', ⟨_, _, _, _, _, _, _, _, rfl⟩, trivial⟩) 0 () [some (.val (.pot g)), some (.val (.tup [.lst (F.map rowT), .lst (E.map rowT)])), none, none, none, none, some (.val (.lst (F.map rowT))), some (.val (.lst (E.map rowT))), some (.val (.str (rtext (.tup [.lst (F.map rowT), .lst (E.map rowT)])))), some (.val (rowT (List.replicate w 0))), none, none, none, none, none, none, none, none, none, none] p hp ⟨none, none, none, none, none, none, none, none, rfl⟩ trivial
  rw [List.map_id'] at e
  exact ⟨t2, t10, t11, t12, t13, t14, t15, t16, p1, e, g1⟩
theorem right_lines_for (g : Nat) (F E : List Row) (w : Nat) (tF : Tab 99 F E.length) (tE : Tab 99 E w) (kz : ∀ f ∈ F, IsK E w f) (t2 t10 t11 t12 t13 t14 t15 t16 s3 s5 : Option W) (p : Pst) : ∀ (l : List Nat), (∀ i ∈ l, i < E.length) → ∀ s4 : Option W, ∃ t4, cforGo (tgName 4) b__law_right_7 (l.map dI) [some (.val (.pot g)), some (.val (.tup [.lst (F.map rowT), .lst (E.map rowT)])), t2, s3, s4, s5, some (.val (.lst (F.map rowT))), some (.val (.lst (E.map rowT))), some (.val (.str (rtext (.tup [.lst (F.map rowT), .lst (E.map rowT)])))), some (.val (rowT (List.replicate w 0))), t10, t11, t12, t13, t14, t15, t16, none, none, none] p = .nx [some (.val (.pot g)), some (.val (.tup [.lst (F.map rowT), .lst (E.map rowT)])), t2, s3, t4, s5, some (.val (.lst (F.map rowT))), some (.val (.lst (E.map rowT))), some (.val (.str (rtext (.tup [.lst (F.map rowT), .lst (E.map rowT)])))), some (.val (rowT (List.replicate w 0))), t10, t11, t12, t13, t14, t15, t16, none, none, none] p
  | [], _, s4 => ⟨s4, rfl⟩
  | i :: l, hl, s4 => by
    have hi := hl i List.mem_cons_self
    have hC : Chn (.tup [.lst (F.map rowT), .lst (E.map rowT)]) F E w := ⟨⟨_, _, rfl, sqv_lst _, sqv_lst _⟩, tF, tE, kz⟩
    obtain ⟨t4, e⟩ := right_lines_for g F E w tF tE kz t2 t10 t11 t12 t13 t14 t15 t16 s3 s5 p l (fun j hj => hl j (List.mem_cons_of_mem _ hj)) (some (.val (dI i)))
    refine ⟨t4, ?_⟩
    have u := unit_line (s0 := some (.val (.pot g))) (s1 := some (.val (.tup [.lst (F.map rowT), .lst (E.map rowT)]))) (s2 := t2) (s3 := s3) (s5 := s5) (s6 := some (.val (.lst (F.map rowT)))) (s8 := some (.val (.str (rtext (.tup [.lst (F.map rowT), .lst (E.map rowT)]))))) (s9 := some (.val (rowT (List.replicate w 0)))) (s10 := t10) (s11 := t11) (s12 := t12) (s13 := t13) (s14 := t14) (s15 := t15) (s16 := t16) (s17 := none) (s18 := none) (s19 := none) (E.map rowT) i (by rw [List.length_map]; exact tE.n4) p
    rw [List.length_map] at u
    have en := e_ends_of hC (unit_vec (i := i) tE.n1 tE.n4) p
    rw [comb_unit tE.rl hi] at en
    have x : dIx (.lst (E.map rowT)) (dI i) = some (rowT E[i]) := nIx_lst (by rw [List.getElem?_map, List.getElem?_eq_getElem hi]; rfl)
    have b := one_line _ (E.map rowT) i _ _ p u en x
    have gt : tgName 4 (dI i) [some (.val (.pot g)), some (.val (.tup [.lst (F.map rowT), .lst (E.map rowT)])), t2, s3, s4, s5, some (.val (.lst (F.map rowT))), some (.val (.lst (E.map rowT))), some (.val (.str (rtext (.tup [.lst (F.map rowT), .lst (E.map rowT)])))), some (.val (rowT (List.replicate w 0))), t10, t11, t12, t13, t14, t15, t16, none, none, none] p = some ([some (.val (.pot g)), some (.val (.tup [.lst (F.map rowT), .lst (E.map rowT)])), t2, s3, some (.val (dI i)), s5, some (.val (.lst (F.map rowT))), some (.val (.lst (E.map rowT))), some (.val (.str (rtext (.tup [.lst (F.map rowT), .lst (E.map rowT)])))), some (.val (rowT (List.replicate w 0))), t10, t11, t12, t13, t14, t15, t16, none, none, none], p) := rfl
    rw [List.map_cons]
    simp only [cforGo, gt, b]
    exact e
theorem right_faces_for (g : Nat) (F E : List Row) (w : Nat) (tF : Tab 99 F E.length) (tE : Tab 99 E w) (kz : ∀ f ∈ F, IsK E w f) (t2 t10 t11 t12 t13 t14 t15 t16 s3 s4 : Option W) (p : Pst) : ∀ (l : List Nat), (∀ i ∈ l, i < F.length) → ∀ s5 : Option W, ∃ t5, cforGo (tgName 5) b__law_right_9 (l.map dI) [some (.val (.pot g)), some (.val (.tup [.lst (F.map rowT), .lst (E.map rowT)])), t2, s3, s4, s5, some (.val (.lst (F.map rowT))), some (.val (.lst (E.map rowT))), some (.val (.str (rtext (.tup [.lst (F.map rowT), .lst (E.map rowT)])))), some (.val (rowT (List.replicate w 0))), t10, t11, t12, t13, t14, t15, t16, none, none, none] p = .nx [some (.val (.pot g)), some (.val (.tup [.lst (F.map rowT), .lst (E.map rowT)])), t2, s3, s4, t5, some (.val (.lst (F.map rowT))), some (.val (.lst (E.map rowT))), some (.val (.str (rtext (.tup [.lst (F.map rowT), .lst (E.map rowT)])))), some (.val (rowT (List.replicate w 0))), t10, t11, t12, t13, t14, t15, t16, none, none, none] p
  | [], _, s5 => ⟨s5, rfl⟩
  | i :: l, hl, s5 => by
    have hi := hl i List.mem_cons_self
    have hC : Chn (.tup [.lst (F.map rowT), .lst (E.map rowT)]) F E w := ⟨⟨_, _, rfl, sqv_lst _, sqv_lst _⟩, tF, tE, kz⟩
    obtain ⟨t5, e⟩ := right_faces_for g F E w tF tE kz t2 t10 t11 t12 t13 t14 t15 t16 s3 s4 p l (fun j hj => hl j (List.mem_cons_of_mem _ hj)) (some (.val (dI i)))
    refine ⟨t5, ?_⟩
    have u := unit_face (s0 := some (.val (.pot g))) (s1 := some (.val (.tup [.lst (F.map rowT), .lst (E.map rowT)]))) (s2 := t2) (s3 := s3) (s4 := s4) (s7 := some (.val (.lst (E.map rowT)))) (s8 := some (.val (.str (rtext (.tup [.lst (F.map rowT), .lst (E.map rowT)]))))) (s9 := some (.val (rowT (List.replicate w 0)))) (s10 := t10) (s11 := t11) (s12 := t12) (s13 := t13) (s14 := t14) (s15 := t15) (s16 := t16) (s17 := none) (s18 := none) (s19 := none) (F.map rowT) i (by rw [List.length_map]; exact tF.n4) p
    rw [List.length_map] at u
    have en := e_rim hC (unit_vec (i := i) tF.n1 tF.n4) p
    rw [comb_unit tF.rl hi] at en
    have x : dIx (.lst (F.map rowT)) (dI i) = some (rowT F[i]) := nIx_lst (by rw [List.getElem?_map, List.getElem?_eq_getElem hi]; rfl)
    have b := one_face _ (F.map rowT) i _ _ p u en x
    have gt : tgName 5 (dI i) [some (.val (.pot g)), some (.val (.tup [.lst (F.map rowT), .lst (E.map rowT)])), t2, s3, s4, s5, some (.val (.lst (F.map rowT))), some (.val (.lst (E.map rowT))), some (.val (.str (rtext (.tup [.lst (F.map rowT), .lst (E.map rowT)])))), some (.val (rowT (List.replicate w 0))), t10, t11, t12, t13, t14, t15, t16, none, none, none] p = some ([some (.val (.pot g)), some (.val (.tup [.lst (F.map rowT), .lst (E.map rowT)])), t2, s3, s4, some (.val (dI i)), some (.val (.lst (F.map rowT))), some (.val (.lst (E.map rowT))), some (.val (.str (rtext (.tup [.lst (F.map rowT), .lst (E.map rowT)])))), some (.val (rowT (List.replicate w 0))), t10, t11, t12, t13, t14, t15, t16, none, none, none], p) := rfl
    rw [List.map_cons]
    simp only [cforGo, gt, b]
    exact e
theorem e__law_right (g : Nat) (p : Pst) (hp : Good g p) : ∃ p', F__law_right [.pot g] p = .ok (.bl true) false p' ∧ Good g p' := by
  obtain ⟨F, E, w, p1, e1, g1, tF, tE2, kz⟩ := e__law_chain g p hp
  have tE : Tab 99 E w := ⟨tE2.n1, tE2.n4, tE2.w1, tE2.w4, tE2.rl, fun r hr x hx => by have := tE2.bd r hr x hx; omega⟩
  have hC : Chn (.tup [.lst (F.map rowT), .lst (E.map rowT)]) F E w := ⟨⟨_, _, rfl, sqv_lst _, sqv_lst _⟩, tF, tE, kz⟩
  have tEt := tab_turn tE
  have tFt := tab_turn tF
  have tEt' : Tab 99 (turnT E w) (turnT F E.length).length := by rw [turnT_len]; exact tEt
  have kzt := kz_turn tF tE kz
  have hB : Chn (.tup [.lst ((turnT E w).map rowT), .lst ((turnT F E.length).map rowT)]) (turnT E w) (turnT F E.length) F.length := ⟨⟨_, _, rfl, sqv_lst _, sqv_lst _⟩, tEt', tFt, kzt⟩
  have r3 : dRange1 [.int 3] = some (rgL 0 3) := dRange1_nat 3 (by omega)
  generalize rgL 0 3 = R3 at *
  obtain ⟨t2, t10, t11, t12, t13, t14, t15, t16, p2, e2, g2⟩ := right_turns g F E w tF tE2 kz R3 p1 g1
  have tc := e_turned_chain hC p2
  have tb := e_turned_chain hB p2
  rw [turnT_len, turn_turn tF.rl, turn_turn tE.rl] at tb
  obtain ⟨u4, e4⟩ := right_lines_for g F E w tF tE kz t2 t10 t11 t12 t13 t14 t15 t16 (some (.val (.tup [.lst ((turnT E w).map rowT), .lst ((turnT F E.length).map rowT)]))) none p2 (List.range E.length) (fun i hi => List.mem_range.mp hi) none
  obtain ⟨u5, e5⟩ := right_faces_for g F E w tF tE kz t2 t10 t11 t12 t13 t14 t15 t16 (some (.val (.tup [.lst ((turnT E w).map rowT), .lst ((turnT F E.length).map rowT)]))) u4 p2 (List.range F.length) (fun i hi => List.mem_range.mp hi) none
  have zs := rep_of (rowT (List.replicate w 0)) F.length (by have := tF.n4; omega)
  have nz : dNe (.lst (List.replicate F.length (rowT (List.replicate w 0)))) (.lst (List.replicate F.length (rowT (List.replicate w 0)))) = some false := by
    have := dNe_rows (List.replicate F.length (List.replicate w 0))
    rw [List.map_replicate] at this
    exact this
  have lF : dLen [.lst (F.map rowT)] = some (.int (F.length : Int)) := by rw [dLen_lst, List.length_map]
  refine ⟨p2, ?_, g2⟩
  rw [en__law_right, c__law_right, right_start g F E w tF tE p p1 e1]
  rw [ev_cseq, j3 _ _ _ (F.map rowT) (E.map rowT) _ p1 (e_is_chain hC p1) (e_times_table (c := .non) (sqv_lst _) (sqv_lst _) tF tE kz p1) lF ((dMulX_lst _ _).trans zs) nz, andC_nx]
  rw [ev_cseq, lit_loop r3 e2, andC_nx]
  have h5 : casg 3 (mFn F_turned_chain 1 0 [0] (mcons (rd 1) (mret [])) (mret [])) [some (.val (.pot g)), some (.val (.tup [.lst (F.map rowT), .lst (E.map rowT)])), t2, none, none, none, some (.val (.lst (F.map rowT))), some (.val (.lst (E.map rowT))), some (.val (.str (rtext (.tup [.lst (F.map rowT), .lst (E.map rowT)])))), some (.val (rowT (List.replicate w 0))), t10, t11, t12, t13, t14, t15, t16, none, none, none] p2 = .nx [some (.val (.pot g)), some (.val (.tup [.lst (F.map rowT), .lst (E.map rowT)])), t2, some (.val (.tup [.lst ((turnT E w).map rowT), .lst ((turnT F E.length).map rowT)])), none, none, some (.val (.lst (F.map rowT))), some (.val (.lst (E.map rowT))), some (.val (.str (rtext (.tup [.lst (F.map rowT), .lst (E.map rowT)])))), some (.val (rowT (List.replicate w 0))), t10, t11, t12, t13, t14, t15, t16, none, none, none] p2 := by
    generalize hB2 : D.tup [D.lst ((turnT E w).map rowT), D.lst ((turnT F E.length).map rowT)] = BK at *
    clear hB2
    generalize D.tup [D.lst (F.map rowT), D.lst (E.map rowT)] = CH at *
    simp [tc]
  rw [ev_cseq, h5, andC_nx]
  rw [ev_cseq, j6 _ (F.map rowT) (E.map rowT) _ _ _ p2 tc (e__law_turned tE p2) (e__law_turned tF p2) (e_is_chain hB p2) (dReprE_ok (ok_two2 (rl_two (by rw [turnT_len]; exact tE.w4) (by rw [turnT_len]; exact tE.n4) (tab_bg tEt) (tab_bg tFt)))), andC_nx]
  rw [ev_cseq, j7 _ (F.map rowT) (E.map rowT) _ _ p2 tb (e_turned (sqv_lst _) tE p2) (e_turned (sqv_lst _) tF p2) (dNe_two F E) (dNe_two (turnT E w) (turnT F E.length)) (fun X => rfl), andC_nx]
  have e4' : cforGo (tgName 4) b__law_right_7 ((List.range (E.map rowT).length).map dI) [some (.val (.pot g)), some (.val (.tup [.lst (F.map rowT), .lst (E.map rowT)])), t2, some (.val (.tup [.lst ((turnT E w).map rowT), .lst ((turnT F E.length).map rowT)])), none, none, some (.val (.lst (F.map rowT))), some (.val (.lst (E.map rowT))), some (.val (.str (rtext (.tup [.lst (F.map rowT), .lst (E.map rowT)])))), some (.val (rowT (List.replicate w 0))), t10, t11, t12, t13, t14, t15, t16, none, none, none] p2 = .nx [some (.val (.pot g)), some (.val (.tup [.lst (F.map rowT), .lst (E.map rowT)])), t2, some (.val (.tup [.lst ((turnT E w).map rowT), .lst ((turnT F E.length).map rowT)])), u4, none, some (.val (.lst (F.map rowT))), some (.val (.lst (E.map rowT))), some (.val (.str (rtext (.tup [.lst (F.map rowT), .lst (E.map rowT)])))), some (.val (rowT (List.replicate w 0))), t10, t11, t12, t13, t14, t15, t16, none, none, none] p2 := by rw [List.length_map]; exact e4
  rw [ev_cseq, len_loop 7 rfl (by rw [List.length_map]; have := tE.n4; omega) e4', andC_nx]
  have e5' : cforGo (tgName 5) b__law_right_9 ((List.range (F.map rowT).length).map dI) [some (.val (.pot g)), some (.val (.tup [.lst (F.map rowT), .lst (E.map rowT)])), t2, some (.val (.tup [.lst ((turnT E w).map rowT), .lst ((turnT F E.length).map rowT)])), u4, none, some (.val (.lst (F.map rowT))), some (.val (.lst (E.map rowT))), some (.val (.str (rtext (.tup [.lst (F.map rowT), .lst (E.map rowT)])))), some (.val (rowT (List.replicate w 0))), t10, t11, t12, t13, t14, t15, t16, none, none, none] p2 = .nx [some (.val (.pot g)), some (.val (.tup [.lst (F.map rowT), .lst (E.map rowT)])), t2, some (.val (.tup [.lst ((turnT E w).map rowT), .lst ((turnT F E.length).map rowT)])), u4, u5, some (.val (.lst (F.map rowT))), some (.val (.lst (E.map rowT))), some (.val (.str (rtext (.tup [.lst (F.map rowT), .lst (E.map rowT)])))), some (.val (rowT (List.replicate w 0))), t10, t11, t12, t13, t14, t15, t16, none, none, none] p2 := by rw [List.length_map]; exact e5
  rw [ev_cseq, len_loop 6 rfl (by rw [List.length_map]; have := tF.n4; omega) e5', andC_nx]
  have o := dReprE_ok (okX_of ((rl_two tF.n4 tE.n4 (tab_bg tF) (tab_bg tE)).ok (by omega) (by omega)))
  clear e1 e2 e4 e5 e4' e5' hC hB tc tb h5 zs nz
  generalize rtext (.tup [.lst (F.map rowT), .lst (E.map rowT)]) = RT at *
  generalize D.tup [D.lst (F.map rowT), D.lst (E.map rowT)] = CH at *
  simp [o]
theorem law_ok (ns : List Int) (hl : ns.length ≤ 63) : ∃ p', F_law [.scr ns] ⟨0, 0, 0⟩ = .ok (.bl true) false p' := by
  rw [en_law, c_law]
  have hi : mRange1 (mcons (mCall dMax2 (mcons (mret (.int 1)) (mcons (mCall dMin2 (mcons (mret (.int 2)) (mcons (mCall dLen (mcons (rd 0) (mret []))) (mret [])))) (mret [])))) (mret [])) [some (.val (.scr ns)), none] ⟨0, 0, 0⟩ = .ok ((List.range (max 1 (min 2 ns.length))).map dI) ⟨0, 0, 0⟩ := by
    show mRange1 (mcons (mCall dMax2 (mcons (mret (dI 1)) (mcons (mCall dMin2 (mcons (mret (dI 2)) (mcons (mCall dLen (mcons (rd 0) (mret []))) (mret [])))) (mret [])))) (mret [])) [some (.val (.scr ns)), none] ⟨0, 0, 0⟩ = _
    have e : mcons (mCall dMax2 (mcons (mret (dI 1)) (mcons (mCall dMin2 (mcons (mret (dI 2)) (mcons (mCall dLen (mcons (rd 0) (mret []))) (mret [])))) (mret [])))) (mret []) [some (.val (.scr ns)), none] ⟨0, 0, 0⟩ = .ok [dI (max 1 (min 2 ns.length))] ⟨0, 0, 0⟩ := by simp [nMin2, nMax2]
    rw [ev_mRange1, ev_mbind, e, andThen_ok, kM_ap, nRange1 (by omega), ev_mopt_some, rgL_dI]
  obtain ⟨ys, p', e, _, rs⟩ := mLc_draw (vs := [1]) (f := fName 1) (el := mFn F__law_right 1 0 [0] (mcons (mFn F__law_pot 2 0 [0, 1] (mcons (rd 0) (mcons (rd 1) (mret []))) (mret [])) (mret [])) (mret [])) hi (fun _ => True) (fun _ y => y = .bl true) trivial (by
    intro d hd p _
    obtain ⟨k, hk, rfl⟩ := List.mem_map.mp hd
    refine ⟨_, rfl, ?_⟩
    obtain ⟨g, p1, e1, g1⟩ := pot_ok (A := 3911) (B := 3229) (U := 40692) (V := 36709) (W := 2467) (M1 := 2147483549) (M2 := 2147483563) (Z := 1) (by decide) (by decide) (by decide) (by decide) (by decide) (by decide) (by decide) (ns := ns) (k := k) (p := p)
    have e1' : F__law_pot [.scr ns, dI k] p = .ok (.pot g) false p1 := e1
    obtain ⟨p2, e2, _⟩ := e__law_right g p1 g1
    exact ⟨_, p2, by simp [wipeS, e1', e2], trivial, rfl⟩)
  have e' : m_law_1 [some (.val (.scr ns)), none] ⟨0, 0, 0⟩ = .ok ys p' := e
  have hy : ys = (ys.map fun _ => true).map .bl := by
    apply List.ext_getElem?
    intro i
    rw [List.getElem?_map, List.getElem?_map]
    cases q : ys[i]? with
    | none => rfl
    | some y =>
      have hi2 : i < ((List.range (max 1 (min 2 ns.length))).map dI).length := by rw [rs.1]; exact (List.getElem?_eq_some_iff.mp q).1
      have := rs.2 i _ y (List.getElem?_eq_getElem hi2) q
      rw [this]; rfl
  have ha : dAll [.lst ys] = some (.bl true) := by
    rw [hy, dAll_bls]
    congr 2
    simp
  exact ⟨p', by simp [e', ha]⟩
end PF

namespace PF
open PySem PySem.Spec PyProof.Rows L2
theorem b_is_integer {P : Program} {w : World} {K : PySem.W.Frag} {mg : Str → Option Value} {base : Heap} (m_bool : mg "bool" = none) (m_int : mg "int" = none) (m_isinstance : mg "isinstance" = none) : BodyOk P w K mg base 0 "is_integer" (defBody HeadT.s_is_integer) (defScope HeadT.s_is_integer) N_is_integer c_is_integer := by
  intro f cdv A outer s H E En hr hgd
  have nd : N_is_integer.Nodup := by decide +kernel
  have tk : Takes (cxOf (L2.CX P w) P w K mg base N_is_integer "is_integer" (defScope HeadT.s_is_integer) f cdv A outer s H E) (EX E) := takes_of rfl rfl rfl rfl
  have hp : PassesOwn (model P w) (cxOf (L2.CX P w) P w K mg base N_is_integer "is_integer" (defScope HeadT.s_is_integer) f cdv A outer s H E).A (cxOf (L2.CX P w) P w K mg base N_is_integer "is_integer" (defScope HeadT.s_is_integer) f cdv A outer s H E).env (cxOf (L2.CX P w) P w K mg base N_is_integer "is_integer" (defScope HeadT.s_is_integer) f cdv A outer s H E).xe := passes_of rfl
  delta c_is_integer
  exact (cs_one (cs_ret (pm_and (pm_isi .int (by rfl) m_isinstance (pm_of (pv 0)) (by rfl) m_int ty_int) (pm_one (pm_not (pm_isi .bool (by rfl) m_isinstance (pm_of (pv 0)) (by rfl) m_bool ty_bool))))))
theorem sc_is_integer : FnScope N_is_integer ps_is_integer (defScope HeadT.s_is_integer) := ⟨rfl, rfl, rfl, by decide +kernel, rfl, by decide +kernel, by decide +kernel⟩
theorem b_is_within {P : Program} {w : World} {K : PySem.W.Frag} {mg : Str → Option Value} {base : Heap} (h_is_integer : FnX P w K mg base "is_integer" (defArgs HeadT.s_is_integer) 1 ps_is_integer F_is_integer) : BodyOk P w K mg base 1 "is_within" (defBody HeadT.s_is_within) (defScope HeadT.s_is_within) N_is_within c_is_within := by
  intro f cdv A outer s H E En hr hgd
  have nd : N_is_within.Nodup := by decide +kernel
  have tk : Takes (cxOf (L2.CX P w) P w K mg base N_is_within "is_within" (defScope HeadT.s_is_within) f cdv A outer s H E) (EX E) := takes_of rfl rfl rfl rfl
  have hp : PassesOwn (model P w) (cxOf (L2.CX P w) P w K mg base N_is_within "is_within" (defScope HeadT.s_is_within) f cdv A outer s H E).A (cxOf (L2.CX P w) P w K mg base N_is_within "is_within" (defScope HeadT.s_is_within) f cdv A outer s H E).env (cxOf (L2.CX P w) P w K mg base N_is_within "is_within" (defScope HeadT.s_is_within) f cdv A outer s H E).xe := passes_of rfl
  delta c_is_within
  exact (cs_one (cs_ret (pm_and (pm_fn1 h_is_integer (hr.mono (by decide)) hgd tk (fun _ _ _ _ _ _ _ _ us ws h1 h2 => match us, ws, h1, h2 with | [_], [], _, _ => rfl) (by rfl) (pma_cons (pm_of (pv 0)) pma_nil)) (pm_one (pm_chain (f := iLe) (g := iLe) op_le op_le (pm_of (pv 1)) (pm_of (pv 0)) (pm_of (pv 2)))))))
theorem sc_is_within : FnScope N_is_within ps_is_within (defScope HeadT.s_is_within) := ⟨rfl, rfl, rfl, by decide +kernel, rfl, by decide +kernel, by decide +kernel⟩
theorem b_is_list {P : Program} {w : World} {K : PySem.W.Frag} {mg : Str → Option Value} {base : Heap} (m_isinstance : mg "isinstance" = none) (m_list : mg "list" = none) (m_tuple : mg "tuple" = none) : BodyOk P w K mg base 0 "is_list" (defBody HeadT.s_is_list) (defScope HeadT.s_is_list) N_is_list c_is_list := by
  intro f cdv A outer s H E En hr hgd
  have nd : N_is_list.Nodup := by decide +kernel
  have tk : Takes (cxOf (L2.CX P w) P w K mg base N_is_list "is_list" (defScope HeadT.s_is_list) f cdv A outer s H E) (EX E) := takes_of rfl rfl rfl rfl
  have hp : PassesOwn (model P w) (cxOf (L2.CX P w) P w K mg base N_is_list "is_list" (defScope HeadT.s_is_list) f cdv A outer s H E).A (cxOf (L2.CX P w) P w K mg base N_is_list "is_list" (defScope HeadT.s_is_list) f cdv A outer s H E).env (cxOf (L2.CX P w) P w K mg base N_is_list "is_list" (defScope HeadT.s_is_list) f cdv A outer s H E).xe := passes_of rfl
  delta c_is_list
  exact (cs_one (cs_ret (pm_isi2 .list .tuple (by rfl) m_isinstance (pm_of (pv 0)) (by rfl) m_list ty_list (by rfl) m_tuple ty_tuple)))
theorem sc_is_list : FnScope N_is_list ps_is_list (defScope HeadT.s_is_list) := ⟨rfl, rfl, rfl, by decide +kernel, rfl, by decide +kernel, by decide +kernel⟩
theorem b_want_at_most {P : Program} {w : World} {K : PySem.W.Frag} {mg : Str → Option Value} {base : Heap} : BodyOk P w K mg base 0 "want_at_most" (defBody HeadT.s_want_at_most) (defScope HeadT.s_want_at_most) N_want_at_most c_want_at_most := by
  intro f cdv A outer s H E En hr hgd
  have nd : N_want_at_most.Nodup := by decide +kernel
  have tk : Takes (cxOf (L2.CX P w) P w K mg base N_want_at_most "want_at_most" (defScope HeadT.s_want_at_most) f cdv A outer s H E) (EX E) := takes_of rfl rfl rfl rfl
  have hp : PassesOwn (model P w) (cxOf (L2.CX P w) P w K mg base N_want_at_most "want_at_most" (defScope HeadT.s_want_at_most) f cdv A outer s H E).A (cxOf (L2.CX P w) P w K mg base N_want_at_most "want_at_most" (defScope HeadT.s_want_at_most) f cdv A outer s H E).env (cxOf (L2.CX P w) P w K mg base N_want_at_most "want_at_most" (defScope HeadT.s_want_at_most) f cdv A outer s H E).xe := passes_of rfl
  delta c_want_at_most
  exact (cs_one (cs_if (pmt_gt (pm_of (pv 2)) (pm_of (pv 1))) (cs_one cs_never) cs_nil))
theorem sc_want_at_most : FnScope N_want_at_most ps_want_at_most (defScope HeadT.s_want_at_most) := ⟨rfl, rfl, rfl, by decide +kernel, rfl, by decide +kernel, by decide +kernel⟩
theorem b_is_row_of {P : Program} {w : World} {K : PySem.W.Frag} {mg : Str → Option Value} {base : Heap} (m_MOST_COLUMNS : ∃ t, mg "MOST_COLUMNS" = some (.int 4 t)) (m_MOST_NUMBER : ∃ t, mg "MOST_NUMBER" = some (.int 99 t)) (h_is_within : FnX P w K mg base "is_within" (defArgs HeadT.s_is_within) 2 ps_is_within F_is_within) (m_all : mg "all" = none) (m_isinstance : mg "isinstance" = none) (m_len : mg "len" = none) (m_tuple : mg "tuple" = none) : BodyOk P w K mg base 2 "is_row_of" (defBody HeadT.s_is_row_of) (defScope HeadT.s_is_row_of) N_is_row_of c_is_row_of := by
  intro f cdv A outer s H E En hr hgd
  have nd : N_is_row_of.Nodup := by decide +kernel
  have tk : Takes (cxOf (L2.CX P w) P w K mg base N_is_row_of "is_row_of" (defScope HeadT.s_is_row_of) f cdv A outer s H E) (EX E) := takes_of rfl rfl rfl rfl
  have hp : PassesOwn (model P w) (cxOf (L2.CX P w) P w K mg base N_is_row_of "is_row_of" (defScope HeadT.s_is_row_of) f cdv A outer s H E).A (cxOf (L2.CX P w) P w K mg base N_is_row_of "is_row_of" (defScope HeadT.s_is_row_of) f cdv A outer s H E).env (cxOf (L2.CX P w) P w K mg base N_is_row_of "is_row_of" (defScope HeadT.s_is_row_of) f cdv A outer s H E).xe := passes_of rfl
  delta c_is_row_of
  try delta m_is_row_of_1
  exact (cs_cons (cs_if (PMw.pt (pmw_or (pmt_not (pmt_val (pm_isi .tuple (by rfl) m_isinstance (pm_of (pv 0)) (by rfl) m_tuple ty_tuple))) (pmw_or1 (pmt_not (pmt_chain (f := iLe) (g := iLe) op_le op_le pm_int (b_len m_len (pma_cons (pm_of (pv 0)) pma_nil)) (pm_gint (by rfl) m_MOST_COLUMNS)))))) (cs_one (cs_ret pm_bl)) cs_nil) (cs_one (cs_ret (b_all rfl m_all (pma_cons (PMo.pm (pmo_lc (own := [("one", 1)]) rfl nd (pmi_seq (pm_of (pv 0))) (blkOk_by (by kernel_rfl)) (fun _ _ _ _ _ => (pg_name (i := 1) nd rfl (by first | exact Or.inl rfl | exact Or.inr rfl))) gok_name (fun _ _ _ _ _ => pmts_nil) (fun _ _ _ _ _ => (pm_fn1 h_is_within (hr.mono (by decide)) hgd takes_w0 (fun _ _ _ _ _ _ _ _ us ws h1 h2 => match us, ws, h1, h2 with | [_, _, _], [], _, _ => rfl) (by rfl) (pma_cons (pm_of (pv 1)) (pma_cons (pm_sub pm_int (pm_gint (by rfl) m_MOST_NUMBER)) (pma_cons (pm_gint (by rfl) m_MOST_NUMBER) pma_nil))))))) pma_nil)))))
theorem sc_is_row_of : FnScope N_is_row_of ps_is_row_of (defScope HeadT.s_is_row_of) := ⟨rfl, rfl, rfl, by decide +kernel, rfl, by decide +kernel, by decide +kernel⟩
theorem b_is_table_of {P : Program} {w : World} {K : PySem.W.Frag} {mg : Str → Option Value} {base : Heap} (m_MOST_ROWS : ∃ t, mg "MOST_ROWS" = some (.int 4 t)) (h_is_list : FnX P w K mg base "is_list" (defArgs HeadT.s_is_list) 1 ps_is_list F_is_list) (h_is_row_of : FnX P w K mg base "is_row_of" (defArgs HeadT.s_is_row_of) 3 ps_is_row_of F_is_row_of) (m_all : mg "all" = none) (m_len : mg "len" = none) : BodyOk P w K mg base 3 "is_table_of" (defBody HeadT.s_is_table_of) (defScope HeadT.s_is_table_of) N_is_table_of c_is_table_of := by
  intro f cdv A outer s H E En hr hgd
  have nd : N_is_table_of.Nodup := by decide +kernel
  have tk : Takes (cxOf (L2.CX P w) P w K mg base N_is_table_of "is_table_of" (defScope HeadT.s_is_table_of) f cdv A outer s H E) (EX E) := takes_of rfl rfl rfl rfl
  have hp : PassesOwn (model P w) (cxOf (L2.CX P w) P w K mg base N_is_table_of "is_table_of" (defScope HeadT.s_is_table_of) f cdv A outer s H E).A (cxOf (L2.CX P w) P w K mg base N_is_table_of "is_table_of" (defScope HeadT.s_is_table_of) f cdv A outer s H E).env (cxOf (L2.CX P w) P w K mg base N_is_table_of "is_table_of" (defScope HeadT.s_is_table_of) f cdv A outer s H E).xe := passes_of rfl
  delta c_is_table_of
  try delta m_is_table_of_2
  try delta m_is_table_of_1
  exact (cs_cons (cs_if (PMw.pt (pmw_or (pmt_not (pmt_val (pm_fn1 h_is_list (hr.mono (by decide)) hgd tk (fun _ _ _ _ _ _ _ _ us ws h1 h2 => match us, ws, h1, h2 with | [_], [], _, _ => rfl) (by rfl) (pma_cons (pm_of (pv 0)) pma_nil)))) (pmw_or (pmt_not (pmt_chain (f := iLe) (g := iLe) op_le op_le pm_int (b_len m_len (pma_cons (pm_of (pv 0)) pma_nil)) (pm_gint (by rfl) m_MOST_ROWS))) (pmw_or1 (pmt_not (pmt_val (b_all rfl m_all (pma_cons (PMo.pm (pmo_lc (own := [("row", 1)]) rfl nd (pmi_seq (pm_of (pv 0))) (blkOk_by (by kernel_rfl)) (fun _ _ _ _ _ => (pg_name (i := 1) nd rfl (by first | exact Or.inl rfl | exact Or.inr rfl))) gok_name (fun _ _ _ _ _ => pmts_nil) (fun _ _ _ _ _ => (pm_fn1 h_is_row_of (hr.mono (by decide)) hgd takes_w0 (fun _ _ _ _ _ _ _ _ us ws h1 h2 => match us, ws, h1, h2 with | [_], [], _, _ => rfl) (by rfl) (pma_cons (pm_of (pv 1)) pma_nil))))) pma_nil)))))))) (cs_one (cs_ret pm_bl)) cs_nil) (cs_one (cs_ret (b_all rfl m_all (pma_cons (PMo.pm (pmo_lc (own := [("row", 1)]) rfl nd (pmi_seq (pm_of (pv 0))) (blkOk_by (by kernel_rfl)) (fun _ _ _ _ _ => (pg_name (i := 1) nd rfl (by first | exact Or.inl rfl | exact Or.inr rfl))) gok_name (fun _ _ _ _ _ => pmts_nil) (fun _ _ _ _ _ => (pm_eq (un_of hr) (b_len m_len (pma_cons (pm_of (pv 1)) pma_nil)) (b_len m_len (pma_cons (pm_ixd (pm_of (pv 0)) pm_int) pma_nil)))))) pma_nil)))))
theorem sc_is_table_of : FnScope N_is_table_of ps_is_table_of (defScope HeadT.s_is_table_of) := ⟨rfl, rfl, rfl, by decide +kernel, rfl, by decide +kernel, by decide +kernel⟩
theorem b_check_table {P : Program} {w : World} {K : PySem.W.Frag} {mg : Str → Option Value} {base : Heap} (h_is_table_of : FnX P w K mg base "is_table_of" (defArgs HeadT.s_is_table_of) 4 ps_is_table_of F_is_table_of) : BodyOk P w K mg base 4 "check_table" (defBody HeadT.s_check_table) (defScope HeadT.s_check_table) N_check_table c_check_table := by
  intro f cdv A outer s H E En hr hgd
  have nd : N_check_table.Nodup := by decide +kernel
  have tk : Takes (cxOf (L2.CX P w) P w K mg base N_check_table "check_table" (defScope HeadT.s_check_table) f cdv A outer s H E) (EX E) := takes_of rfl rfl rfl rfl
  have hp : PassesOwn (model P w) (cxOf (L2.CX P w) P w K mg base N_check_table "check_table" (defScope HeadT.s_check_table) f cdv A outer s H E).A (cxOf (L2.CX P w) P w K mg base N_check_table "check_table" (defScope HeadT.s_check_table) f cdv A outer s H E).env (cxOf (L2.CX P w) P w K mg base N_check_table "check_table" (defScope HeadT.s_check_table) f cdv A outer s H E).xe := passes_of rfl
  delta c_check_table
  exact (cs_one (cs_if (pmt_not (pmt_val (pm_fn1 h_is_table_of (hr.mono (by decide)) hgd tk (fun _ _ _ _ _ _ _ _ us ws h1 h2 => match us, ws, h1, h2 with | [_], [], _, _ => rfl) (by rfl) (pma_cons (pm_of (pv 0)) pma_nil)))) (cs_one cs_never) cs_nil))
theorem sc_check_table : FnScope N_check_table ps_check_table (defScope HeadT.s_check_table) := ⟨rfl, rfl, rfl, by decide +kernel, rfl, by decide +kernel, by decide +kernel⟩
theorem b_is_vector_of {P : Program} {w : World} {K : PySem.W.Frag} {mg : Str → Option Value} {base : Heap} (m_MOST_COLUMNS : ∃ t, mg "MOST_COLUMNS" = some (.int 4 t)) (m_MOST_ENTRY : ∃ t, mg "MOST_ENTRY" = some (.int 999 t)) (h_is_within : FnX P w K mg base "is_within" (defArgs HeadT.s_is_within) 2 ps_is_within F_is_within) (m_all : mg "all" = none) (m_isinstance : mg "isinstance" = none) (m_len : mg "len" = none) (m_tuple : mg "tuple" = none) : BodyOk P w K mg base 2 "is_vector_of" (defBody HeadT.s_is_vector_of) (defScope HeadT.s_is_vector_of) N_is_vector_of c_is_vector_of := by
  intro f cdv A outer s H E En hr hgd
  have nd : N_is_vector_of.Nodup := by decide +kernel
  have tk : Takes (cxOf (L2.CX P w) P w K mg base N_is_vector_of "is_vector_of" (defScope HeadT.s_is_vector_of) f cdv A outer s H E) (EX E) := takes_of rfl rfl rfl rfl
  have hp : PassesOwn (model P w) (cxOf (L2.CX P w) P w K mg base N_is_vector_of "is_vector_of" (defScope HeadT.s_is_vector_of) f cdv A outer s H E).A (cxOf (L2.CX P w) P w K mg base N_is_vector_of "is_vector_of" (defScope HeadT.s_is_vector_of) f cdv A outer s H E).env (cxOf (L2.CX P w) P w K mg base N_is_vector_of "is_vector_of" (defScope HeadT.s_is_vector_of) f cdv A outer s H E).xe := passes_of rfl
  delta c_is_vector_of
  try delta m_is_vector_of_1
  exact (cs_cons (cs_if (PMw.pt (pmw_or (pmt_not (pmt_val (pm_isi .tuple (by rfl) m_isinstance (pm_of (pv 0)) (by rfl) m_tuple ty_tuple))) (pmw_or1 (pmt_not (pmt_chain (f := iLe) (g := iLe) op_le op_le pm_int (b_len m_len (pma_cons (pm_of (pv 0)) pma_nil)) (pm_gint (by rfl) m_MOST_COLUMNS)))))) (cs_one (cs_ret pm_bl)) cs_nil) (cs_one (cs_ret (b_all rfl m_all (pma_cons (PMo.pm (pmo_lc (own := [("one", 1)]) rfl nd (pmi_seq (pm_of (pv 0))) (blkOk_by (by kernel_rfl)) (fun _ _ _ _ _ => (pg_name (i := 1) nd rfl (by first | exact Or.inl rfl | exact Or.inr rfl))) gok_name (fun _ _ _ _ _ => pmts_nil) (fun _ _ _ _ _ => (pm_fn1 h_is_within (hr.mono (by decide)) hgd takes_w0 (fun _ _ _ _ _ _ _ _ us ws h1 h2 => match us, ws, h1, h2 with | [_, _, _], [], _, _ => rfl) (by rfl) (pma_cons (pm_of (pv 1)) (pma_cons (pm_sub pm_int (pm_gint (by rfl) m_MOST_ENTRY)) (pma_cons (pm_gint (by rfl) m_MOST_ENTRY) pma_nil))))))) pma_nil)))))
theorem sc_is_vector_of : FnScope N_is_vector_of ps_is_vector_of (defScope HeadT.s_is_vector_of) := ⟨rfl, rfl, rfl, by decide +kernel, rfl, by decide +kernel, by decide +kernel⟩
theorem b_check_vector {P : Program} {w : World} {K : PySem.W.Frag} {mg : Str → Option Value} {base : Heap} (h_is_vector_of : FnX P w K mg base "is_vector_of" (defArgs HeadT.s_is_vector_of) 3 ps_is_vector_of F_is_vector_of) (m_len : mg "len" = none) : BodyOk P w K mg base 3 "check_vector" (defBody HeadT.s_check_vector) (defScope HeadT.s_check_vector) N_check_vector c_check_vector := by
  intro f cdv A outer s H E En hr hgd
  have nd : N_check_vector.Nodup := by decide +kernel
  have tk : Takes (cxOf (L2.CX P w) P w K mg base N_check_vector "check_vector" (defScope HeadT.s_check_vector) f cdv A outer s H E) (EX E) := takes_of rfl rfl rfl rfl
  have hp : PassesOwn (model P w) (cxOf (L2.CX P w) P w K mg base N_check_vector "check_vector" (defScope HeadT.s_check_vector) f cdv A outer s H E).A (cxOf (L2.CX P w) P w K mg base N_check_vector "check_vector" (defScope HeadT.s_check_vector) f cdv A outer s H E).env (cxOf (L2.CX P w) P w K mg base N_check_vector "check_vector" (defScope HeadT.s_check_vector) f cdv A outer s H E).xe := passes_of rfl
  delta c_check_vector
  exact (cs_one (cs_if (PMw.pt (pmw_or (pmt_not (pmt_val (pm_fn1 h_is_vector_of (hr.mono (by decide)) hgd tk (fun _ _ _ _ _ _ _ _ us ws h1 h2 => match us, ws, h1, h2 with | [_], [], _, _ => rfl) (by rfl) (pma_cons (pm_of (pv 0)) pma_nil)))) (pmw_or1 (pmt_ne (un_of hr) (b_len m_len (pma_cons (pm_of (pv 0)) pma_nil)) (pm_of (pv 1)))))) (cs_one cs_never) cs_nil))
theorem sc_check_vector : FnScope N_check_vector ps_check_vector (defScope HeadT.s_check_vector) := ⟨rfl, rfl, rfl, by decide +kernel, rfl, by decide +kernel, by decide +kernel⟩
theorem b_product_of {P : Program} {w : World} {K : PySem.W.Frag} {mg : Str → Option Value} {base : Heap} (m_sum : mg "sum" = none) (m_zip : mg "zip" = none) : BodyOk P w K mg base 0 "product_of" (defBody HeadT.s_product_of) (defScope HeadT.s_product_of) N_product_of c_product_of := by
  intro f cdv A outer s H E En hr hgd
  have nd : N_product_of.Nodup := by decide +kernel
  have tk : Takes (cxOf (L2.CX P w) P w K mg base N_product_of "product_of" (defScope HeadT.s_product_of) f cdv A outer s H E) (EX E) := takes_of rfl rfl rfl rfl
  have hp : PassesOwn (model P w) (cxOf (L2.CX P w) P w K mg base N_product_of "product_of" (defScope HeadT.s_product_of) f cdv A outer s H E).A (cxOf (L2.CX P w) P w K mg base N_product_of "product_of" (defScope HeadT.s_product_of) f cdv A outer s H E).env (cxOf (L2.CX P w) P w K mg base N_product_of "product_of" (defScope HeadT.s_product_of) f cdv A outer s H E).xe := passes_of rfl
  delta c_product_of
  try delta m_product_of_1
  exact (cs_one (cs_ret (b_sum rfl m_sum (pma_cons (PMo.pm (pmo_lc (own := [("near", 2), ("far", 3)]) rfl nd (pmi_zipS (by rfl) m_zip (pma_cons (pm_of (pv 0)) (pma_cons (pm_of (pv 1)) pma_nil))) (blkOk_by (by kernel_rfl)) (fun _ _ _ _ _ => (pg_tup rfl (pgs_cons (pg_name (i := 2) nd rfl (by first | exact Or.inl rfl | exact Or.inr rfl)) (pgs_cons (pg_name (i := 3) nd rfl (by first | exact Or.inl rfl | exact Or.inr rfl)) pgs_nil)))) (gok_tup (gsok_cons gok_name (gsok_cons gok_name gsok_nil)) (fs_len_cons (fs_len_cons fs_len_nil))) (fun _ _ _ _ _ => pmts_nil) (fun _ _ _ _ _ => (pm_mulX (pm_of (pv 2)) (pm_of (pv 3)))))) pma_nil))))
theorem sc_product_of : FnScope N_product_of ps_product_of (defScope HeadT.s_product_of) := ⟨rfl, rfl, rfl, by decide +kernel, rfl, by decide +kernel, by decide +kernel⟩
theorem b_turned_of {P : Program} {w : World} {K : PySem.W.Frag} {mg : Str → Option Value} {base : Heap} (m_len : mg "len" = none) (m_range : mg "range" = none) (m_tuple : mg "tuple" = none) : BodyOk P w K mg base 0 "turned_of" (defBody HeadT.s_turned_of) (defScope HeadT.s_turned_of) N_turned_of c_turned_of := by
  intro f cdv A outer s H E En hr hgd
  have nd : N_turned_of.Nodup := by decide +kernel
  have tk : Takes (cxOf (L2.CX P w) P w K mg base N_turned_of "turned_of" (defScope HeadT.s_turned_of) f cdv A outer s H E) (EX E) := takes_of rfl rfl rfl rfl
  have hp : PassesOwn (model P w) (cxOf (L2.CX P w) P w K mg base N_turned_of "turned_of" (defScope HeadT.s_turned_of) f cdv A outer s H E).A (cxOf (L2.CX P w) P w K mg base N_turned_of "turned_of" (defScope HeadT.s_turned_of) f cdv A outer s H E).env (cxOf (L2.CX P w) P w K mg base N_turned_of "turned_of" (defScope HeadT.s_turned_of) f cdv A outer s H E).xe := passes_of rfl
  delta c_turned_of
  try delta m_turned_of_2
  try delta m_turned_of_1
  exact (cs_one (cs_reto (pmo_lc (own := [("column", 1)]) rfl nd (pmi_range1 (by rfl) m_range (pma_cons (b_len m_len (pma_cons (pm_ixd (pm_of (pv 0)) pm_int) pma_nil)) pma_nil)) (blkOk_by (by kernel_rfl)) (fun _ _ _ _ _ => (pg_name (i := 1) nd rfl (by first | exact Or.inl rfl | exact Or.inr rfl))) gok_name (fun _ _ _ _ _ => pmts_nil) (fun _ _ _ _ _ => (b_tuple m_tuple (pma_cons (PMo.pm (pmo_lc (own := [("row", 2)]) rfl nd (pmi_seq (pm_of (pv 0))) (blkOk_by (by kernel_rfl)) (fun _ _ _ _ _ => (pg_name (i := 2) nd rfl (by first | exact Or.inl rfl | exact Or.inr rfl))) gok_name (fun _ _ _ _ _ => pmts_nil) (fun _ _ _ _ _ => (pm_ixd (pm_of (pv 2)) (pm_of (pv 1)))))) pma_nil))))))
theorem sc_turned_of : FnScope N_turned_of ps_turned_of (defScope HeadT.s_turned_of) := ⟨rfl, rfl, rfl, by decide +kernel, rfl, by decide +kernel, by decide +kernel⟩
theorem b_times_of {P : Program} {w : World} {K : PySem.W.Frag} {mg : Str → Option Value} {base : Heap} (h_product_of : FnX P w K mg base "product_of" (defArgs HeadT.s_product_of) 1 ps_product_of F_product_of) (m_tuple : mg "tuple" = none) : BodyOk P w K mg base 1 "times_of" (defBody HeadT.s_times_of) (defScope HeadT.s_times_of) N_times_of c_times_of := by
  intro f cdv A outer s H E En hr hgd
  have nd : N_times_of.Nodup := by decide +kernel
  have tk : Takes (cxOf (L2.CX P w) P w K mg base N_times_of "times_of" (defScope HeadT.s_times_of) f cdv A outer s H E) (EX E) := takes_of rfl rfl rfl rfl
  have hp : PassesOwn (model P w) (cxOf (L2.CX P w) P w K mg base N_times_of "times_of" (defScope HeadT.s_times_of) f cdv A outer s H E).A (cxOf (L2.CX P w) P w K mg base N_times_of "times_of" (defScope HeadT.s_times_of) f cdv A outer s H E).env (cxOf (L2.CX P w) P w K mg base N_times_of "times_of" (defScope HeadT.s_times_of) f cdv A outer s H E).xe := passes_of rfl
  delta c_times_of
  try delta m_times_of_1
  exact (cs_one (cs_ret (b_tuple m_tuple (pma_cons (PMo.pm (pmo_lc (own := [("row", 2)]) rfl nd (pmi_seq (pm_of (pv 0))) (blkOk_by (by kernel_rfl)) (fun _ _ _ _ _ => (pg_name (i := 2) nd rfl (by first | exact Or.inl rfl | exact Or.inr rfl))) gok_name (fun _ _ _ _ _ => pmts_nil) (fun _ _ _ _ _ => (pm_fn1 h_product_of (hr.mono (by decide)) hgd takes_w0 (fun _ _ _ _ _ _ _ _ us ws h1 h2 => match us, ws, h1, h2 with | [_, _], [], _, _ => rfl) (by rfl) (pma_cons (pm_of (pv 2)) (pma_cons (pm_of (pv 1)) pma_nil)))))) pma_nil))))
theorem sc_times_of : FnScope N_times_of ps_times_of (defScope HeadT.s_times_of) := ⟨rfl, rfl, rfl, by decide +kernel, rfl, by decide +kernel, by decide +kernel⟩
theorem b_combined_of {P : Program} {w : World} {K : PySem.W.Frag} {mg : Str → Option Value} {base : Heap} (h_times_of : FnX P w K mg base "times_of" (defArgs HeadT.s_times_of) 2 ps_times_of F_times_of) (h_turned_of : FnX P w K mg base "turned_of" (defArgs HeadT.s_turned_of) 1 ps_turned_of F_turned_of) : BodyOk P w K mg base 2 "combined_of" (defBody HeadT.s_combined_of) (defScope HeadT.s_combined_of) N_combined_of c_combined_of := by
  intro f cdv A outer s H E En hr hgd
  have nd : N_combined_of.Nodup := by decide +kernel
  have tk : Takes (cxOf (L2.CX P w) P w K mg base N_combined_of "combined_of" (defScope HeadT.s_combined_of) f cdv A outer s H E) (EX E) := takes_of rfl rfl rfl rfl
  have hp : PassesOwn (model P w) (cxOf (L2.CX P w) P w K mg base N_combined_of "combined_of" (defScope HeadT.s_combined_of) f cdv A outer s H E).A (cxOf (L2.CX P w) P w K mg base N_combined_of "combined_of" (defScope HeadT.s_combined_of) f cdv A outer s H E).env (cxOf (L2.CX P w) P w K mg base N_combined_of "combined_of" (defScope HeadT.s_combined_of) f cdv A outer s H E).xe := passes_of rfl
  delta c_combined_of
  exact (cs_one (cs_ret (pm_fn1 h_times_of (hr.mono (by decide)) hgd tk (fun _ _ _ _ _ _ _ _ us ws h1 h2 => match us, ws, h1, h2 with | [_, _], [], _, _ => rfl) (by rfl) (pma_cons (pm_fn1 h_turned_of (hr.mono (by decide)) hgd tk (fun _ _ _ _ _ _ _ _ us ws h1 h2 => match us, ws, h1, h2 with | [_], [], _, _ => rfl) (by rfl) (pma_cons (pm_of (pv 0)) pma_nil)) (pma_cons (pm_of (pv 1)) pma_nil)))))
theorem sc_combined_of : FnScope N_combined_of ps_combined_of (defScope HeadT.s_combined_of) := ⟨rfl, rfl, rfl, by decide +kernel, rfl, by decide +kernel, by decide +kernel⟩
theorem b_small {P : Program} {w : World} {K : PySem.W.Frag} {mg : Str → Option Value} {base : Heap} (m_MOST_NUMBER : ∃ t, mg "MOST_NUMBER" = some (.int 99 t)) (h_want_at_most : FnX P w K mg base "want_at_most" (defArgs HeadT.s_want_at_most) 1 ps_want_at_most F_want_at_most) (m_abs : mg "abs" = none) (m_max : mg "max" = none) : BodyOk P w K mg base 1 "small" (defBody HeadT.s_small) (defScope HeadT.s_small) N_small c_small := by
  intro f cdv A outer s H E En hr hgd
  have nd : N_small.Nodup := by decide +kernel
  have tk : Takes (cxOf (L2.CX P w) P w K mg base N_small "small" (defScope HeadT.s_small) f cdv A outer s H E) (EX E) := takes_of rfl rfl rfl rfl
  have hp : PassesOwn (model P w) (cxOf (L2.CX P w) P w K mg base N_small "small" (defScope HeadT.s_small) f cdv A outer s H E).A (cxOf (L2.CX P w) P w K mg base N_small "small" (defScope HeadT.s_small) f cdv A outer s H E).env (cxOf (L2.CX P w) P w K mg base N_small "small" (defScope HeadT.s_small) f cdv A outer s H E).xe := passes_of rfl
  delta c_small
  try delta b_small_2
  try delta m_small_1
  exact (cs_cons (cs_set (i := 1) nd rfl (by first | exact Or.inl rfl | exact Or.inr rfl) pm_int) (cs_cons (cs_for hp rfl (pmi_seq (pm_of (pv 0))) (pg_name (i := 2) nd rfl (by first | exact Or.inl rfl | exact Or.inr rfl)) tg_name (cs_one (cs_set (i := 1) nd rfl (by first | exact Or.inl rfl | exact Or.inr rfl) (b_max1 rfl m_max (pma_cons (pm_add (PMo.pm (pmo_lst (pma_cons (pm_of (pv 1)) pma_nil))) (PMo.pm (pmo_lc (own := [("one", 3)]) rfl nd (pmi_seq (pm_of (pv 2))) (blkOk_by (by kernel_rfl)) (fun _ _ _ _ _ => (pg_name (i := 3) nd rfl (by first | exact Or.inl rfl | exact Or.inr rfl))) gok_name (fun _ _ _ _ _ => pmts_nil) (fun _ _ _ _ _ => (b_abs m_abs (pma_cons (pm_of (pv 3)) pma_nil)))))) pma_nil))))) (cs_cons (cs_expr (pm_fn1 h_want_at_most (hr.mono (by decide)) hgd tk (fun _ _ _ _ _ _ _ _ us ws h1 h2 => match us, ws, h1, h2 with | [_, _, _], [], _, _ => rfl) (by rfl) (pma_cons pm_str (pma_cons (pm_gint (by rfl) m_MOST_NUMBER) (pma_cons (pm_of (pv 1)) pma_nil))))) (cs_one (cs_ret (pm_of (pv 0)))))))
theorem sc_small : FnScope N_small ps_small (defScope HeadT.s_small) := ⟨rfl, rfl, rfl, by decide +kernel, rfl, by decide +kernel, by decide +kernel⟩
theorem b_turned {P : Program} {w : World} {K : PySem.W.Frag} {mg : Str → Option Value} {base : Heap} (h_check_table : FnX P w K mg base "check_table" (defArgs HeadT.s_check_table) 5 ps_check_table F_check_table) (h_turned_of : FnX P w K mg base "turned_of" (defArgs HeadT.s_turned_of) 1 ps_turned_of F_turned_of) : BodyOk P w K mg base 5 "turned" (defBody HeadT.s_turned) (defScope HeadT.s_turned) N_turned c_turned := by
  intro f cdv A outer s H E En hr hgd
  have nd : N_turned.Nodup := by decide +kernel
  have tk : Takes (cxOf (L2.CX P w) P w K mg base N_turned "turned" (defScope HeadT.s_turned) f cdv A outer s H E) (EX E) := takes_of rfl rfl rfl rfl
  have hp : PassesOwn (model P w) (cxOf (L2.CX P w) P w K mg base N_turned "turned" (defScope HeadT.s_turned) f cdv A outer s H E).A (cxOf (L2.CX P w) P w K mg base N_turned "turned" (defScope HeadT.s_turned) f cdv A outer s H E).env (cxOf (L2.CX P w) P w K mg base N_turned "turned" (defScope HeadT.s_turned) f cdv A outer s H E).xe := passes_of rfl
  delta c_turned
  exact (cs_cons (cs_expr (pm_fn1 h_check_table (hr.mono (by decide)) hgd tk (fun _ _ _ _ _ _ _ _ us ws h1 h2 => match us, ws, h1, h2 with | [_], [], _, _ => rfl) (by rfl) (pma_cons (pm_of (pv 0)) pma_nil))) (cs_one (cs_reto (pmo_fn1 h_turned_of (hr.mono (by decide)) hgd tk (fun _ _ _ _ _ _ _ _ us ws h1 h2 => match us, ws, h1, h2 with | [_], [], _, _ => rfl) (by rfl) (pma_cons (pm_of (pv 0)) pma_nil)))))
theorem sc_turned : FnScope N_turned ps_turned (defScope HeadT.s_turned) := ⟨rfl, rfl, rfl, by decide +kernel, rfl, by decide +kernel, by decide +kernel⟩
theorem b_combined {P : Program} {w : World} {K : PySem.W.Frag} {mg : Str → Option Value} {base : Heap} (h_check_table : FnX P w K mg base "check_table" (defArgs HeadT.s_check_table) 5 ps_check_table F_check_table) (h_check_vector : FnX P w K mg base "check_vector" (defArgs HeadT.s_check_vector) 4 ps_check_vector F_check_vector) (h_combined_of : FnX P w K mg base "combined_of" (defArgs HeadT.s_combined_of) 3 ps_combined_of F_combined_of) (m_len : mg "len" = none) : BodyOk P w K mg base 5 "combined" (defBody HeadT.s_combined) (defScope HeadT.s_combined) N_combined c_combined := by
  intro f cdv A outer s H E En hr hgd
  have nd : N_combined.Nodup := by decide +kernel
  have tk : Takes (cxOf (L2.CX P w) P w K mg base N_combined "combined" (defScope HeadT.s_combined) f cdv A outer s H E) (EX E) := takes_of rfl rfl rfl rfl
  have hp : PassesOwn (model P w) (cxOf (L2.CX P w) P w K mg base N_combined "combined" (defScope HeadT.s_combined) f cdv A outer s H E).A (cxOf (L2.CX P w) P w K mg base N_combined "combined" (defScope HeadT.s_combined) f cdv A outer s H E).env (cxOf (L2.CX P w) P w K mg base N_combined "combined" (defScope HeadT.s_combined) f cdv A outer s H E).xe := passes_of rfl
  delta c_combined
  exact (cs_cons (cs_expr (pm_fn1 h_check_table (hr.mono (by decide)) hgd tk (fun _ _ _ _ _ _ _ _ us ws h1 h2 => match us, ws, h1, h2 with | [_], [], _, _ => rfl) (by rfl) (pma_cons (pm_of (pv 0)) pma_nil))) (cs_cons (cs_expr (pm_fn1 h_check_vector (hr.mono (by decide)) hgd tk (fun _ _ _ _ _ _ _ _ us ws h1 h2 => match us, ws, h1, h2 with | [_, _], [], _, _ => rfl) (by rfl) (pma_cons (pm_of (pv 1)) (pma_cons (b_len m_len (pma_cons (pm_of (pv 0)) pma_nil)) pma_nil)))) (cs_one (cs_ret (pm_fn1 h_combined_of (hr.mono (by decide)) hgd tk (fun _ _ _ _ _ _ _ _ us ws h1 h2 => match us, ws, h1, h2 with | [_, _], [], _, _ => rfl) (by rfl) (pma_cons (pm_of (pv 0)) (pma_cons (pm_of (pv 1)) pma_nil)))))))
theorem sc_combined : FnScope N_combined ps_combined (defScope HeadT.s_combined) := ⟨rfl, rfl, rfl, by decide +kernel, rfl, by decide +kernel, by decide +kernel⟩
theorem b_times_table {P : Program} {w : World} {K : PySem.W.Frag} {mg : Str → Option Value} {base : Heap} (h_check_table : FnX P w K mg base "check_table" (defArgs HeadT.s_check_table) 5 ps_check_table F_check_table) (h_combined_of : FnX P w K mg base "combined_of" (defArgs HeadT.s_combined_of) 3 ps_combined_of F_combined_of) (h_small : FnX P w K mg base "small" (defArgs HeadT.s_small) 2 ps_small F_small) (m_len : mg "len" = none) : BodyOk P w K mg base 5 "times_table" (defBody HeadT.s_times_table) (defScope HeadT.s_times_table) N_times_table c_times_table := by
  intro f cdv A outer s H E En hr hgd
  have nd : N_times_table.Nodup := by decide +kernel
  have tk : Takes (cxOf (L2.CX P w) P w K mg base N_times_table "times_table" (defScope HeadT.s_times_table) f cdv A outer s H E) (EX E) := takes_of rfl rfl rfl rfl
  have hp : PassesOwn (model P w) (cxOf (L2.CX P w) P w K mg base N_times_table "times_table" (defScope HeadT.s_times_table) f cdv A outer s H E).A (cxOf (L2.CX P w) P w K mg base N_times_table "times_table" (defScope HeadT.s_times_table) f cdv A outer s H E).env (cxOf (L2.CX P w) P w K mg base N_times_table "times_table" (defScope HeadT.s_times_table) f cdv A outer s H E).xe := passes_of rfl
  delta c_times_table
  try delta m_times_table_1
  exact (cs_cons (cs_expr (pm_fn1 h_check_table (hr.mono (by decide)) hgd tk (fun _ _ _ _ _ _ _ _ us ws h1 h2 => match us, ws, h1, h2 with | [_], [], _, _ => rfl) (by rfl) (pma_cons (pm_of (pv 0)) pma_nil))) (cs_cons (cs_expr (pm_fn1 h_check_table (hr.mono (by decide)) hgd tk (fun _ _ _ _ _ _ _ _ us ws h1 h2 => match us, ws, h1, h2 with | [_], [], _, _ => rfl) (by rfl) (pma_cons (pm_of (pv 1)) pma_nil))) (cs_cons (cs_if (pmt_ne (un_of hr) (b_len m_len (pma_cons (pm_ixd (pm_of (pv 0)) pm_int) pma_nil)) (b_len m_len (pma_cons (pm_of (pv 1)) pma_nil))) (cs_one cs_never) cs_nil) (cs_one (cs_ret (pm_fn1 h_small (hr.mono (by decide)) hgd tk (fun _ _ _ _ _ _ _ _ us ws h1 h2 => match us, ws, h1, h2 with | [_], [], _, _ => rfl) (by rfl) (pma_cons (PMo.pm (pmo_lc (own := [("row", 2)]) rfl nd (pmi_seq (pm_of (pv 0))) (blkOk_by (by kernel_rfl)) (fun _ _ _ _ _ => (pg_name (i := 2) nd rfl (by first | exact Or.inl rfl | exact Or.inr rfl))) gok_name (fun _ _ _ _ _ => pmts_nil) (fun _ _ _ _ _ => (pm_fn1 h_combined_of (hr.mono (by decide)) hgd takes_w0 (fun _ _ _ _ _ _ _ _ us ws h1 h2 => match us, ws, h1, h2 with | [_, _], [], _, _ => rfl) (by rfl) (pma_cons (pm_of (pv 1)) (pma_cons (pm_of (pv 2)) pma_nil)))))) pma_nil)))))))
theorem sc_times_table : FnScope N_times_table ps_times_table (defScope HeadT.s_times_table) := ⟨rfl, rfl, rfl, by decide +kernel, rfl, by decide +kernel, by decide +kernel⟩
theorem b_are_integers_of {P : Program} {w : World} {K : PySem.W.Frag} {mg : Str → Option Value} {base : Heap} (h_is_integer : FnX P w K mg base "is_integer" (defArgs HeadT.s_is_integer) 1 ps_is_integer F_is_integer) (m_all : mg "all" = none) (m_isinstance : mg "isinstance" = none) (m_len : mg "len" = none) (m_tuple : mg "tuple" = none) : BodyOk P w K mg base 1 "are_integers_of" (defBody HeadT.s_are_integers_of) (defScope HeadT.s_are_integers_of) N_are_integers_of c_are_integers_of := by
  intro f cdv A outer s H E En hr hgd
  have nd : N_are_integers_of.Nodup := by decide +kernel
  have tk : Takes (cxOf (L2.CX P w) P w K mg base N_are_integers_of "are_integers_of" (defScope HeadT.s_are_integers_of) f cdv A outer s H E) (EX E) := takes_of rfl rfl rfl rfl
  have hp : PassesOwn (model P w) (cxOf (L2.CX P w) P w K mg base N_are_integers_of "are_integers_of" (defScope HeadT.s_are_integers_of) f cdv A outer s H E).A (cxOf (L2.CX P w) P w K mg base N_are_integers_of "are_integers_of" (defScope HeadT.s_are_integers_of) f cdv A outer s H E).env (cxOf (L2.CX P w) P w K mg base N_are_integers_of "are_integers_of" (defScope HeadT.s_are_integers_of) f cdv A outer s H E).xe := passes_of rfl
  delta c_are_integers_of
  try delta m_are_integers_of_1
  exact (cs_one (cs_ret (pm_and (pm_isi .tuple (by rfl) m_isinstance (pm_of (pv 1)) (by rfl) m_tuple ty_tuple) (pm_and (pm_eq (un_of hr) (b_len m_len (pma_cons (pm_of (pv 1)) pma_nil)) (pm_of (pv 0))) (pm_one (b_all rfl m_all (pma_cons (PMo.pm (pmo_lc (own := [("one", 2)]) rfl nd (pmi_seq (pm_of (pv 1))) (blkOk_by (by kernel_rfl)) (fun _ _ _ _ _ => (pg_name (i := 2) nd rfl (by first | exact Or.inl rfl | exact Or.inr rfl))) gok_name (fun _ _ _ _ _ => pmts_nil) (fun _ _ _ _ _ => (pm_fn1 h_is_integer (hr.mono (by decide)) hgd takes_w0 (fun _ _ _ _ _ _ _ _ us ws h1 h2 => match us, ws, h1, h2 with | [_], [], _, _ => rfl) (by rfl) (pma_cons (pm_of (pv 2)) pma_nil))))) pma_nil)))))))
theorem sc_are_integers_of : FnScope N_are_integers_of ps_are_integers_of (defScope HeadT.s_are_integers_of) := ⟨rfl, rfl, rfl, by decide +kernel, rfl, by decide +kernel, by decide +kernel⟩
theorem b_is_chain_of {P : Program} {w : World} {K : PySem.W.Frag} {mg : Str → Option Value} {base : Heap} (h_combined_of : FnX P w K mg base "combined_of" (defArgs HeadT.s_combined_of) 3 ps_combined_of F_combined_of) (h_is_table_of : FnX P w K mg base "is_table_of" (defArgs HeadT.s_is_table_of) 4 ps_is_table_of F_is_table_of) (m_all : mg "all" = none) (m_any : mg "any" = none) (m_isinstance : mg "isinstance" = none) (m_len : mg "len" = none) (m_tuple : mg "tuple" = none) : BodyOk P w K mg base 4 "is_chain_of" (defBody HeadT.s_is_chain_of) (defScope HeadT.s_is_chain_of) N_is_chain_of c_is_chain_of := by
  intro f cdv A outer s H E En hr hgd
  have nd : N_is_chain_of.Nodup := by decide +kernel
  have tk : Takes (cxOf (L2.CX P w) P w K mg base N_is_chain_of "is_chain_of" (defScope HeadT.s_is_chain_of) f cdv A outer s H E) (EX E) := takes_of rfl rfl rfl rfl
  have hp : PassesOwn (model P w) (cxOf (L2.CX P w) P w K mg base N_is_chain_of "is_chain_of" (defScope HeadT.s_is_chain_of) f cdv A outer s H E).A (cxOf (L2.CX P w) P w K mg base N_is_chain_of "is_chain_of" (defScope HeadT.s_is_chain_of) f cdv A outer s H E).env (cxOf (L2.CX P w) P w K mg base N_is_chain_of "is_chain_of" (defScope HeadT.s_is_chain_of) f cdv A outer s H E).xe := passes_of rfl
  delta c_is_chain_of
  try delta m_is_chain_of_2
  try delta m_is_chain_of_1
  exact (cs_cons (cs_if (PMw.pt (pmw_or (pmt_not (pmt_val (pm_isi .tuple (by rfl) m_isinstance (pm_of (pv 0)) (by rfl) m_tuple ty_tuple))) (pmw_or (pmt_ne (un_of hr) (b_len m_len (pma_cons (pm_of (pv 0)) pma_nil)) pm_int) (pmw_or1 (pmt_not (pmt_val (b_all rfl m_all (pma_cons (PMo.pm (pmo_lc (own := [("one", 3)]) rfl nd (pmi_seq (pm_of (pv 0))) (blkOk_by (by kernel_rfl)) (fun _ _ _ _ _ => (pg_name (i := 3) nd rfl (by first | exact Or.inl rfl | exact Or.inr rfl))) gok_name (fun _ _ _ _ _ => pmts_nil) (fun _ _ _ _ _ => (pm_fn1 h_is_table_of (hr.mono (by decide)) hgd takes_w0 (fun _ _ _ _ _ _ _ _ us ws h1 h2 => match us, ws, h1, h2 with | [_], [], _, _ => rfl) (by rfl) (pma_cons (pm_of (pv 3)) pma_nil))))) pma_nil)))))))) (cs_one (cs_ret pm_bl)) cs_nil) (cs_cons (cs_asgT (ps_asg (PM.pe (pm_of (pv 0))) (pg_tup rfl (pgs_cons (pg_name (i := 1) nd rfl (by first | exact Or.inl rfl | exact Or.inr rfl)) (pgs_cons (pg_name (i := 2) nd rfl (by first | exact Or.inl rfl | exact Or.inr rfl)) pgs_nil)))) (tg_tup (tgs_cons tg_name (tgs_cons tg_name tgs_nil)))) (cs_one (cs_ret (pm_and (pm_eq (un_of hr) (b_len m_len (pma_cons (pm_ixd (pm_of (pv 1)) pm_int) pma_nil)) (b_len m_len (pma_cons (pm_of (pv 2)) pma_nil))) (pm_one (pm_not (b_anyX rfl m_any (pma_cons (PMo.pm (pmo_lc (own := [("face", 4)]) rfl nd (pmi_seq (pm_of (pv 1))) (blkOk_by (by kernel_rfl)) (fun _ _ _ _ _ => (pg_name (i := 4) nd rfl (by first | exact Or.inl rfl | exact Or.inr rfl))) gok_name (fun _ _ _ _ _ => pmts_nil) (fun _ _ _ _ _ => (b_anyX rfl m_any (pma_cons (pm_fn1 h_combined_of (hr.mono (by decide)) hgd takes_w0 (fun _ _ _ _ _ _ _ _ us ws h1 h2 => match us, ws, h1, h2 with | [_, _], [], _, _ => rfl) (by rfl) (pma_cons (pm_of (pv 2)) (pma_cons (pm_of (pv 4)) pma_nil))) pma_nil))))) pma_nil)))))))))
theorem sc_is_chain_of : FnScope N_is_chain_of ps_is_chain_of (defScope HeadT.s_is_chain_of) := ⟨rfl, rfl, rfl, by decide +kernel, rfl, by decide +kernel, by decide +kernel⟩
theorem b_check_chain {P : Program} {w : World} {K : PySem.W.Frag} {mg : Str → Option Value} {base : Heap} (h_is_chain_of : FnX P w K mg base "is_chain_of" (defArgs HeadT.s_is_chain_of) 5 ps_is_chain_of F_is_chain_of) : BodyOk P w K mg base 5 "check_chain" (defBody HeadT.s_check_chain) (defScope HeadT.s_check_chain) N_check_chain c_check_chain := by
  intro f cdv A outer s H E En hr hgd
  have nd : N_check_chain.Nodup := by decide +kernel
  have tk : Takes (cxOf (L2.CX P w) P w K mg base N_check_chain "check_chain" (defScope HeadT.s_check_chain) f cdv A outer s H E) (EX E) := takes_of rfl rfl rfl rfl
  have hp : PassesOwn (model P w) (cxOf (L2.CX P w) P w K mg base N_check_chain "check_chain" (defScope HeadT.s_check_chain) f cdv A outer s H E).A (cxOf (L2.CX P w) P w K mg base N_check_chain "check_chain" (defScope HeadT.s_check_chain) f cdv A outer s H E).env (cxOf (L2.CX P w) P w K mg base N_check_chain "check_chain" (defScope HeadT.s_check_chain) f cdv A outer s H E).xe := passes_of rfl
  delta c_check_chain
  exact (cs_one (cs_if (pmt_not (pmt_val (pm_fn1 h_is_chain_of (hr.mono (by decide)) hgd tk (fun _ _ _ _ _ _ _ _ us ws h1 h2 => match us, ws, h1, h2 with | [_], [], _, _ => rfl) (by rfl) (pma_cons (pm_of (pv 0)) pma_nil)))) (cs_one cs_never) cs_nil))
theorem sc_check_chain : FnScope N_check_chain ps_check_chain (defScope HeadT.s_check_chain) := ⟨rfl, rfl, rfl, by decide +kernel, rfl, by decide +kernel, by decide +kernel⟩
theorem b_check_lines {P : Program} {w : World} {K : PySem.W.Frag} {mg : Str → Option Value} {base : Heap} (h_is_vector_of : FnX P w K mg base "is_vector_of" (defArgs HeadT.s_is_vector_of) 3 ps_is_vector_of F_is_vector_of) (m_len : mg "len" = none) : BodyOk P w K mg base 3 "check_lines" (defBody HeadT.s_check_lines) (defScope HeadT.s_check_lines) N_check_lines c_check_lines := by
  intro f cdv A outer s H E En hr hgd
  have nd : N_check_lines.Nodup := by decide +kernel
  have tk : Takes (cxOf (L2.CX P w) P w K mg base N_check_lines "check_lines" (defScope HeadT.s_check_lines) f cdv A outer s H E) (EX E) := takes_of rfl rfl rfl rfl
  have hp : PassesOwn (model P w) (cxOf (L2.CX P w) P w K mg base N_check_lines "check_lines" (defScope HeadT.s_check_lines) f cdv A outer s H E).A (cxOf (L2.CX P w) P w K mg base N_check_lines "check_lines" (defScope HeadT.s_check_lines) f cdv A outer s H E).env (cxOf (L2.CX P w) P w K mg base N_check_lines "check_lines" (defScope HeadT.s_check_lines) f cdv A outer s H E).xe := passes_of rfl
  delta c_check_lines
  exact (cs_one (cs_if (PMw.pt (pmw_or (pmt_not (pmt_val (pm_fn1 h_is_vector_of (hr.mono (by decide)) hgd tk (fun _ _ _ _ _ _ _ _ us ws h1 h2 => match us, ws, h1, h2 with | [_], [], _, _ => rfl) (by rfl) (pma_cons (pm_of (pv 1)) pma_nil)))) (pmw_or1 (pmt_ne (un_of hr) (b_len m_len (pma_cons (pm_of (pv 1)) pma_nil)) (b_len m_len (pma_cons (pm_ixd (pm_of (pv 0)) pm_int) pma_nil)))))) (cs_one cs_never) cs_nil))
theorem sc_check_lines : FnScope N_check_lines ps_check_lines (defScope HeadT.s_check_lines) := ⟨rfl, rfl, rfl, by decide +kernel, rfl, by decide +kernel, by decide +kernel⟩
theorem b_is_round_of {P : Program} {w : World} {K : PySem.W.Frag} {mg : Str → Option Value} {base : Heap} (h_combined_of : FnX P w K mg base "combined_of" (defArgs HeadT.s_combined_of) 3 ps_combined_of F_combined_of) (m_any : mg "any" = none) : BodyOk P w K mg base 3 "is_round_of" (defBody HeadT.s_is_round_of) (defScope HeadT.s_is_round_of) N_is_round_of c_is_round_of := by
  intro f cdv A outer s H E En hr hgd
  have nd : N_is_round_of.Nodup := by decide +kernel
  have tk : Takes (cxOf (L2.CX P w) P w K mg base N_is_round_of "is_round_of" (defScope HeadT.s_is_round_of) f cdv A outer s H E) (EX E) := takes_of rfl rfl rfl rfl
  have hp : PassesOwn (model P w) (cxOf (L2.CX P w) P w K mg base N_is_round_of "is_round_of" (defScope HeadT.s_is_round_of) f cdv A outer s H E).A (cxOf (L2.CX P w) P w K mg base N_is_round_of "is_round_of" (defScope HeadT.s_is_round_of) f cdv A outer s H E).env (cxOf (L2.CX P w) P w K mg base N_is_round_of "is_round_of" (defScope HeadT.s_is_round_of) f cdv A outer s H E).xe := passes_of rfl
  delta c_is_round_of
  exact (cs_one (cs_ret (pm_not (b_anyX rfl m_any (pma_cons (pm_fn1 h_combined_of (hr.mono (by decide)) hgd tk (fun _ _ _ _ _ _ _ _ us ws h1 h2 => match us, ws, h1, h2 with | [_, _], [], _, _ => rfl) (by rfl) (pma_cons (pm_ixd (pm_of (pv 0)) pm_int) (pma_cons (pm_of (pv 1)) pma_nil))) pma_nil)))))
theorem sc_is_round_of : FnScope N_is_round_of ps_is_round_of (defScope HeadT.s_is_round_of) := ⟨rfl, rfl, rfl, by decide +kernel, rfl, by decide +kernel, by decide +kernel⟩
theorem b_is_chain {P : Program} {w : World} {K : PySem.W.Frag} {mg : Str → Option Value} {base : Heap} (h_is_chain_of : FnX P w K mg base "is_chain_of" (defArgs HeadT.s_is_chain_of) 5 ps_is_chain_of F_is_chain_of) : BodyOk P w K mg base 5 "is_chain" (defBody HeadT.s_is_chain) (defScope HeadT.s_is_chain) N_is_chain c_is_chain := by
  intro f cdv A outer s H E En hr hgd
  have nd : N_is_chain.Nodup := by decide +kernel
  have tk : Takes (cxOf (L2.CX P w) P w K mg base N_is_chain "is_chain" (defScope HeadT.s_is_chain) f cdv A outer s H E) (EX E) := takes_of rfl rfl rfl rfl
  have hp : PassesOwn (model P w) (cxOf (L2.CX P w) P w K mg base N_is_chain "is_chain" (defScope HeadT.s_is_chain) f cdv A outer s H E).A (cxOf (L2.CX P w) P w K mg base N_is_chain "is_chain" (defScope HeadT.s_is_chain) f cdv A outer s H E).env (cxOf (L2.CX P w) P w K mg base N_is_chain "is_chain" (defScope HeadT.s_is_chain) f cdv A outer s H E).xe := passes_of rfl
  delta c_is_chain
  exact (cs_one (cs_ret (pm_fn1 h_is_chain_of (hr.mono (by decide)) hgd tk (fun _ _ _ _ _ _ _ _ us ws h1 h2 => match us, ws, h1, h2 with | [_], [], _, _ => rfl) (by rfl) (pma_cons (pm_of (pv 0)) pma_nil))))
theorem sc_is_chain : FnScope N_is_chain ps_is_chain (defScope HeadT.s_is_chain) := ⟨rfl, rfl, rfl, by decide +kernel, rfl, by decide +kernel, by decide +kernel⟩
theorem b_ends_of {P : Program} {w : World} {K : PySem.W.Frag} {mg : Str → Option Value} {base : Heap} (h_check_chain : FnX P w K mg base "check_chain" (defArgs HeadT.s_check_chain) 6 ps_check_chain F_check_chain) (h_check_lines : FnX P w K mg base "check_lines" (defArgs HeadT.s_check_lines) 4 ps_check_lines F_check_lines) (h_combined_of : FnX P w K mg base "combined_of" (defArgs HeadT.s_combined_of) 3 ps_combined_of F_combined_of) : BodyOk P w K mg base 6 "ends_of" (defBody HeadT.s_ends_of) (defScope HeadT.s_ends_of) N_ends_of c_ends_of := by
  intro f cdv A outer s H E En hr hgd
  have nd : N_ends_of.Nodup := by decide +kernel
  have tk : Takes (cxOf (L2.CX P w) P w K mg base N_ends_of "ends_of" (defScope HeadT.s_ends_of) f cdv A outer s H E) (EX E) := takes_of rfl rfl rfl rfl
  have hp : PassesOwn (model P w) (cxOf (L2.CX P w) P w K mg base N_ends_of "ends_of" (defScope HeadT.s_ends_of) f cdv A outer s H E).A (cxOf (L2.CX P w) P w K mg base N_ends_of "ends_of" (defScope HeadT.s_ends_of) f cdv A outer s H E).env (cxOf (L2.CX P w) P w K mg base N_ends_of "ends_of" (defScope HeadT.s_ends_of) f cdv A outer s H E).xe := passes_of rfl
  delta c_ends_of
  exact (cs_cons (cs_expr (pm_fn1 h_check_chain (hr.mono (by decide)) hgd tk (fun _ _ _ _ _ _ _ _ us ws h1 h2 => match us, ws, h1, h2 with | [_], [], _, _ => rfl) (by rfl) (pma_cons (pm_of (pv 0)) pma_nil))) (cs_cons (cs_expr (pm_fn1 h_check_lines (hr.mono (by decide)) hgd tk (fun _ _ _ _ _ _ _ _ us ws h1 h2 => match us, ws, h1, h2 with | [_, _], [], _, _ => rfl) (by rfl) (pma_cons (pm_of (pv 0)) (pma_cons (pm_of (pv 1)) pma_nil)))) (cs_one (cs_ret (pm_fn1 h_combined_of (hr.mono (by decide)) hgd tk (fun _ _ _ _ _ _ _ _ us ws h1 h2 => match us, ws, h1, h2 with | [_, _], [], _, _ => rfl) (by rfl) (pma_cons (pm_ixd (pm_of (pv 0)) pm_int) (pma_cons (pm_of (pv 1)) pma_nil)))))))
theorem sc_ends_of : FnScope N_ends_of ps_ends_of (defScope HeadT.s_ends_of) := ⟨rfl, rfl, rfl, by decide +kernel, rfl, by decide +kernel, by decide +kernel⟩
theorem b_rim {P : Program} {w : World} {K : PySem.W.Frag} {mg : Str → Option Value} {base : Heap} (h_check_chain : FnX P w K mg base "check_chain" (defArgs HeadT.s_check_chain) 6 ps_check_chain F_check_chain) (h_combined_of : FnX P w K mg base "combined_of" (defArgs HeadT.s_combined_of) 3 ps_combined_of F_combined_of) (h_is_vector_of : FnX P w K mg base "is_vector_of" (defArgs HeadT.s_is_vector_of) 3 ps_is_vector_of F_is_vector_of) (m_len : mg "len" = none) : BodyOk P w K mg base 6 "rim" (defBody HeadT.s_rim) (defScope HeadT.s_rim) N_rim c_rim := by
  intro f cdv A outer s H E En hr hgd
  have nd : N_rim.Nodup := by decide +kernel
  have tk : Takes (cxOf (L2.CX P w) P w K mg base N_rim "rim" (defScope HeadT.s_rim) f cdv A outer s H E) (EX E) := takes_of rfl rfl rfl rfl
  have hp : PassesOwn (model P w) (cxOf (L2.CX P w) P w K mg base N_rim "rim" (defScope HeadT.s_rim) f cdv A outer s H E).A (cxOf (L2.CX P w) P w K mg base N_rim "rim" (defScope HeadT.s_rim) f cdv A outer s H E).env (cxOf (L2.CX P w) P w K mg base N_rim "rim" (defScope HeadT.s_rim) f cdv A outer s H E).xe := passes_of rfl
  delta c_rim
  exact (cs_cons (cs_expr (pm_fn1 h_check_chain (hr.mono (by decide)) hgd tk (fun _ _ _ _ _ _ _ _ us ws h1 h2 => match us, ws, h1, h2 with | [_], [], _, _ => rfl) (by rfl) (pma_cons (pm_of (pv 0)) pma_nil))) (cs_cons (cs_if (PMw.pt (pmw_or (pmt_not (pmt_val (pm_fn1 h_is_vector_of (hr.mono (by decide)) hgd tk (fun _ _ _ _ _ _ _ _ us ws h1 h2 => match us, ws, h1, h2 with | [_], [], _, _ => rfl) (by rfl) (pma_cons (pm_of (pv 1)) pma_nil)))) (pmw_or1 (pmt_ne (un_of hr) (b_len m_len (pma_cons (pm_of (pv 1)) pma_nil)) (b_len m_len (pma_cons (pm_ixd (pm_of (pv 0)) pm_int) pma_nil)))))) (cs_one cs_never) cs_nil) (cs_one (cs_ret (pm_fn1 h_combined_of (hr.mono (by decide)) hgd tk (fun _ _ _ _ _ _ _ _ us ws h1 h2 => match us, ws, h1, h2 with | [_, _], [], _, _ => rfl) (by rfl) (pma_cons (pm_ixd (pm_of (pv 0)) pm_int) (pma_cons (pm_of (pv 1)) pma_nil)))))))
theorem sc_rim : FnScope N_rim ps_rim (defScope HeadT.s_rim) := ⟨rfl, rfl, rfl, by decide +kernel, rfl, by decide +kernel, by decide +kernel⟩
theorem b_is_round {P : Program} {w : World} {K : PySem.W.Frag} {mg : Str → Option Value} {base : Heap} (h_are_integers_of : FnX P w K mg base "are_integers_of" (defArgs HeadT.s_are_integers_of) 2 ps_are_integers_of F_are_integers_of) (h_check_chain : FnX P w K mg base "check_chain" (defArgs HeadT.s_check_chain) 6 ps_check_chain F_check_chain) (h_is_round_of : FnX P w K mg base "is_round_of" (defArgs HeadT.s_is_round_of) 4 ps_is_round_of F_is_round_of) (m_len : mg "len" = none) : BodyOk P w K mg base 6 "is_round" (defBody HeadT.s_is_round) (defScope HeadT.s_is_round) N_is_round c_is_round := by
  intro f cdv A outer s H E En hr hgd
  have nd : N_is_round.Nodup := by decide +kernel
  have tk : Takes (cxOf (L2.CX P w) P w K mg base N_is_round "is_round" (defScope HeadT.s_is_round) f cdv A outer s H E) (EX E) := takes_of rfl rfl rfl rfl
  have hp : PassesOwn (model P w) (cxOf (L2.CX P w) P w K mg base N_is_round "is_round" (defScope HeadT.s_is_round) f cdv A outer s H E).A (cxOf (L2.CX P w) P w K mg base N_is_round "is_round" (defScope HeadT.s_is_round) f cdv A outer s H E).env (cxOf (L2.CX P w) P w K mg base N_is_round "is_round" (defScope HeadT.s_is_round) f cdv A outer s H E).xe := passes_of rfl
  delta c_is_round
  exact (cs_cons (cs_expr (pm_fn1 h_check_chain (hr.mono (by decide)) hgd tk (fun _ _ _ _ _ _ _ _ us ws h1 h2 => match us, ws, h1, h2 with | [_], [], _, _ => rfl) (by rfl) (pma_cons (pm_of (pv 0)) pma_nil))) (cs_one (cs_ret (pm_and (pm_fn1 h_are_integers_of (hr.mono (by decide)) hgd tk (fun _ _ _ _ _ _ _ _ us ws h1 h2 => match us, ws, h1, h2 with | [_, _], [], _, _ => rfl) (by rfl) (pma_cons (b_len m_len (pma_cons (pm_ixd (pm_of (pv 0)) pm_int) pma_nil)) (pma_cons (pm_of (pv 1)) pma_nil))) (pm_one (pm_fn1 h_is_round_of (hr.mono (by decide)) hgd tk (fun _ _ _ _ _ _ _ _ us ws h1 h2 => match us, ws, h1, h2 with | [_, _], [], _, _ => rfl) (by rfl) (pma_cons (pm_of (pv 0)) (pma_cons (pm_of (pv 1)) pma_nil))))))))
theorem sc_is_round : FnScope N_is_round ps_is_round (defScope HeadT.s_is_round) := ⟨rfl, rfl, rfl, by decide +kernel, rfl, by decide +kernel, by decide +kernel⟩
theorem b_turned_chain {P : Program} {w : World} {K : PySem.W.Frag} {mg : Str → Option Value} {base : Heap} (h_check_chain : FnX P w K mg base "check_chain" (defArgs HeadT.s_check_chain) 6 ps_check_chain F_check_chain) (h_turned_of : FnX P w K mg base "turned_of" (defArgs HeadT.s_turned_of) 1 ps_turned_of F_turned_of) : BodyOk P w K mg base 6 "turned_chain" (defBody HeadT.s_turned_chain) (defScope HeadT.s_turned_chain) N_turned_chain c_turned_chain := by
  intro f cdv A outer s H E En hr hgd
  have nd : N_turned_chain.Nodup := by decide +kernel
  have tk : Takes (cxOf (L2.CX P w) P w K mg base N_turned_chain "turned_chain" (defScope HeadT.s_turned_chain) f cdv A outer s H E) (EX E) := takes_of rfl rfl rfl rfl
  have hp : PassesOwn (model P w) (cxOf (L2.CX P w) P w K mg base N_turned_chain "turned_chain" (defScope HeadT.s_turned_chain) f cdv A outer s H E).A (cxOf (L2.CX P w) P w K mg base N_turned_chain "turned_chain" (defScope HeadT.s_turned_chain) f cdv A outer s H E).env (cxOf (L2.CX P w) P w K mg base N_turned_chain "turned_chain" (defScope HeadT.s_turned_chain) f cdv A outer s H E).xe := passes_of rfl
  delta c_turned_chain
  exact (cs_cons (cs_expr (pm_fn1 h_check_chain (hr.mono (by decide)) hgd tk (fun _ _ _ _ _ _ _ _ us ws h1 h2 => match us, ws, h1, h2 with | [_], [], _, _ => rfl) (by rfl) (pma_cons (pm_of (pv 0)) pma_nil))) (cs_one (cs_ret (pm_tup (pma_cons (pm_fn1 h_turned_of (hr.mono (by decide)) hgd tk (fun _ _ _ _ _ _ _ _ us ws h1 h2 => match us, ws, h1, h2 with | [_], [], _, _ => rfl) (by rfl) (pma_cons (pm_ixd (pm_of (pv 0)) pm_int) pma_nil)) (pma_cons (pm_fn1 h_turned_of (hr.mono (by decide)) hgd tk (fun _ _ _ _ _ _ _ _ us ws h1 h2 => match us, ws, h1, h2 with | [_], [], _, _ => rfl) (by rfl) (pma_cons (pm_ixd (pm_of (pv 0)) pm_int) pma_nil)) pma_nil))))))
theorem sc_turned_chain : FnScope N_turned_chain ps_turned_chain (defScope HeadT.s_turned_chain) := ⟨rfl, rfl, rfl, by decide +kernel, rfl, by decide +kernel, by decide +kernel⟩
theorem b__law_pot {P : Program} {w : World} {K : PySem.W.Frag} {mg : Str → Option Value} {base : Heap} (m_abs : mg "abs" = none) (m_int : mg "int" = none) (m_len : mg "len" = none) (m_max : mg "max" = none) : BodyOk P w K mg base 0 "_law_pot" (defBody HeadT.s__law_pot) (defScope HeadT.s__law_pot) N__law_pot c__law_pot := by
  intro f cdv A outer s H E En hr hgd
  have nd : N__law_pot.Nodup := by decide +kernel
  have tk : Takes (cxOf (L2.CX P w) P w K mg base N__law_pot "_law_pot" (defScope HeadT.s__law_pot) f cdv A outer s H E) (EX E) := takes_of rfl rfl rfl rfl
  have hp : PassesOwn (model P w) (cxOf (L2.CX P w) P w K mg base N__law_pot "_law_pot" (defScope HeadT.s__law_pot) f cdv A outer s H E).A (cxOf (L2.CX P w) P w K mg base N__law_pot "_law_pot" (defScope HeadT.s__law_pot) f cdv A outer s H E).env (cxOf (L2.CX P w) P w K mg base N__law_pot "_law_pot" (defScope HeadT.s__law_pot) f cdv A outer s H E).xe := passes_of rfl
  delta c__law_pot
  exact (cs_cons (cs_set (i := 2) nd rfl (by first | exact Or.inl rfl | exact Or.inr rfl) (pm_if (pmt_lt (pm_of (pv 1)) (b_len m_len (pma_cons (pm_of (pv 0)) pma_nil))) (b_abs m_abs (pma_cons (pm_ixd (pm_of (pv 0)) (pm_of (pv 1))) pma_nil)) (pm_add (pm_mul pm_int (pm_of (pv 1))) pm_int))) (cs_one (cs_retpot (pma_cons (b_max2 rfl m_max (pma_cons pm_int (pma_cons (pm_sub (pm_of (pv 2)) (pm_pow pm_int pm_int)) pma_nil))) (pma_cons (pm_add (pm_mod (b_int m_int (pma_cons (pm_add (pm_add (pm_mul (pm_mod (b_int m_int (pma_cons (pm_of (pv 2)) pma_nil)) pm_int) pm_int) (pm_mul pm_int (pm_of (pv 1)))) pm_int) pma_nil)) pm_int) pm_int) pma_nil)))))
theorem sc__law_pot : FnScope N__law_pot ps__law_pot (defScope HeadT.s__law_pot) := ⟨rfl, rfl, rfl, by decide +kernel, rfl, by decide +kernel, by decide +kernel⟩
theorem b__law_draw {P : Program} {w : World} {K : PySem.W.Frag} {mg : Str → Option Value} {base : Heap} (m_divmod : mg "divmod" = none) (m_int : mg "int" = none) : BodyOk P w K mg base 0 "_law_draw" (defBody HeadT.s__law_draw) (defScope HeadT.s__law_draw) N__law_draw c__law_draw := by
  intro f cdv A outer s H E En hr hgd
  have nd : N__law_draw.Nodup := by decide +kernel
  have tk : Takes (cxOf (L2.CX P w) P w K mg base N__law_draw "_law_draw" (defScope HeadT.s__law_draw) f cdv A outer s H E) (EX E) := takes_of rfl rfl rfl rfl
  have hp : PassesOwn (model P w) (cxOf (L2.CX P w) P w K mg base N__law_draw "_law_draw" (defScope HeadT.s__law_draw) f cdv A outer s H E).A (cxOf (L2.CX P w) P w K mg base N__law_draw "_law_draw" (defScope HeadT.s__law_draw) f cdv A outer s H E).env (cxOf (L2.CX P w) P w K mg base N__law_draw "_law_draw" (defScope HeadT.s__law_draw) f cdv A outer s H E).xe := passes_of rfl
  delta c__law_draw
  exact (cs_cons (cs_if (pmt_gt (pm_ix (pm_of (pv 0)) pm_int) pm_int) (cs_cons (cs_asgT (ps_asg (PM.pe (b_divmod m_divmod (pma_cons (pm_ix (pm_of (pv 0)) pm_int) (pma_cons (pm_of (pv 1)) pma_nil)))) (pg_tup rfl (pgs_cons (pg_sub (pv 0) (PM.pe pm_int) set_list) (pgs_cons (pg_name (i := 2) nd rfl (by first | exact Or.inl rfl | exact Or.inr rfl)) pgs_nil)))) (tg_tup (tgs_cons tg_sub (tgs_cons tg_name tgs_nil)))) (cs_one (cs_ret (pm_of (pv 2))))) cs_nil) (cs_cons (cs_asgT (ps_asg (PM.pe (pm_mod (b_int m_int (pma_cons (pm_add (pm_mul (pm_ix (pm_of (pv 0)) pm_int) pm_int) pm_int) pma_nil)) pm_int)) (pg_sub (pv 0) (PM.pe pm_int) set_list)) tg_sub) (cs_one (cs_ret (pm_mod (b_int m_int (pma_cons (pm_div (pm_mod (b_int m_int (pma_cons (pm_mul (pm_ix (pm_of (pv 0)) pm_int) (pm_ix (pm_of (pv 0)) pm_int)) pma_nil)) pm_int) pm_int) pma_nil)) (pm_of (pv 1)))))))
theorem sc__law_draw : FnScope N__law_draw ps__law_draw (defScope HeadT.s__law_draw) := ⟨rfl, rfl, rfl, by decide +kernel, rfl, by decide +kernel, by decide +kernel⟩
theorem b__law_product {P : Program} {w : World} {K : PySem.W.Frag} {mg : Str → Option Value} {base : Heap} (m_sum : mg "sum" = none) (m_zip : mg "zip" = none) : BodyOk P w K mg base 0 "_law_product" (defBody HeadT.s__law_product) (defScope HeadT.s__law_product) N__law_product c__law_product := by
  intro f cdv A outer s H E En hr hgd
  have nd : N__law_product.Nodup := by decide +kernel
  have tk : Takes (cxOf (L2.CX P w) P w K mg base N__law_product "_law_product" (defScope HeadT.s__law_product) f cdv A outer s H E) (EX E) := takes_of rfl rfl rfl rfl
  have hp : PassesOwn (model P w) (cxOf (L2.CX P w) P w K mg base N__law_product "_law_product" (defScope HeadT.s__law_product) f cdv A outer s H E).A (cxOf (L2.CX P w) P w K mg base N__law_product "_law_product" (defScope HeadT.s__law_product) f cdv A outer s H E).env (cxOf (L2.CX P w) P w K mg base N__law_product "_law_product" (defScope HeadT.s__law_product) f cdv A outer s H E).xe := passes_of rfl
  delta c__law_product
  try delta m__law_product_1
  exact (cs_one (cs_ret (b_sum rfl m_sum (pma_cons (PMo.pm (pmo_lc (own := [("near", 2), ("far", 3)]) rfl nd (pmi_zipS (by rfl) m_zip (pma_cons (pm_of (pv 0)) (pma_cons (pm_of (pv 1)) pma_nil))) (blkOk_by (by kernel_rfl)) (fun _ _ _ _ _ => (pg_tup rfl (pgs_cons (pg_name (i := 2) nd rfl (by first | exact Or.inl rfl | exact Or.inr rfl)) (pgs_cons (pg_name (i := 3) nd rfl (by first | exact Or.inl rfl | exact Or.inr rfl)) pgs_nil)))) (gok_tup (gsok_cons gok_name (gsok_cons gok_name gsok_nil)) (fs_len_cons (fs_len_cons fs_len_nil))) (fun _ _ _ _ _ => pmts_nil) (fun _ _ _ _ _ => (pm_mulX (pm_of (pv 2)) (pm_of (pv 3)))))) pma_nil))))
theorem sc__law_product : FnScope N__law_product ps__law_product (defScope HeadT.s__law_product) := ⟨rfl, rfl, rfl, by decide +kernel, rfl, by decide +kernel, by decide +kernel⟩
theorem b__law_turned {P : Program} {w : World} {K : PySem.W.Frag} {mg : Str → Option Value} {base : Heap} (m_len : mg "len" = none) (m_range : mg "range" = none) (m_tuple : mg "tuple" = none) : BodyOk P w K mg base 0 "_law_turned" (defBody HeadT.s__law_turned) (defScope HeadT.s__law_turned) N__law_turned c__law_turned := by
  intro f cdv A outer s H E En hr hgd
  have nd : N__law_turned.Nodup := by decide +kernel
  have tk : Takes (cxOf (L2.CX P w) P w K mg base N__law_turned "_law_turned" (defScope HeadT.s__law_turned) f cdv A outer s H E) (EX E) := takes_of rfl rfl rfl rfl
  have hp : PassesOwn (model P w) (cxOf (L2.CX P w) P w K mg base N__law_turned "_law_turned" (defScope HeadT.s__law_turned) f cdv A outer s H E).A (cxOf (L2.CX P w) P w K mg base N__law_turned "_law_turned" (defScope HeadT.s__law_turned) f cdv A outer s H E).env (cxOf (L2.CX P w) P w K mg base N__law_turned "_law_turned" (defScope HeadT.s__law_turned) f cdv A outer s H E).xe := passes_of rfl
  delta c__law_turned
  try delta m__law_turned_2
  try delta m__law_turned_1
  exact (cs_one (cs_reto (pmo_lc (own := [("column", 1)]) rfl nd (pmi_range1 (by rfl) m_range (pma_cons (b_len m_len (pma_cons (pm_ixd (pm_of (pv 0)) pm_int) pma_nil)) pma_nil)) (blkOk_by (by kernel_rfl)) (fun _ _ _ _ _ => (pg_name (i := 1) nd rfl (by first | exact Or.inl rfl | exact Or.inr rfl))) gok_name (fun _ _ _ _ _ => pmts_nil) (fun _ _ _ _ _ => (b_tuple m_tuple (pma_cons (PMo.pm (pmo_lc (own := [("row", 2)]) rfl nd (pmi_seq (pm_of (pv 0))) (blkOk_by (by kernel_rfl)) (fun _ _ _ _ _ => (pg_name (i := 2) nd rfl (by first | exact Or.inl rfl | exact Or.inr rfl))) gok_name (fun _ _ _ _ _ => pmts_nil) (fun _ _ _ _ _ => (pm_ixd (pm_of (pv 2)) (pm_of (pv 1)))))) pma_nil))))))
theorem sc__law_turned : FnScope N__law_turned ps__law_turned (defScope HeadT.s__law_turned) := ⟨rfl, rfl, rfl, by decide +kernel, rfl, by decide +kernel, by decide +kernel⟩
theorem b__law_combined {P : Program} {w : World} {K : PySem.W.Frag} {mg : Str → Option Value} {base : Heap} (h__law_product : FnX P w K mg base "_law_product" (defArgs HeadT.s__law_product) 1 ps__law_product F__law_product) (h__law_turned : FnX P w K mg base "_law_turned" (defArgs HeadT.s__law_turned) 1 ps__law_turned F__law_turned) (m_tuple : mg "tuple" = none) : BodyOk P w K mg base 1 "_law_combined" (defBody HeadT.s__law_combined) (defScope HeadT.s__law_combined) N__law_combined c__law_combined := by
  intro f cdv A outer s H E En hr hgd
  have nd : N__law_combined.Nodup := by decide +kernel
  have tk : Takes (cxOf (L2.CX P w) P w K mg base N__law_combined "_law_combined" (defScope HeadT.s__law_combined) f cdv A outer s H E) (EX E) := takes_of rfl rfl rfl rfl
  have hp : PassesOwn (model P w) (cxOf (L2.CX P w) P w K mg base N__law_combined "_law_combined" (defScope HeadT.s__law_combined) f cdv A outer s H E).A (cxOf (L2.CX P w) P w K mg base N__law_combined "_law_combined" (defScope HeadT.s__law_combined) f cdv A outer s H E).env (cxOf (L2.CX P w) P w K mg base N__law_combined "_law_combined" (defScope HeadT.s__law_combined) f cdv A outer s H E).xe := passes_of rfl
  delta c__law_combined
  try delta m__law_combined_1
  exact (cs_one (cs_ret (b_tuple m_tuple (pma_cons (PMo.pm (pmo_lc (own := [("column", 2)]) rfl nd (pmi_seq (pm_fn1 h__law_turned (hr.mono (by decide)) hgd tk (fun _ _ _ _ _ _ _ _ us ws h1 h2 => match us, ws, h1, h2 with | [_], [], _, _ => rfl) (by rfl) (pma_cons (pm_of (pv 0)) pma_nil))) (blkOk_by (by kernel_rfl)) (fun _ _ _ _ _ => (pg_name (i := 2) nd rfl (by first | exact Or.inl rfl | exact Or.inr rfl))) gok_name (fun _ _ _ _ _ => pmts_nil) (fun _ _ _ _ _ => (pm_fn1 h__law_product (hr.mono (by decide)) hgd takes_w0 (fun _ _ _ _ _ _ _ _ us ws h1 h2 => match us, ws, h1, h2 with | [_, _], [], _, _ => rfl) (by rfl) (pma_cons (pm_of (pv 2)) (pma_cons (pm_of (pv 1)) pma_nil)))))) pma_nil))))
theorem sc__law_combined : FnScope N__law_combined ps__law_combined (defScope HeadT.s__law_combined) := ⟨rfl, rfl, rfl, by decide +kernel, rfl, by decide +kernel, by decide +kernel⟩
theorem b__law_led {P : Program} {w : World} {K : PySem.W.Frag} {mg : Str → Option Value} {base : Heap} (m_abs : mg "abs" = none) (m_len : mg "len" = none) (m_list : mg "list" = none) (m_min : mg "min" = none) (m_range : mg "range" = none) (m_zip : mg "zip" = none) : BodyOk P w K mg base 0 "_law_led" (defBody HeadT.s__law_led) (defScope HeadT.s__law_led) N__law_led c__law_led := by
  intro f cdv A outer s H E En hr hgd
  have nd : N__law_led.Nodup := by decide +kernel
  have tk : Takes (cxOf (L2.CX P w) P w K mg base N__law_led "_law_led" (defScope HeadT.s__law_led) f cdv A outer s H E) (EX E) := takes_of rfl rfl rfl rfl
  have hp : PassesOwn (model P w) (cxOf (L2.CX P w) P w K mg base N__law_led "_law_led" (defScope HeadT.s__law_led) f cdv A outer s H E).A (cxOf (L2.CX P w) P w K mg base N__law_led "_law_led" (defScope HeadT.s__law_led) f cdv A outer s H E).env (cxOf (L2.CX P w) P w K mg base N__law_led "_law_led" (defScope HeadT.s__law_led) f cdv A outer s H E).xe := passes_of rfl
  delta c__law_led
  try delta b__law_led_7
  try delta b__law_led_6
  try delta b__law_led_5
  try delta m__law_led_4
  try delta m__law_led_3
  try delta m__law_led_2
  try delta m__law_led_1
  exact (cs_cons (cs_parT (is := [3, 4]) (n := 2) rfl (by decide) (ps_asg (pe_tup (PMu.pa (pmu_own (pmo_lc (own := [("row", 7)]) rfl nd (pmi_seq (pm_of (pv 0))) (blkOk_by (by kernel_rfl)) (fun _ _ _ _ _ => (pg_name (i := 7) nd rfl (by first | exact Or.inl rfl | exact Or.inr rfl))) gok_name (fun _ _ _ _ _ => pmts_nil) (fun _ _ _ _ _ => (PMo.pm (b_list m_list (pma_cons (pm_of (pv 7)) pma_nil))))) (pmu_val pm_int pmu_nil)))) (pg_tup rfl (pgs_cons (pg_name (i := 3) nd rfl (by first | exact Or.inl rfl | exact Or.inr rfl)) (pgs_cons (pg_name (i := 4) nd rfl (by first | exact Or.inl rfl | exact Or.inr rfl)) pgs_nil))))) (cs_cons (cs_for hp rfl (pmi_range1 (by rfl) m_range (pma_cons (pm_of (pv 1)) pma_nil)) (pg_name (i := 2) nd rfl (by first | exact Or.inl rfl | exact Or.inr rfl)) tg_name (cs_cons (cs_for hp rfl (pmi_range1 (by rfl) m_range (pma_cons pm_int pma_nil)) (pg_name (i := 5) nd rfl (by first | exact Or.inl rfl | exact Or.inr rfl)) tg_name (cs_cons (cs_lcv (cs_setlc_gen (i := 6) (own := [("place", 9)]) rfl nd rfl rfl (sw_true rfl rfl rfl (by decide +kernel)) (pmi_range2 (by rfl) m_range (pma_cons (pm_of (pv 4)) (pma_cons (pm_scal (b_len m_len (pma_cons (pm_of (pv 3)) pma_nil))) pma_nil))) (blkOk_by (by kernel_rfl)) (fun _ _ _ _ _ => (pg_name (i := 9) nd rfl (by first | exact Or.inl rfl | exact Or.inr rfl))) gok_name (fun _ _ _ _ _ => (pmts_one (pmt_ne (un_of hr) (pm_ixd (pm_ixo (pv 3) (pm_of (pv 9))) (pm_of (pv 2))) pm_int))) (fun _ _ _ _ _ => (pm_of (pv 9))))) (cs_one (cs_if (pmt_gt (b_len m_len (pma_cons (pm_of (pv 6)) pma_nil)) pm_int) (cs_cons (cs_set (i := 8) nd rfl (by first | exact Or.inl rfl | exact Or.inr rfl) (pm_ixd (b_minX (un_of hr) rfl m_min (pma_cons (PMo.pm (pmo_lc (own := [("place", 9)]) rfl nd (pmi_seq (pm_of (pv 6))) (blkOk_by (by kernel_rfl)) (fun _ _ _ _ _ => (pg_name (i := 9) nd rfl (by first | exact Or.inl rfl | exact Or.inr rfl))) gok_name (fun _ _ _ _ _ => pmts_nil) (fun _ _ _ _ _ => (pm_tup (pma_cons (b_abs m_abs (pma_cons (pm_ixd (pm_ixo (pv 3) (pm_of (pv 9))) (pm_of (pv 2))) pma_nil)) (pma_cons (pm_of (pv 9)) pma_nil)))))) pma_nil)) pm_int)) (cs_one (cs_for hp rfl (pmi_seq (pm_of (pv 6))) (pg_name (i := 9) nd rfl (by first | exact Or.inl rfl | exact Or.inr rfl)) tg_name (cs_one (cs_if (pmt_ne (un_of hr) (pm_of (pv 9)) (pm_of (pv 8))) (cs_cons (cs_set (i := 10) nd rfl (by first | exact Or.inl rfl | exact Or.inr rfl) (pm_div (pm_ixd (pm_ixo (pv 3) (pm_of (pv 9))) (pm_of (pv 2))) (pm_ixd (pm_ixo (pv 3) (pm_of (pv 8))) (pm_of (pv 2))))) (cs_one (cs_asgT (ps_asg (PM.pe (PMo.pm (pmo_lc (own := [("one", 11), ("late", 12)]) rfl nd (pmi_zipS (by rfl) m_zip (pma_cons (pm_ixo (pv 3) (pm_of (pv 9))) (pma_cons (pm_ixo (pv 3) (pm_of (pv 8))) pma_nil))) (blkOk_by (by kernel_rfl)) (fun _ _ _ _ _ => (pg_tup rfl (pgs_cons (pg_name (i := 11) nd rfl (by first | exact Or.inl rfl | exact Or.inr rfl)) (pgs_cons (pg_name (i := 12) nd rfl (by first | exact Or.inl rfl | exact Or.inr rfl)) pgs_nil)))) (gok_tup (gsok_cons gok_name (gsok_cons gok_name gsok_nil)) (fs_len_cons (fs_len_cons fs_len_nil))) (fun _ _ _ _ _ => pmts_nil) (fun _ _ _ _ _ => (pm_sub (pm_of (pv 11)) (pm_mulX (pm_of (pv 10)) (pm_of (pv 12)))))))) (pg_sub (pv 3) (PM.pe (pm_of (pv 9))) set_list)) tg_subO))) cs_nil))))) cs_nil)))) (cs_cons (cs_lcv (cs_setlc_gen (i := 6) (own := [("place", 9)]) rfl nd rfl rfl (sw_true rfl rfl rfl (by decide +kernel)) (pmi_range2 (by rfl) m_range (pma_cons (pm_of (pv 4)) (pma_cons (pm_scal (b_len m_len (pma_cons (pm_of (pv 3)) pma_nil))) pma_nil))) (blkOk_by (by kernel_rfl)) (fun _ _ _ _ _ => (pg_name (i := 9) nd rfl (by first | exact Or.inl rfl | exact Or.inr rfl))) gok_name (fun _ _ _ _ _ => (pmts_one (pmt_ne (un_of hr) (pm_ixd (pm_ixo (pv 3) (pm_of (pv 9))) (pm_of (pv 2))) pm_int))) (fun _ _ _ _ _ => (pm_of (pv 9))))) (cs_one (cs_if (pmt_ne (un_of hr) (pm_of (pv 6)) (PMo.pm (pmo_lst pma_nil))) (cs_cons (cs_asgT (ps_asg (PM.pe (pm_tup (pma_cons (pm_ixo (pv 3) (pm_ixd (pm_of (pv 6)) pm_int)) (pma_cons (pm_ixo (pv 3) (pm_of (pv 4))) pma_nil)))) (pg_tup rfl (pgs_cons (pg_sub (pv 3) (PM.pe (pm_of (pv 4))) set_list) (pgs_cons (pg_sub (pv 3) (PM.pe (pm_ixd (pm_of (pv 6)) pm_int)) set_list) pgs_nil)))) (tg_tup (tgs_cons tg_subO (tgs_cons tg_subO tgs_nil)))) (cs_one (cs_set (i := 4) nd rfl (by first | exact Or.inl rfl | exact Or.inr rfl) (pm_add (pm_of (pv 4)) pm_int)))) cs_nil))))) (cs_frz (i := 3) (cs_one (cs_ret (pm_tup (pma_cons (pm_of (pv 3)) (pma_cons (pm_of (pv 4)) pma_nil))))))))
theorem sc__law_led : FnScope N__law_led ps__law_led (defScope HeadT.s__law_led) := ⟨rfl, rfl, rfl, by decide +kernel, rfl, by decide +kernel, by decide +kernel⟩
theorem b__law_kernel {P : Program} {w : World} {K : PySem.W.Frag} {mg : Str → Option Value} {base : Heap} (h__law_led : FnX P w K mg base "_law_led" (defArgs HeadT.s__law_led) 1 ps__law_led F__law_led) (m_enumerate : mg "enumerate" = none) (m_int : mg "int" = none) (m_len : mg "len" = none) (m_range : mg "range" = none) (m_tuple : mg "tuple" = none) : BodyOk P w K mg base 1 "_law_kernel" (defBody HeadT.s__law_kernel) (defScope HeadT.s__law_kernel) N__law_kernel c__law_kernel := by
  intro f cdv A outer s H E En hr hgd
  have nd : N__law_kernel.Nodup := by decide +kernel
  have tk : Takes (cxOf (L2.CX P w) P w K mg base N__law_kernel "_law_kernel" (defScope HeadT.s__law_kernel) f cdv A outer s H E) (EX E) := takes_of rfl rfl rfl rfl
  have hp : PassesOwn (model P w) (cxOf (L2.CX P w) P w K mg base N__law_kernel "_law_kernel" (defScope HeadT.s__law_kernel) f cdv A outer s H E).A (cxOf (L2.CX P w) P w K mg base N__law_kernel "_law_kernel" (defScope HeadT.s__law_kernel) f cdv A outer s H E).env (cxOf (L2.CX P w) P w K mg base N__law_kernel "_law_kernel" (defScope HeadT.s__law_kernel) f cdv A outer s H E).xe := passes_of rfl
  delta c__law_kernel
  try delta m__law_kernel_3
  try delta m__law_kernel_2
  try delta m__law_kernel_1
  exact (cs_cons (cs_lcv (cs_setlc_gen (i := 1) (own := [("at", 3), ("row", 4)]) rfl nd rfl rfl (sw_true rfl rfl rfl (by decide +kernel)) (pmi_enum (by rfl) m_enumerate (pma_cons (pm_of (pv 0)) pma_nil)) (blkOk_by (by kernel_rfl)) (fun _ _ _ _ _ => (pg_tup rfl (pgs_cons (pg_name (i := 3) nd rfl (by first | exact Or.inl rfl | exact Or.inr rfl)) (pgs_cons (pg_name (i := 4) nd rfl (by first | exact Or.inl rfl | exact Or.inr rfl)) pgs_nil)))) (gok_tup (gsok_cons gok_name (gsok_cons gok_name gsok_nil)) (fs_len_cons (fs_len_cons fs_len_nil))) (fun _ _ _ _ _ => pmts_nil) (fun _ _ _ _ _ => (pm_add (b_tuple m_tuple (pma_cons (pm_of (pv 4)) pma_nil)) (b_tuple m_tuple (pma_cons (PMo.pm (pmo_lc (own := [("late", 5)]) rfl nd (pmi_range1 (by rfl) m_range (pma_cons (b_len m_len (pma_cons (pm_of (pv 0)) pma_nil)) pma_nil)) (blkOk_by (by kernel_rfl)) (fun _ _ _ _ _ => (pg_name (i := 5) nd rfl (by first | exact Or.inl rfl | exact Or.inr rfl))) gok_name (fun _ _ _ _ _ => pmts_nil) (fun _ _ _ _ _ => (b_int m_int (pma_cons (pm_eq (un_of hr) (pm_of (pv 5)) (pm_of (pv 3))) pma_nil))))) pma_nil)))))) (cs_cons (cs_asgT (ps_asg (PM.pe (pm_fn1 h__law_led (hr.mono (by decide)) hgd tk (fun _ _ _ _ _ _ _ _ us ws h1 h2 => match us, ws, h1, h2 with | [_, _], [], _, _ => rfl) (by rfl) (pma_cons (pm_of (pv 1)) (pma_cons (b_len m_len (pma_cons (pm_ixd (pm_of (pv 0)) pm_int) pma_nil)) pma_nil)))) (pg_tup rfl (pgs_cons (pg_name (i := 2) nd rfl (by first | exact Or.inl rfl | exact Or.inr rfl)) (pgs_cons (pg_name (i := 3) nd rfl (by first | exact Or.inl rfl | exact Or.inr rfl)) pgs_nil)))) (tg_tup (tgs_cons tg_name (tgs_cons tg_name tgs_nil)))) (cs_one (cs_reto (pmo_lc (own := [("row", 4)]) rfl nd (pmi_seq (pm_sl (pm_of (pv 2)) (pmO_some (pm_of (pv 3))) pmO_none)) (blkOk_by (by kernel_rfl)) (fun _ _ _ _ _ => (pg_name (i := 4) nd rfl (by first | exact Or.inl rfl | exact Or.inr rfl))) gok_name (fun _ _ _ _ _ => pmts_nil) (fun _ _ _ _ _ => (b_tuple m_tuple (pma_cons (pm_sl (pm_of (pv 4)) (pmO_some (b_len m_len (pma_cons (pm_ixd (pm_of (pv 0)) pm_int) pma_nil))) pmO_none) pma_nil))))))))
theorem sc__law_kernel : FnScope N__law_kernel ps__law_kernel (defScope HeadT.s__law_kernel) := ⟨rfl, rfl, rfl, by decide +kernel, rfl, by decide +kernel, by decide +kernel⟩
theorem b__law_chain {P : Program} {w : World} {K : PySem.W.Frag} {mg : Str → Option Value} {base : Heap} (h__law_draw : FnX P w K mg base "_law_draw" (defArgs HeadT.s__law_draw) 1 ps__law_draw F__law_draw) (h__law_kernel : FnX P w K mg base "_law_kernel" (defArgs HeadT.s__law_kernel) 2 ps__law_kernel F__law_kernel) (m_abs : mg "abs" = none) (m_max : mg "max" = none) (m_range : mg "range" = none) (m_tuple : mg "tuple" = none) (m_zip : mg "zip" = none) : BodyOk P w K mg base 2 "_law_chain" (defBody HeadT.s__law_chain) (defScope HeadT.s__law_chain) N__law_chain c__law_chain := by
  intro f cdv A outer s H E En hr hgd
  have nd : N__law_chain.Nodup := by decide +kernel
  have tk : Takes (cxOf (L2.CX P w) P w K mg base N__law_chain "_law_chain" (defScope HeadT.s__law_chain) f cdv A outer s H E) (EX E) := takes_of rfl rfl rfl rfl
  have hp : PassesOwn (model P w) (cxOf (L2.CX P w) P w K mg base N__law_chain "_law_chain" (defScope HeadT.s__law_chain) f cdv A outer s H E).A (cxOf (L2.CX P w) P w K mg base N__law_chain "_law_chain" (defScope HeadT.s__law_chain) f cdv A outer s H E).env (cxOf (L2.CX P w) P w K mg base N__law_chain "_law_chain" (defScope HeadT.s__law_chain) f cdv A outer s H E).xe := passes_of rfl
  delta c__law_chain
  try delta b__law_chain_6
  try delta m__law_chain_5
  try delta b__law_chain_4
  try delta m__law_chain_3
  try delta b__law_chain_2
  try delta m__law_chain_1
  exact (cs_cons (cs_parT (is := [4, 5, 6, 7]) (n := 4) rfl (by decide) (ps_asg (pe_tup (PMu.pa (pmu_val (pm_add pm_int (pm_fn1 h__law_draw (hr.mono (by decide)) hgd tk (fun _ _ _ _ _ _ _ _ us ws h1 h2 => match us, ws, h1, h2 with | [_, _], [], _, _ => rfl) (by rfl) (pma_cons (pm_of (pv 0)) (pma_cons pm_int pma_nil)))) (pmu_val (pm_add pm_int (pm_fn1 h__law_draw (hr.mono (by decide)) hgd tk (fun _ _ _ _ _ _ _ _ us ws h1 h2 => match us, ws, h1, h2 with | [_, _], [], _, _ => rfl) (by rfl) (pma_cons (pm_of (pv 0)) (pma_cons pm_int pma_nil)))) (pmu_val (pm_add pm_int (pm_fn1 h__law_draw (hr.mono (by decide)) hgd tk (fun _ _ _ _ _ _ _ _ us ws h1 h2 => match us, ws, h1, h2 with | [_, _], [], _, _ => rfl) (by rfl) (pma_cons (pm_of (pv 0)) (pma_cons pm_int pma_nil)))) (pmu_val (pm_fn1 h__law_draw (hr.mono (by decide)) hgd tk (fun _ _ _ _ _ _ _ _ us ws h1 h2 => match us, ws, h1, h2 with | [_, _], [], _, _ => rfl) (by rfl) (pma_cons (pm_of (pv 0)) (pma_cons pm_int pma_nil))) pmu_nil)))))) (pg_tup rfl (pgs_cons (pg_name (i := 4) nd rfl (by first | exact Or.inl rfl | exact Or.inr rfl)) (pgs_cons (pg_name (i := 5) nd rfl (by first | exact Or.inl rfl | exact Or.inr rfl)) (pgs_cons (pg_name (i := 6) nd rfl (by first | exact Or.inl rfl | exact Or.inr rfl)) (pgs_cons (pg_name (i := 7) nd rfl (by first | exact Or.inl rfl | exact Or.inr rfl)) pgs_nil))))))) (cs_cons (cs_seto (i := 1) nd rfl (by first | exact Or.inl rfl | exact Or.inr rfl) (pmo_lst pma_nil)) (cs_cons (cs_for hp rfl (pmi_range1 (by rfl) m_range (pma_cons (pm_of (pv 5)) pma_nil)) (pg_name (i := 2) nd rfl (by first | exact Or.inl rfl | exact Or.inr rfl)) tg_name (cs_cons (cs_seto (i := 8) nd rfl (by first | exact Or.inl rfl | exact Or.inr rfl) (pmo_mul (PMo.pm (pmo_lst (pma_cons pm_int pma_nil))) (pm_of (pv 4)))) (cs_cons (cs_if (pmt_eq (un_of hr) (pm_of (pv 7)) pm_int) (cs_one (cs_lco (cs_setlc_gen (i := 8) (own := [("point", 15)]) rfl nd rfl rfl (sw_true rfl rfl rfl (by decide +kernel)) (pmi_range1 (by rfl) m_range (pma_cons (pm_of (pv 4)) pma_nil)) (blkOk_by (by kernel_rfl)) (fun _ _ _ _ _ => (pg_name (i := 15) nd rfl (by first | exact Or.inl rfl | exact Or.inr rfl))) gok_name (fun _ _ _ _ _ => pmts_nil) (fun _ _ _ _ _ => (pm_sub (pm_fn1 h__law_draw (hr.mono (by decide)) hgd takes_w0 (fun _ _ _ _ _ _ _ _ us ws h1 h2 => match us, ws, h1, h2 with | [_, _], [], _, _ => rfl) (by rfl) (pma_cons (pm_of (pv 0)) (pma_cons pm_int pma_nil))) pm_int))))) (cs_cons (cs_par (ps_par (i := 13) (j := 14) rfl nd rfl rfl (by decide) rfl rfl (PMu.pa (pmu_val (pm_fn1 h__law_draw (hr.mono (by decide)) hgd tk (fun _ _ _ _ _ _ _ _ us ws h1 h2 => match us, ws, h1, h2 with | [_, _], [], _, _ => rfl) (by rfl) (pma_cons (pm_of (pv 0)) (pma_cons (pm_of (pv 4)) pma_nil))) (pmu_val (pm_fn1 h__law_draw (hr.mono (by decide)) hgd tk (fun _ _ _ _ _ _ _ _ us ws h1 h2 => match us, ws, h1, h2 with | [_, _], [], _, _ => rfl) (by rfl) (pma_cons (pm_of (pv 0)) (pma_cons (pm_of (pv 4)) pma_nil))) pmu_nil))) rfl)) (cs_cons (cs_asgT (ps_asg (PM.pe (pm_sub (pm_ixo (pv 8) (pm_of (pv 13))) pm_int)) (pg_sub (pv 8) (PM.pe (pm_of (pv 13))) set_list)) tg_subO) (cs_one (cs_asgT (ps_asg (PM.pe (pm_add (pm_ixo (pv 8) (pm_of (pv 14))) pm_int)) (pg_sub (pv 8) (PM.pe (pm_of (pv 14))) set_list)) tg_subO))))) (cs_frz (i := 8) (cs_one (cs_append (pe_bm PySem.F.plainAttrs_list PySem.F.slot_list_append PySem.F.type_list_append mt_append (pv 1) (pa_cons (PM.pe (b_tuple m_tuple (pma_cons (pm_of (pv 8)) pma_nil))) pa_nil)))))))) (cs_frz (i := 1) (cs_cons (cs_par (ps_par (i := 9) (j := 10) rfl nd rfl rfl (by decide) rfl rfl (PMu.pa (pmu_val (pm_fn1 h__law_kernel (hr.mono (by decide)) hgd tk (fun _ _ _ _ _ _ _ _ us ws h1 h2 => match us, ws, h1, h2 with | [_], [], _, _ => rfl) (by rfl) (pma_cons (pm_of (pv 1)) pma_nil)) (pmu_own (pmo_lst pma_nil) pmu_nil))) rfl)) (cs_cons (cs_for hp rfl (pmi_range1 (by rfl) m_range (pma_cons (pm_of (pv 6)) pma_nil)) (pg_name (i := 3) nd rfl (by first | exact Or.inl rfl | exact Or.inr rfl)) tg_name (cs_cons (cs_set (i := 8) nd rfl (by first | exact Or.inl rfl | exact Or.inr rfl) (pm_mulX (pm_tup (pma_cons pm_int pma_nil)) (pm_of (pv 5)))) (cs_cons (cs_for hp rfl (pmi_seq (pm_of (pv 9))) (pg_name (i := 11) nd rfl (by first | exact Or.inl rfl | exact Or.inr rfl)) tg_name (cs_cons (cs_set (i := 12) nd rfl (by first | exact Or.inl rfl | exact Or.inr rfl) (pm_sub (pm_fn1 h__law_draw (hr.mono (by decide)) hgd tk (fun _ _ _ _ _ _ _ _ us ws h1 h2 => match us, ws, h1, h2 with | [_, _], [], _, _ => rfl) (by rfl) (pma_cons (pm_of (pv 0)) (pma_cons pm_int pma_nil))) pm_int)) (cs_one (cs_set (i := 8) nd rfl (by first | exact Or.inl rfl | exact Or.inr rfl) (b_tuple m_tuple (pma_cons (PMo.pm (pmo_lc (own := [("near", 16), ("far", 17)]) rfl nd (pmi_zipS (by rfl) m_zip (pma_cons (pm_of (pv 8)) (pma_cons (pm_of (pv 11)) pma_nil))) (blkOk_by (by kernel_rfl)) (fun _ _ _ _ _ => (pg_tup rfl (pgs_cons (pg_name (i := 16) nd rfl (by first | exact Or.inl rfl | exact Or.inr rfl)) (pgs_cons (pg_name (i := 17) nd rfl (by first | exact Or.inl rfl | exact Or.inr rfl)) pgs_nil)))) (gok_tup (gsok_cons gok_name (gsok_cons gok_name gsok_nil)) (fs_len_cons (fs_len_cons fs_len_nil))) (fun _ _ _ _ _ => pmts_nil) (fun _ _ _ _ _ => (pm_add (pm_of (pv 16)) (pm_mulX (pm_of (pv 12)) (pm_of (pv 17))))))) pma_nil)))))) (cs_one (cs_append (pe_bm PySem.F.plainAttrs_list PySem.F.slot_list_append PySem.F.type_list_append mt_append (pv 10) (pa_cons (PM.pe (pm_if (pmt_lt (b_max1 rfl m_max (pma_cons (PMo.pm (pmo_lc (own := [("one", 11)]) rfl nd (pmi_seq (pm_of (pv 8))) (blkOk_by (by kernel_rfl)) (fun _ _ _ _ _ => (pg_name (i := 11) nd rfl (by first | exact Or.inl rfl | exact Or.inr rfl))) gok_name (fun _ _ _ _ _ => pmts_nil) (fun _ _ _ _ _ => (b_abs m_abs (pma_cons (pm_of (pv 11)) pma_nil))))) pma_nil)) pm_int) (pm_of (pv 8)) (pm_mulX (pm_tup (pma_cons pm_int pma_nil)) (pm_of (pv 5))))) pa_nil))))))) (cs_frz (i := 10) (cs_one (cs_ret (pm_tup (pma_cons (pm_of (pv 10)) (pma_cons (pm_of (pv 1)) pma_nil))))))))))))
theorem sc__law_chain : FnScope N__law_chain ps__law_chain (defScope HeadT.s__law_chain) := ⟨rfl, rfl, rfl, by decide +kernel, rfl, by decide +kernel, by decide +kernel⟩
theorem b__law_round {P : Program} {w : World} {K : PySem.W.Frag} {mg : Str → Option Value} {base : Heap} (h__law_draw : FnX P w K mg base "_law_draw" (defArgs HeadT.s__law_draw) 1 ps__law_draw F__law_draw) (h__law_kernel : FnX P w K mg base "_law_kernel" (defArgs HeadT.s__law_kernel) 2 ps__law_kernel F__law_kernel) (m_abs : mg "abs" = none) (m_len : mg "len" = none) (m_max : mg "max" = none) (m_tuple : mg "tuple" = none) (m_zip : mg "zip" = none) : BodyOk P w K mg base 2 "_law_round" (defBody HeadT.s__law_round) (defScope HeadT.s__law_round) N__law_round c__law_round := by
  intro f cdv A outer s H E En hr hgd
  have nd : N__law_round.Nodup := by decide +kernel
  have tk : Takes (cxOf (L2.CX P w) P w K mg base N__law_round "_law_round" (defScope HeadT.s__law_round) f cdv A outer s H E) (EX E) := takes_of rfl rfl rfl rfl
  have hp : PassesOwn (model P w) (cxOf (L2.CX P w) P w K mg base N__law_round "_law_round" (defScope HeadT.s__law_round) f cdv A outer s H E).A (cxOf (L2.CX P w) P w K mg base N__law_round "_law_round" (defScope HeadT.s__law_round) f cdv A outer s H E).env (cxOf (L2.CX P w) P w K mg base N__law_round "_law_round" (defScope HeadT.s__law_round) f cdv A outer s H E).xe := passes_of rfl
  delta c__law_round
  try delta b__law_round_3
  try delta m__law_round_2
  try delta m__law_round_1
  exact (cs_cons (cs_set (i := 2) nd rfl (by first | exact Or.inl rfl | exact Or.inr rfl) (pm_mulX (pm_tup (pma_cons pm_int pma_nil)) (b_len m_len (pma_cons (pm_ixd (pm_of (pv 1)) pm_int) pma_nil)))) (cs_cons (cs_for hp rfl (pmi_seq (pm_add (pm_fn1 h__law_kernel (hr.mono (by decide)) hgd tk (fun _ _ _ _ _ _ _ _ us ws h1 h2 => match us, ws, h1, h2 with | [_], [], _, _ => rfl) (by rfl) (pma_cons (pm_ixd (pm_of (pv 1)) pm_int) pma_nil)) (pm_ixd (pm_of (pv 1)) pm_int))) (pg_name (i := 3) nd rfl (by first | exact Or.inl rfl | exact Or.inr rfl)) tg_name (cs_cons (cs_set (i := 4) nd rfl (by first | exact Or.inl rfl | exact Or.inr rfl) (pm_sub (pm_fn1 h__law_draw (hr.mono (by decide)) hgd tk (fun _ _ _ _ _ _ _ _ us ws h1 h2 => match us, ws, h1, h2 with | [_, _], [], _, _ => rfl) (by rfl) (pma_cons (pm_of (pv 0)) (pma_cons pm_int pma_nil))) pm_int)) (cs_cons (cs_set (i := 5) nd rfl (by first | exact Or.inl rfl | exact Or.inr rfl) (b_tuple m_tuple (pma_cons (PMo.pm (pmo_lc (own := [("near", 6), ("far", 7)]) rfl nd (pmi_zipS (by rfl) m_zip (pma_cons (pm_of (pv 2)) (pma_cons (pm_of (pv 3)) pma_nil))) (blkOk_by (by kernel_rfl)) (fun _ _ _ _ _ => (pg_tup rfl (pgs_cons (pg_name (i := 6) nd rfl (by first | exact Or.inl rfl | exact Or.inr rfl)) (pgs_cons (pg_name (i := 7) nd rfl (by first | exact Or.inl rfl | exact Or.inr rfl)) pgs_nil)))) (gok_tup (gsok_cons gok_name (gsok_cons gok_name gsok_nil)) (fs_len_cons (fs_len_cons fs_len_nil))) (fun _ _ _ _ _ => pmts_nil) (fun _ _ _ _ _ => (pm_add (pm_of (pv 6)) (pm_mulX (pm_of (pv 4)) (pm_of (pv 7))))))) pma_nil))) (cs_one (cs_set (i := 2) nd rfl (by first | exact Or.inl rfl | exact Or.inr rfl) (pm_if (pmt_lt (b_max1 rfl m_max (pma_cons (PMo.pm (pmo_lc (own := [("number", 8)]) rfl nd (pmi_seq (pm_of (pv 5))) (blkOk_by (by kernel_rfl)) (fun _ _ _ _ _ => (pg_name (i := 8) nd rfl (by first | exact Or.inl rfl | exact Or.inr rfl))) gok_name (fun _ _ _ _ _ => pmts_nil) (fun _ _ _ _ _ => (b_abs m_abs (pma_cons (pm_of (pv 8)) pma_nil))))) pma_nil)) pm_int) (pm_of (pv 5)) (pm_of (pv 2)))))))) (cs_one (cs_ret (pm_of (pv 2))))))
theorem sc__law_round : FnScope N__law_round ps__law_round (defScope HeadT.s__law_round) := ⟨rfl, rfl, rfl, by decide +kernel, rfl, by decide +kernel, by decide +kernel⟩
theorem b__law_right {P : Program} {w : World} {K : PySem.W.Frag} {mg : Str → Option Value} {base : Heap} (h__law_chain : FnX P w K mg base "_law_chain" (defArgs HeadT.s__law_chain) 3 ps__law_chain F__law_chain) (h__law_combined : FnX P w K mg base "_law_combined" (defArgs HeadT.s__law_combined) 2 ps__law_combined F__law_combined) (h__law_draw : FnX P w K mg base "_law_draw" (defArgs HeadT.s__law_draw) 1 ps__law_draw F__law_draw) (h__law_round : FnX P w K mg base "_law_round" (defArgs HeadT.s__law_round) 3 ps__law_round F__law_round) (h__law_turned : FnX P w K mg base "_law_turned" (defArgs HeadT.s__law_turned) 1 ps__law_turned F__law_turned) (h_combined : FnX P w K mg base "combined" (defArgs HeadT.s_combined) 6 ps_combined F_combined) (h_ends_of : FnX P w K mg base "ends_of" (defArgs HeadT.s_ends_of) 7 ps_ends_of F_ends_of) (h_is_chain : FnX P w K mg base "is_chain" (defArgs HeadT.s_is_chain) 6 ps_is_chain F_is_chain) (h_is_round : FnX P w K mg base "is_round" (defArgs HeadT.s_is_round) 7 ps_is_round F_is_round) (h_rim : FnX P w K mg base "rim" (defArgs HeadT.s_rim) 7 ps_rim F_rim) (h_times_table : FnX P w K mg base "times_table" (defArgs HeadT.s_times_table) 6 ps_times_table F_times_table) (h_turned : FnX P w K mg base "turned" (defArgs HeadT.s_turned) 6 ps_turned F_turned) (h_turned_chain : FnX P w K mg base "turned_chain" (defArgs HeadT.s_turned_chain) 7 ps_turned_chain F_turned_chain) (m_int : mg "int" = none) (m_len : mg "len" = none) (m_list : mg "list" = none) (m_range : mg "range" = none) (m_repr : mg "repr" = none) (m_tuple : mg "tuple" = none) (m_zip : mg "zip" = none) : BodyOk P w K mg base 7 "_law_right" (defBody HeadT.s__law_right) (defScope HeadT.s__law_right) N__law_right c__law_right := by
  intro f cdv A outer s H E En hr hgd
  have nd : N__law_right.Nodup := by decide +kernel
  have tk : Takes (cxOf (L2.CX P w) P w K mg base N__law_right "_law_right" (defScope HeadT.s__law_right) f cdv A outer s H E) (EX E) := takes_of rfl rfl rfl rfl
  have hp : PassesOwn (model P w) (cxOf (L2.CX P w) P w K mg base N__law_right "_law_right" (defScope HeadT.s__law_right) f cdv A outer s H E).A (cxOf (L2.CX P w) P w K mg base N__law_right "_law_right" (defScope HeadT.s__law_right) f cdv A outer s H E).env (cxOf (L2.CX P w) P w K mg base N__law_right "_law_right" (defScope HeadT.s__law_right) f cdv A outer s H E).xe := passes_of rfl
  delta c__law_right
  try delta b__law_right_9
  try delta m__law_right_8
  try delta b__law_right_7
  try delta m__law_right_6
  try delta b__law_right_5
  try delta m__law_right_4
  try delta m__law_right_3
  try delta m__law_right_2
  try delta m__law_right_1
  exact (cs_cons (cs_set (i := 1) nd rfl (by first | exact Or.inl rfl | exact Or.inr rfl) (pm_fn1 h__law_chain (hr.mono (by decide)) hgd tk (fun _ _ _ _ _ _ _ _ us ws h1 h2 => match us, ws, h1, h2 with | [_], [], _, _ => rfl) (by rfl) (pma_cons (pm_of (pv 0)) pma_nil))) (cs_cons (cs_asgT (ps_asg (PM.pe (pm_of (pv 1))) (pg_tup rfl (pgs_cons (pg_name (i := 6) nd rfl (by first | exact Or.inl rfl | exact Or.inr rfl)) (pgs_cons (pg_name (i := 7) nd rfl (by first | exact Or.inl rfl | exact Or.inr rfl)) pgs_nil)))) (tg_tup (tgs_cons tg_name (tgs_cons tg_name tgs_nil)))) (cs_cons (cs_par (ps_par (i := 8) (j := 9) rfl nd rfl rfl (by decide) rfl rfl (PMu.pa (pmu_val (b_reprE (un_of hr) hgd m_repr (pma_cons (pm_of (pv 1)) pma_nil)) (pmu_val (pm_mulX (pm_tup (pma_cons pm_int pma_nil)) (b_len m_len (pma_cons (pm_ixd (pm_of (pv 7)) pm_int) pma_nil))) pmu_nil))) rfl)) (cs_cons (cs_if (PMw.pt (pmw_or (pmt_notB (pm_fn1 h_is_chain (hr.mono (by decide)) hgd tk (fun _ _ _ _ _ _ _ _ us ws h1 h2 => match us, ws, h1, h2 with | [_], [], _, _ => rfl) (by rfl) (pma_cons (pm_of (pv 1)) pma_nil)) pm_bl) (pmw_or1 (pmt_ne (un_of hr) (pm_fn1 h_times_table (hr.mono (by decide)) hgd tk (fun _ _ _ _ _ _ _ _ us ws h1 h2 => match us, ws, h1, h2 with | [_, _], [], _, _ => rfl) (by rfl) (pma_cons (pm_of (pv 6)) (pma_cons (pm_of (pv 7)) pma_nil))) (pm_mulX (PMo.pm (pmo_lst (pma_cons (pm_of (pv 9)) pma_nil))) (b_len m_len (pma_cons (pm_of (pv 6)) pma_nil))))))) (cs_one (cs_ret pm_bl)) cs_nil) (cs_cons (cs_for hp rfl (pmi_range1 (by rfl) m_range (pma_cons pm_int pma_nil)) (pg_name (i := 2) nd rfl (by first | exact Or.inl rfl | exact Or.inr rfl)) tg_name (cs_cons (cs_set (i := 10) nd rfl (by first | exact Or.inl rfl | exact Or.inr rfl) (b_tuple m_tuple (pma_cons (PMo.pm (pmo_lc (own := [("line", 4)]) rfl nd (pmi_seq (pm_of (pv 7))) (blkOk_by (by kernel_rfl)) (fun _ _ _ _ _ => (pg_name (i := 4) nd rfl (by first | exact Or.inl rfl | exact Or.inr rfl))) gok_name (fun _ _ _ _ _ => pmts_nil) (fun _ _ _ _ _ => (pm_sub (pm_fn1 h__law_draw (hr.mono (by decide)) hgd takes_w0 (fun _ _ _ _ _ _ _ _ us ws h1 h2 => match us, ws, h1, h2 with | [_, _], [], _, _ => rfl) (by rfl) (pma_cons (pm_of (pv 0)) (pma_cons pm_int pma_nil))) pm_int)))) pma_nil))) (cs_cons (cs_set (i := 11) nd rfl (by first | exact Or.inl rfl | exact Or.inr rfl) (pm_fn1 h__law_combined (hr.mono (by decide)) hgd tk (fun _ _ _ _ _ _ _ _ us ws h1 h2 => match us, ws, h1, h2 with | [_, _], [], _, _ => rfl) (by rfl) (pma_cons (pm_of (pv 7)) (pma_cons (pm_of (pv 10)) pma_nil)))) (cs_cons (cs_if (pmt_ne (un_of hr) (b_reprE (un_of hr) hgd m_repr (pma_cons (PMo.pm (pmo_lst (pma_cons (pm_fn1 h_ends_of (hr.mono (by decide)) hgd tk (fun _ _ _ _ _ _ _ _ us ws h1 h2 => match us, ws, h1, h2 with | [_, _], [], _, _ => rfl) (by rfl) (pma_cons (pm_of (pv 1)) (pma_cons (pm_of (pv 10)) pma_nil))) (pma_cons (pm_fnk0 (ks := ["lines", "chain"]) h_ends_of (hr.mono (by decide)) hgd tk (fun _ _ _ _ _ _ _ _ us ws h1 h2 => match us, ws, h1, h2 with | [], [_, _], _, _ => rfl) (by rfl) (pmk_cons (pm_of (pv 10)) (pmk_cons (pm_tup (pma_cons (b_tuple m_tuple (pma_cons (pm_of (pv 6)) pma_nil)) (pma_cons (b_tuple m_tuple (pma_cons (pm_of (pv 7)) pma_nil)) pma_nil))) pmk_nil))) (pma_cons (pm_fn1 h_combined (hr.mono (by decide)) hgd tk (fun _ _ _ _ _ _ _ _ us ws h1 h2 => match us, ws, h1, h2 with | [_, _], [], _, _ => rfl) (by rfl) (pma_cons (pm_of (pv 7)) (pma_cons (pm_of (pv 10)) pma_nil))) pma_nil))))) pma_nil)) (b_reprE (un_of hr) hgd m_repr (pma_cons (pm_mulX (PMo.pm (pmo_lst (pma_cons (pm_of (pv 11)) pma_nil))) pm_int) pma_nil))) (cs_one (cs_ret pm_bl)) cs_nil) (cs_cons (cs_if (pmt_ne (un_of hr) (b_reprE (un_of hr) hgd m_repr (pma_cons (PMo.pm (pmo_lst (pma_cons (pm_fn1 h_is_round (hr.mono (by decide)) hgd tk (fun _ _ _ _ _ _ _ _ us ws h1 h2 => match us, ws, h1, h2 with | [_, _], [], _, _ => rfl) (by rfl) (pma_cons (pm_of (pv 1)) (pma_cons (pm_of (pv 10)) pma_nil))) (pma_cons (pm_fnk0 (ks := ["value", "chain"]) h_is_round (hr.mono (by decide)) hgd tk (fun _ _ _ _ _ _ _ _ us ws h1 h2 => match us, ws, h1, h2 with | [], [_, _], _, _ => rfl) (by rfl) (pmk_cons (pm_of (pv 10)) (pmk_cons (pm_of (pv 1)) pmk_nil))) pma_nil)))) pma_nil)) (b_reprE (un_of hr) hgd m_repr (pma_cons (pm_mulX (PMo.pm (pmo_lst (pma_cons (pm_eq (un_of hr) (pm_of (pv 11)) (pm_of (pv 9))) pma_nil))) pm_int) pma_nil))) (cs_one (cs_ret pm_bl)) cs_nil) (cs_cons (cs_set (i := 12) nd rfl (by first | exact Or.inl rfl | exact Or.inr rfl) (b_tuple m_tuple (pma_cons (PMo.pm (pmo_lc (own := [("face", 5)]) rfl nd (pmi_seq (pm_of (pv 6))) (blkOk_by (by kernel_rfl)) (fun _ _ _ _ _ => (pg_name (i := 5) nd rfl (by first | exact Or.inl rfl | exact Or.inr rfl))) gok_name (fun _ _ _ _ _ => pmts_nil) (fun _ _ _ _ _ => (pm_sub (pm_fn1 h__law_draw (hr.mono (by decide)) hgd takes_w0 (fun _ _ _ _ _ _ _ _ us ws h1 h2 => match us, ws, h1, h2 with | [_, _], [], _, _ => rfl) (by rfl) (pma_cons (pm_of (pv 0)) (pma_cons pm_int pma_nil))) pm_int)))) pma_nil))) (cs_cons (cs_set (i := 13) nd rfl (by first | exact Or.inl rfl | exact Or.inr rfl) (pm_fn1 h__law_combined (hr.mono (by decide)) hgd tk (fun _ _ _ _ _ _ _ _ us ws h1 h2 => match us, ws, h1, h2 with | [_, _], [], _, _ => rfl) (by rfl) (pma_cons (pm_of (pv 6)) (pma_cons (pm_of (pv 12)) pma_nil)))) (cs_cons (cs_if (PMw.pt (pmw_or (pmt_ne (un_of hr) (b_reprE (un_of hr) hgd m_repr (pma_cons (PMo.pm (pmo_lst (pma_cons (pm_fn1 h_rim (hr.mono (by decide)) hgd tk (fun _ _ _ _ _ _ _ _ us ws h1 h2 => match us, ws, h1, h2 with | [_, _], [], _, _ => rfl) (by rfl) (pma_cons (pm_of (pv 1)) (pma_cons (pm_of (pv 12)) pma_nil))) (pma_cons (pm_fnk0 (ks := ["parts", "chain"]) h_rim (hr.mono (by decide)) hgd tk (fun _ _ _ _ _ _ _ _ us ws h1 h2 => match us, ws, h1, h2 with | [], [_, _], _, _ => rfl) (by rfl) (pmk_cons (pm_of (pv 12)) (pmk_cons (pm_of (pv 1)) pmk_nil))) (pma_cons (pm_fn1 h_combined (hr.mono (by decide)) hgd tk (fun _ _ _ _ _ _ _ _ us ws h1 h2 => match us, ws, h1, h2 with | [_, _], [], _, _ => rfl) (by rfl) (pma_cons (pm_of (pv 6)) (pma_cons (pm_of (pv 12)) pma_nil))) pma_nil))))) pma_nil)) (b_reprE (un_of hr) hgd m_repr (pma_cons (pm_mulX (PMo.pm (pmo_lst (pma_cons (pm_of (pv 13)) pma_nil))) pm_int) pma_nil))) (pmw_or1 (pmt_notB (pm_fn1 h_is_round (hr.mono (by decide)) hgd tk (fun _ _ _ _ _ _ _ _ us ws h1 h2 => match us, ws, h1, h2 with | [_, _], [], _, _ => rfl) (by rfl) (pma_cons (pm_of (pv 1)) (pma_cons (pm_of (pv 13)) pma_nil))) pm_bl)))) (cs_one (cs_ret pm_bl)) cs_nil) (cs_cons (cs_set (i := 14) nd rfl (by first | exact Or.inl rfl | exact Or.inr rfl) (pm_fn1 h__law_round (hr.mono (by decide)) hgd tk (fun _ _ _ _ _ _ _ _ us ws h1 h2 => match us, ws, h1, h2 with | [_, _], [], _, _ => rfl) (by rfl) (pma_cons (pm_of (pv 0)) (pma_cons (pm_of (pv 1)) pma_nil)))) (cs_cons (cs_set (i := 15) nd rfl (by first | exact Or.inl rfl | exact Or.inr rfl) (b_tuple m_tuple (pma_cons (PMo.pm (pmo_lc (own := [("near", 17), ("far", 18)]) rfl nd (pmi_zipS (by rfl) m_zip (pma_cons (pm_of (pv 14)) (pma_cons (pm_of (pv 13)) pma_nil))) (blkOk_by (by kernel_rfl)) (fun _ _ _ _ _ => (pg_tup rfl (pgs_cons (pg_name (i := 17) nd rfl (by first | exact Or.inl rfl | exact Or.inr rfl)) (pgs_cons (pg_name (i := 18) nd rfl (by first | exact Or.inl rfl | exact Or.inr rfl)) pgs_nil)))) (gok_tup (gsok_cons gok_name (gsok_cons gok_name gsok_nil)) (fs_len_cons (fs_len_cons fs_len_nil))) (fun _ _ _ _ _ => pmts_nil) (fun _ _ _ _ _ => (pm_add (pm_of (pv 17)) (pm_of (pv 18)))))) pma_nil))) (cs_cons (cs_if (PMw.pt (pmw_or (pmt_notB (pm_fn1 h_is_round (hr.mono (by decide)) hgd tk (fun _ _ _ _ _ _ _ _ us ws h1 h2 => match us, ws, h1, h2 with | [_, _], [], _, _ => rfl) (by rfl) (pma_cons (pm_of (pv 1)) (pma_cons (pm_of (pv 14)) pma_nil))) pm_bl) (pmw_or (pmt_notB (pm_fn1 h_is_round (hr.mono (by decide)) hgd tk (fun _ _ _ _ _ _ _ _ us ws h1 h2 => match us, ws, h1, h2 with | [_, _], [], _, _ => rfl) (by rfl) (pma_cons (pm_of (pv 1)) (pma_cons (pm_of (pv 15)) pma_nil))) pm_bl) (pmw_or1 (pmt_ne (un_of hr) (pm_fn1 h_ends_of (hr.mono (by decide)) hgd tk (fun _ _ _ _ _ _ _ _ us ws h1 h2 => match us, ws, h1, h2 with | [_, _], [], _, _ => rfl) (by rfl) (pma_cons (pm_of (pv 1)) (pma_cons (pm_of (pv 14)) pma_nil))) (pm_of (pv 9))))))) (cs_one (cs_ret pm_bl)) cs_nil) (cs_cons (cs_set (i := 16) nd rfl (by first | exact Or.inl rfl | exact Or.inr rfl) (b_tuple m_tuple (pma_cons (PMo.pm (pmo_lc (own := [("near", 17), ("far", 18)]) rfl nd (pmi_zipS (by rfl) m_zip (pma_cons (pm_of (pv 14)) (pma_cons (pm_of (pv 10)) pma_nil))) (blkOk_by (by kernel_rfl)) (fun _ _ _ _ _ => (pg_tup rfl (pgs_cons (pg_name (i := 17) nd rfl (by first | exact Or.inl rfl | exact Or.inr rfl)) (pgs_cons (pg_name (i := 18) nd rfl (by first | exact Or.inl rfl | exact Or.inr rfl)) pgs_nil)))) (gok_tup (gsok_cons gok_name (gsok_cons gok_name gsok_nil)) (fs_len_cons (fs_len_cons fs_len_nil))) (fun _ _ _ _ _ => pmts_nil) (fun _ _ _ _ _ => (pm_add (pm_of (pv 17)) (pm_of (pv 18)))))) pma_nil))) (cs_one (cs_if (pmt_ne (un_of hr) (pm_fn1 h_is_round (hr.mono (by decide)) hgd tk (fun _ _ _ _ _ _ _ _ us ws h1 h2 => match us, ws, h1, h2 with | [_, _], [], _, _ => rfl) (by rfl) (pma_cons (pm_of (pv 1)) (pma_cons (pm_of (pv 16)) pma_nil))) (pm_eq (un_of hr) (pm_of (pv 11)) (pm_of (pv 9)))) (cs_one (cs_ret pm_bl)) cs_nil)))))))))))))) (cs_cons (cs_set (i := 3) nd rfl (by first | exact Or.inl rfl | exact Or.inr rfl) (pm_fn1 h_turned_chain (hr.mono (by decide)) hgd tk (fun _ _ _ _ _ _ _ _ us ws h1 h2 => match us, ws, h1, h2 with | [_], [], _, _ => rfl) (by rfl) (pma_cons (pm_of (pv 1)) pma_nil))) (cs_cons (cs_if (PMw.pt (pmw_or (pmt_ne (un_of hr) (b_reprE (un_of hr) hgd m_repr (pma_cons (PMo.pm (pmo_lst (pma_cons (pm_of (pv 3)) (pma_cons (pm_fnk0 (ks := ["chain"]) h_turned_chain (hr.mono (by decide)) hgd tk (fun _ _ _ _ _ _ _ _ us ws h1 h2 => match us, ws, h1, h2 with | [], [_], _, _ => rfl) (by rfl) (pmk_cons (pm_of (pv 1)) pmk_nil)) pma_nil)))) pma_nil)) (b_reprE (un_of hr) hgd m_repr (pma_cons (pm_mulX (PMo.pm (pmo_lst (pma_cons (pm_tup (pma_cons (pm_fn1 h__law_turned (hr.mono (by decide)) hgd tk (fun _ _ _ _ _ _ _ _ us ws h1 h2 => match us, ws, h1, h2 with | [_], [], _, _ => rfl) (by rfl) (pma_cons (pm_of (pv 7)) pma_nil)) (pma_cons (pm_fn1 h__law_turned (hr.mono (by decide)) hgd tk (fun _ _ _ _ _ _ _ _ us ws h1 h2 => match us, ws, h1, h2 with | [_], [], _, _ => rfl) (by rfl) (pma_cons (pm_of (pv 6)) pma_nil)) pma_nil))) pma_nil))) pm_int) pma_nil))) (pmw_or1 (pmt_notB (pm_fn1 h_is_chain (hr.mono (by decide)) hgd tk (fun _ _ _ _ _ _ _ _ us ws h1 h2 => match us, ws, h1, h2 with | [_], [], _, _ => rfl) (by rfl) (pma_cons (pm_of (pv 3)) pma_nil)) pm_bl)))) (cs_one (cs_ret pm_bl)) cs_nil) (cs_cons (cs_if (PMw.pt (pmw_or (pmt_ne (un_of hr) (pm_fn1 h_turned_chain (hr.mono (by decide)) hgd tk (fun _ _ _ _ _ _ _ _ us ws h1 h2 => match us, ws, h1, h2 with | [_], [], _, _ => rfl) (by rfl) (pma_cons (pm_of (pv 3)) pma_nil)) (pm_tup (pma_cons (PMo.pm (b_list m_list (pma_cons (pm_of (pv 6)) pma_nil))) (pma_cons (PMo.pm (b_list m_list (pma_cons (pm_of (pv 7)) pma_nil))) pma_nil)))) (pmw_or1 (pmt_ne (un_of hr) (pm_of (pv 3)) (pm_tup (pma_cons (pm_fn1 h_turned (hr.mono (by decide)) hgd tk (fun _ _ _ _ _ _ _ _ us ws h1 h2 => match us, ws, h1, h2 with | [_], [], _, _ => rfl) (by rfl) (pma_cons (pm_of (pv 7)) pma_nil)) (pma_cons (pm_fn1 h_turned (hr.mono (by decide)) hgd tk (fun _ _ _ _ _ _ _ _ us ws h1 h2 => match us, ws, h1, h2 with | [_], [], _, _ => rfl) (by rfl) (pma_cons (pm_of (pv 6)) pma_nil)) pma_nil))))))) (cs_one (cs_ret pm_bl)) cs_nil) (cs_cons (cs_for hp rfl (pmi_range1 (by rfl) m_range (pma_cons (b_len m_len (pma_cons (pm_of (pv 7)) pma_nil)) pma_nil)) (pg_name (i := 4) nd rfl (by first | exact Or.inl rfl | exact Or.inr rfl)) tg_name (cs_one (cs_if (pmt_ne (un_of hr) (pm_fn1 h_ends_of (hr.mono (by decide)) hgd tk (fun _ _ _ _ _ _ _ _ us ws h1 h2 => match us, ws, h1, h2 with | [_, _], [], _, _ => rfl) (by rfl) (pma_cons (pm_of (pv 1)) (pma_cons (b_tuple m_tuple (pma_cons (PMo.pm (pmo_lc (own := [("at", 19)]) rfl nd (pmi_range1 (by rfl) m_range (pma_cons (b_len m_len (pma_cons (pm_of (pv 7)) pma_nil)) pma_nil)) (blkOk_by (by kernel_rfl)) (fun _ _ _ _ _ => (pg_name (i := 19) nd rfl (by first | exact Or.inl rfl | exact Or.inr rfl))) gok_name (fun _ _ _ _ _ => pmts_nil) (fun _ _ _ _ _ => (b_int m_int (pma_cons (pm_eq (un_of hr) (pm_of (pv 19)) (pm_of (pv 4))) pma_nil))))) pma_nil)) pma_nil))) (pm_ixd (pm_of (pv 7)) (pm_of (pv 4)))) (cs_one (cs_ret pm_bl)) cs_nil))) (cs_cons (cs_for hp rfl (pmi_range1 (by rfl) m_range (pma_cons (b_len m_len (pma_cons (pm_of (pv 6)) pma_nil)) pma_nil)) (pg_name (i := 5) nd rfl (by first | exact Or.inl rfl | exact Or.inr rfl)) tg_name (cs_one (cs_if (pmt_ne (un_of hr) (pm_fn1 h_rim (hr.mono (by decide)) hgd tk (fun _ _ _ _ _ _ _ _ us ws h1 h2 => match us, ws, h1, h2 with | [_, _], [], _, _ => rfl) (by rfl) (pma_cons (pm_of (pv 1)) (pma_cons (b_tuple m_tuple (pma_cons (PMo.pm (pmo_lc (own := [("at", 19)]) rfl nd (pmi_range1 (by rfl) m_range (pma_cons (b_len m_len (pma_cons (pm_of (pv 6)) pma_nil)) pma_nil)) (blkOk_by (by kernel_rfl)) (fun _ _ _ _ _ => (pg_name (i := 19) nd rfl (by first | exact Or.inl rfl | exact Or.inr rfl))) gok_name (fun _ _ _ _ _ => pmts_nil) (fun _ _ _ _ _ => (b_int m_int (pma_cons (pm_eq (un_of hr) (pm_of (pv 19)) (pm_of (pv 5))) pma_nil))))) pma_nil)) pma_nil))) (pm_ixd (pm_of (pv 6)) (pm_of (pv 5)))) (cs_one (cs_ret pm_bl)) cs_nil))) (cs_one (cs_ret (pm_eq (un_of hr) (b_reprE (un_of hr) hgd m_repr (pma_cons (pm_of (pv 1)) pma_nil)) (pm_of (pv 8)))))))))))))))
theorem sc__law_right : FnScope N__law_right ps__law_right (defScope HeadT.s__law_right) := ⟨rfl, rfl, rfl, by decide +kernel, rfl, by decide +kernel, by decide +kernel⟩
theorem b_law {P : Program} {w : World} {K : PySem.W.Frag} {mg : Str → Option Value} {base : Heap} (h__law_pot : FnX P w K mg base "_law_pot" (defArgs HeadT.s__law_pot) 1 ps__law_pot F__law_pot) (h__law_right : FnX P w K mg base "_law_right" (defArgs HeadT.s__law_right) 8 ps__law_right F__law_right) (m_all : mg "all" = none) (m_len : mg "len" = none) (m_max : mg "max" = none) (m_min : mg "min" = none) (m_range : mg "range" = none) : BodyOk P w K mg base 8 "law" (defBody HeadT.s_law) (defScope HeadT.s_law) N_law c_law := by
  intro f cdv A outer s H E En hr hgd
  have nd : N_law.Nodup := by decide +kernel
  have tk : Takes (cxOf (L2.CX P w) P w K mg base N_law "law" (defScope HeadT.s_law) f cdv A outer s H E) (EX E) := takes_of rfl rfl rfl rfl
  have hp : PassesOwn (model P w) (cxOf (L2.CX P w) P w K mg base N_law "law" (defScope HeadT.s_law) f cdv A outer s H E).A (cxOf (L2.CX P w) P w K mg base N_law "law" (defScope HeadT.s_law) f cdv A outer s H E).env (cxOf (L2.CX P w) P w K mg base N_law "law" (defScope HeadT.s_law) f cdv A outer s H E).xe := passes_of rfl
  delta c_law
  try delta m_law_1
  exact (cs_one (cs_ret (b_all rfl m_all (pma_cons (PMo.pm (pmo_lc (own := [("k", 1)]) rfl nd (pmi_range1 (by rfl) m_range (pma_cons (b_max2 rfl m_max (pma_cons pm_int (pma_cons (b_min2 rfl m_min (pma_cons pm_int (pma_cons (b_len m_len (pma_cons (pm_of (pv 0)) pma_nil)) pma_nil))) pma_nil))) pma_nil)) (blkOk_by (by kernel_rfl)) (fun _ _ _ _ _ => (pg_name (i := 1) nd rfl (by first | exact Or.inl rfl | exact Or.inr rfl))) gok_name (fun _ _ _ _ _ => pmts_nil) (fun _ _ _ _ _ => (pm_fn1 h__law_right (hr.mono (by decide)) hgd takes_w0 (fun _ _ _ _ _ _ _ _ us ws h1 h2 => match us, ws, h1, h2 with | [_], [], _, _ => rfl) (by rfl) (pma_cons (pm_fn1 h__law_pot (hr.mono (by decide)) hgd takes_w0 (fun _ _ _ _ _ _ _ _ us ws h1 h2 => match us, ws, h1, h2 with | [_, _], [], _, _ => rfl) (by rfl) (pma_cons (pm_of (pv 0)) (pma_cons (pm_of (pv 1)) pma_nil))) pma_nil))))) pma_nil))))
theorem sc_law : FnScope N_law ps_law (defScope HeadT.s_law) := ⟨rfl, rfl, rfl, by decide +kernel, rfl, by decide +kernel, by decide +kernel⟩
abbrev lawParams : Arguments := defArgs HeadT.s_law
theorem facts {P : Program} {w : World} {K : PySem.W.Frag} {base : Heap} {mg : Str → Option Value} (KX : K.In base) (G : base.Ns mainGlobals mg) (c : He.SaysD HeadT.fa HeadT.fn K) : FnX P w K mg base "law" (defArgs HeadT.s_law) 9 ps_law F_law := by
  have m_abs : mg "abs" = none := He.free_ok KX G (c.fact 38 (f := .free "abs") rfl)
  have m_all : mg "all" = none := He.free_ok KX G (c.fact 39 (f := .free "all") rfl)
  have m_any : mg "any" = none := He.free_ok KX G (c.fact 40 (f := .free "any") rfl)
  have m_bool : mg "bool" = none := He.free_ok KX G (c.fact 41 (f := .free "bool") rfl)
  have m_divmod : mg "divmod" = none := He.free_ok KX G (c.fact 42 (f := .free "divmod") rfl)
  have m_enumerate : mg "enumerate" = none := He.free_ok KX G (c.fact 43 (f := .free "enumerate") rfl)
  have m_int : mg "int" = none := He.free_ok KX G (c.fact 44 (f := .free "int") rfl)
  have m_isinstance : mg "isinstance" = none := He.free_ok KX G (c.fact 45 (f := .free "isinstance") rfl)
  have m_len : mg "len" = none := He.free_ok KX G (c.fact 46 (f := .free "len") rfl)
  have m_list : mg "list" = none := He.free_ok KX G (c.fact 47 (f := .free "list") rfl)
  have m_max : mg "max" = none := He.free_ok KX G (c.fact 48 (f := .free "max") rfl)
  have m_min : mg "min" = none := He.free_ok KX G (c.fact 49 (f := .free "min") rfl)
  have m_range : mg "range" = none := He.free_ok KX G (c.fact 50 (f := .free "range") rfl)
  have m_repr : mg "repr" = none := He.free_ok KX G (c.fact 51 (f := .free "repr") rfl)
  have m_sum : mg "sum" = none := He.free_ok KX G (c.fact 52 (f := .free "sum") rfl)
  have m_tuple : mg "tuple" = none := He.free_ok KX G (c.fact 53 (f := .free "tuple") rfl)
  have m_zip : mg "zip" = none := He.free_ok KX G (c.fact 54 (f := .free "zip") rfl)
  have m_MOST_ROWS : ∃ t, mg "MOST_ROWS" = some (.int 4 t) := He.int_ok KX G (c.fact 55 (f := .int "MOST_ROWS" 4) rfl)
  have m_MOST_COLUMNS : ∃ t, mg "MOST_COLUMNS" = some (.int 4 t) := He.int_ok KX G (c.fact 56 (f := .int "MOST_COLUMNS" 4) rfl)
  have m_MOST_NUMBER : ∃ t, mg "MOST_NUMBER" = some (.int 99 t) := He.int_ok KX G (c.fact 57 (f := .int "MOST_NUMBER" 99) rfl)
  have m_MOST_ENTRY : ∃ t, mg "MOST_ENTRY" = some (.int 999 t) := He.int_ok KX G (c.fact 58 (f := .int "MOST_ENTRY" 999) rfl)
  obtain ⟨fd_is_integer, D_is_integer⟩ := c.def_ 0 (d := HeadT.d_is_integer) rfl
  have h_is_integer : FnX P w K mg base "is_integer" (defArgs HeadT.s_is_integer) 1 ps_is_integer F_is_integer := fnx D_is_integer (He.glo_ok KX G (c.fact 0 (f := .glo "is_integer") rfl)) sc_is_integer (b_is_integer m_bool m_int m_isinstance)
  obtain ⟨fd_is_within, D_is_within⟩ := c.def_ 1 (d := HeadT.d_is_within) rfl
  have h_is_within : FnX P w K mg base "is_within" (defArgs HeadT.s_is_within) 2 ps_is_within F_is_within := fnx D_is_within (He.glo_ok KX G (c.fact 1 (f := .glo "is_within") rfl)) sc_is_within (b_is_within h_is_integer)
  obtain ⟨fd_is_list, D_is_list⟩ := c.def_ 2 (d := HeadT.d_is_list) rfl
  have h_is_list : FnX P w K mg base "is_list" (defArgs HeadT.s_is_list) 1 ps_is_list F_is_list := fnx D_is_list (He.glo_ok KX G (c.fact 2 (f := .glo "is_list") rfl)) sc_is_list (b_is_list m_isinstance m_list m_tuple)
  obtain ⟨fd_want_at_most, D_want_at_most⟩ := c.def_ 3 (d := HeadT.d_want_at_most) rfl
  have h_want_at_most : FnX P w K mg base "want_at_most" (defArgs HeadT.s_want_at_most) 1 ps_want_at_most F_want_at_most := fnx D_want_at_most (He.glo_ok KX G (c.fact 3 (f := .glo "want_at_most") rfl)) sc_want_at_most (b_want_at_most)
  obtain ⟨fd_is_row_of, D_is_row_of⟩ := c.def_ 4 (d := HeadT.d_is_row_of) rfl
  have h_is_row_of : FnX P w K mg base "is_row_of" (defArgs HeadT.s_is_row_of) 3 ps_is_row_of F_is_row_of := fnx D_is_row_of (He.glo_ok KX G (c.fact 4 (f := .glo "is_row_of") rfl)) sc_is_row_of (b_is_row_of m_MOST_COLUMNS m_MOST_NUMBER h_is_within m_all m_isinstance m_len m_tuple)
  obtain ⟨fd_is_table_of, D_is_table_of⟩ := c.def_ 5 (d := HeadT.d_is_table_of) rfl
  have h_is_table_of : FnX P w K mg base "is_table_of" (defArgs HeadT.s_is_table_of) 4 ps_is_table_of F_is_table_of := fnx D_is_table_of (He.glo_ok KX G (c.fact 5 (f := .glo "is_table_of") rfl)) sc_is_table_of (b_is_table_of m_MOST_ROWS h_is_list h_is_row_of m_all m_len)
  obtain ⟨fd_check_table, D_check_table⟩ := c.def_ 6 (d := HeadT.d_check_table) rfl
  have h_check_table : FnX P w K mg base "check_table" (defArgs HeadT.s_check_table) 5 ps_check_table F_check_table := fnx D_check_table (He.glo_ok KX G (c.fact 6 (f := .glo "check_table") rfl)) sc_check_table (b_check_table h_is_table_of)
  obtain ⟨fd_is_vector_of, D_is_vector_of⟩ := c.def_ 7 (d := HeadT.d_is_vector_of) rfl
  have h_is_vector_of : FnX P w K mg base "is_vector_of" (defArgs HeadT.s_is_vector_of) 3 ps_is_vector_of F_is_vector_of := fnx D_is_vector_of (He.glo_ok KX G (c.fact 7 (f := .glo "is_vector_of") rfl)) sc_is_vector_of (b_is_vector_of m_MOST_COLUMNS m_MOST_ENTRY h_is_within m_all m_isinstance m_len m_tuple)
  obtain ⟨fd_check_vector, D_check_vector⟩ := c.def_ 8 (d := HeadT.d_check_vector) rfl
  have h_check_vector : FnX P w K mg base "check_vector" (defArgs HeadT.s_check_vector) 4 ps_check_vector F_check_vector := fnx D_check_vector (He.glo_ok KX G (c.fact 8 (f := .glo "check_vector") rfl)) sc_check_vector (b_check_vector h_is_vector_of m_len)
  obtain ⟨fd_product_of, D_product_of⟩ := c.def_ 9 (d := HeadT.d_product_of) rfl
  have h_product_of : FnX P w K mg base "product_of" (defArgs HeadT.s_product_of) 1 ps_product_of F_product_of := fnx D_product_of (He.glo_ok KX G (c.fact 9 (f := .glo "product_of") rfl)) sc_product_of (b_product_of m_sum m_zip)
  obtain ⟨fd_turned_of, D_turned_of⟩ := c.def_ 10 (d := HeadT.d_turned_of) rfl
  have h_turned_of : FnX P w K mg base "turned_of" (defArgs HeadT.s_turned_of) 1 ps_turned_of F_turned_of := fnx D_turned_of (He.glo_ok KX G (c.fact 10 (f := .glo "turned_of") rfl)) sc_turned_of (b_turned_of m_len m_range m_tuple)
  obtain ⟨fd_times_of, D_times_of⟩ := c.def_ 11 (d := HeadT.d_times_of) rfl
  have h_times_of : FnX P w K mg base "times_of" (defArgs HeadT.s_times_of) 2 ps_times_of F_times_of := fnx D_times_of (He.glo_ok KX G (c.fact 11 (f := .glo "times_of") rfl)) sc_times_of (b_times_of h_product_of m_tuple)
  obtain ⟨fd_combined_of, D_combined_of⟩ := c.def_ 12 (d := HeadT.d_combined_of) rfl
  have h_combined_of : FnX P w K mg base "combined_of" (defArgs HeadT.s_combined_of) 3 ps_combined_of F_combined_of := fnx D_combined_of (He.glo_ok KX G (c.fact 12 (f := .glo "combined_of") rfl)) sc_combined_of (b_combined_of h_times_of h_turned_of)
  obtain ⟨fd_small, D_small⟩ := c.def_ 13 (d := HeadT.d_small) rfl
  have h_small : FnX P w K mg base "small" (defArgs HeadT.s_small) 2 ps_small F_small := fnx D_small (He.glo_ok KX G (c.fact 13 (f := .glo "small") rfl)) sc_small (b_small m_MOST_NUMBER h_want_at_most m_abs m_max)
  obtain ⟨fd_turned, D_turned⟩ := c.def_ 14 (d := HeadT.d_turned) rfl
  have h_turned : FnX P w K mg base "turned" (defArgs HeadT.s_turned) 6 ps_turned F_turned := fnx D_turned (He.glo_ok KX G (c.fact 14 (f := .glo "turned") rfl)) sc_turned (b_turned h_check_table h_turned_of)
  obtain ⟨fd_combined, D_combined⟩ := c.def_ 15 (d := HeadT.d_combined) rfl
  have h_combined : FnX P w K mg base "combined" (defArgs HeadT.s_combined) 6 ps_combined F_combined := fnx D_combined (He.glo_ok KX G (c.fact 15 (f := .glo "combined") rfl)) sc_combined (b_combined h_check_table h_check_vector h_combined_of m_len)
  obtain ⟨fd_times_table, D_times_table⟩ := c.def_ 16 (d := HeadT.d_times_table) rfl
  have h_times_table : FnX P w K mg base "times_table" (defArgs HeadT.s_times_table) 6 ps_times_table F_times_table := fnx D_times_table (He.glo_ok KX G (c.fact 16 (f := .glo "times_table") rfl)) sc_times_table (b_times_table h_check_table h_combined_of h_small m_len)
  obtain ⟨fd_are_integers_of, D_are_integers_of⟩ := c.def_ 17 (d := HeadT.d_are_integers_of) rfl
  have h_are_integers_of : FnX P w K mg base "are_integers_of" (defArgs HeadT.s_are_integers_of) 2 ps_are_integers_of F_are_integers_of := fnx D_are_integers_of (He.glo_ok KX G (c.fact 17 (f := .glo "are_integers_of") rfl)) sc_are_integers_of (b_are_integers_of h_is_integer m_all m_isinstance m_len m_tuple)
  obtain ⟨fd_is_chain_of, D_is_chain_of⟩ := c.def_ 18 (d := HeadT.d_is_chain_of) rfl
  have h_is_chain_of : FnX P w K mg base "is_chain_of" (defArgs HeadT.s_is_chain_of) 5 ps_is_chain_of F_is_chain_of := fnx D_is_chain_of (He.glo_ok KX G (c.fact 18 (f := .glo "is_chain_of") rfl)) sc_is_chain_of (b_is_chain_of h_combined_of h_is_table_of m_all m_any m_isinstance m_len m_tuple)
  obtain ⟨fd_check_chain, D_check_chain⟩ := c.def_ 19 (d := HeadT.d_check_chain) rfl
  have h_check_chain : FnX P w K mg base "check_chain" (defArgs HeadT.s_check_chain) 6 ps_check_chain F_check_chain := fnx D_check_chain (He.glo_ok KX G (c.fact 19 (f := .glo "check_chain") rfl)) sc_check_chain (b_check_chain h_is_chain_of)
  obtain ⟨fd_check_lines, D_check_lines⟩ := c.def_ 20 (d := HeadT.d_check_lines) rfl
  have h_check_lines : FnX P w K mg base "check_lines" (defArgs HeadT.s_check_lines) 4 ps_check_lines F_check_lines := fnx D_check_lines (He.glo_ok KX G (c.fact 20 (f := .glo "check_lines") rfl)) sc_check_lines (b_check_lines h_is_vector_of m_len)
  obtain ⟨fd_is_round_of, D_is_round_of⟩ := c.def_ 21 (d := HeadT.d_is_round_of) rfl
  have h_is_round_of : FnX P w K mg base "is_round_of" (defArgs HeadT.s_is_round_of) 4 ps_is_round_of F_is_round_of := fnx D_is_round_of (He.glo_ok KX G (c.fact 21 (f := .glo "is_round_of") rfl)) sc_is_round_of (b_is_round_of h_combined_of m_any)
  obtain ⟨fd_is_chain, D_is_chain⟩ := c.def_ 22 (d := HeadT.d_is_chain) rfl
  have h_is_chain : FnX P w K mg base "is_chain" (defArgs HeadT.s_is_chain) 6 ps_is_chain F_is_chain := fnx D_is_chain (He.glo_ok KX G (c.fact 22 (f := .glo "is_chain") rfl)) sc_is_chain (b_is_chain h_is_chain_of)
  obtain ⟨fd_ends_of, D_ends_of⟩ := c.def_ 23 (d := HeadT.d_ends_of) rfl
  have h_ends_of : FnX P w K mg base "ends_of" (defArgs HeadT.s_ends_of) 7 ps_ends_of F_ends_of := fnx D_ends_of (He.glo_ok KX G (c.fact 23 (f := .glo "ends_of") rfl)) sc_ends_of (b_ends_of h_check_chain h_check_lines h_combined_of)
  obtain ⟨fd_rim, D_rim⟩ := c.def_ 24 (d := HeadT.d_rim) rfl
  have h_rim : FnX P w K mg base "rim" (defArgs HeadT.s_rim) 7 ps_rim F_rim := fnx D_rim (He.glo_ok KX G (c.fact 24 (f := .glo "rim") rfl)) sc_rim (b_rim h_check_chain h_combined_of h_is_vector_of m_len)
  obtain ⟨fd_is_round, D_is_round⟩ := c.def_ 25 (d := HeadT.d_is_round) rfl
  have h_is_round : FnX P w K mg base "is_round" (defArgs HeadT.s_is_round) 7 ps_is_round F_is_round := fnx D_is_round (He.glo_ok KX G (c.fact 25 (f := .glo "is_round") rfl)) sc_is_round (b_is_round h_are_integers_of h_check_chain h_is_round_of m_len)
  obtain ⟨fd_turned_chain, D_turned_chain⟩ := c.def_ 26 (d := HeadT.d_turned_chain) rfl
  have h_turned_chain : FnX P w K mg base "turned_chain" (defArgs HeadT.s_turned_chain) 7 ps_turned_chain F_turned_chain := fnx D_turned_chain (He.glo_ok KX G (c.fact 26 (f := .glo "turned_chain") rfl)) sc_turned_chain (b_turned_chain h_check_chain h_turned_of)
  obtain ⟨fd__law_pot, D__law_pot⟩ := c.def_ 27 (d := HeadT.d__law_pot) rfl
  have h__law_pot : FnX P w K mg base "_law_pot" (defArgs HeadT.s__law_pot) 1 ps__law_pot F__law_pot := fnx D__law_pot (He.glo_ok KX G (c.fact 27 (f := .glo "_law_pot") rfl)) sc__law_pot (b__law_pot m_abs m_int m_len m_max)
  obtain ⟨fd__law_draw, D__law_draw⟩ := c.def_ 28 (d := HeadT.d__law_draw) rfl
  have h__law_draw : FnX P w K mg base "_law_draw" (defArgs HeadT.s__law_draw) 1 ps__law_draw F__law_draw := fnx D__law_draw (He.glo_ok KX G (c.fact 28 (f := .glo "_law_draw") rfl)) sc__law_draw (b__law_draw m_divmod m_int)
  obtain ⟨fd__law_product, D__law_product⟩ := c.def_ 29 (d := HeadT.d__law_product) rfl
  have h__law_product : FnX P w K mg base "_law_product" (defArgs HeadT.s__law_product) 1 ps__law_product F__law_product := fnx D__law_product (He.glo_ok KX G (c.fact 29 (f := .glo "_law_product") rfl)) sc__law_product (b__law_product m_sum m_zip)
  obtain ⟨fd__law_turned, D__law_turned⟩ := c.def_ 30 (d := HeadT.d__law_turned) rfl
  have h__law_turned : FnX P w K mg base "_law_turned" (defArgs HeadT.s__law_turned) 1 ps__law_turned F__law_turned := fnx D__law_turned (He.glo_ok KX G (c.fact 30 (f := .glo "_law_turned") rfl)) sc__law_turned (b__law_turned m_len m_range m_tuple)
  obtain ⟨fd__law_combined, D__law_combined⟩ := c.def_ 31 (d := HeadT.d__law_combined) rfl
  have h__law_combined : FnX P w K mg base "_law_combined" (defArgs HeadT.s__law_combined) 2 ps__law_combined F__law_combined := fnx D__law_combined (He.glo_ok KX G (c.fact 31 (f := .glo "_law_combined") rfl)) sc__law_combined (b__law_combined h__law_product h__law_turned m_tuple)
  obtain ⟨fd__law_led, D__law_led⟩ := c.def_ 32 (d := HeadT.d__law_led) rfl
  have h__law_led : FnX P w K mg base "_law_led" (defArgs HeadT.s__law_led) 1 ps__law_led F__law_led := fnx D__law_led (He.glo_ok KX G (c.fact 32 (f := .glo "_law_led") rfl)) sc__law_led (b__law_led m_abs m_len m_list m_min m_range m_zip)
  obtain ⟨fd__law_kernel, D__law_kernel⟩ := c.def_ 33 (d := HeadT.d__law_kernel) rfl
  have h__law_kernel : FnX P w K mg base "_law_kernel" (defArgs HeadT.s__law_kernel) 2 ps__law_kernel F__law_kernel := fnx D__law_kernel (He.glo_ok KX G (c.fact 33 (f := .glo "_law_kernel") rfl)) sc__law_kernel (b__law_kernel h__law_led m_enumerate m_int m_len m_range m_tuple)
  obtain ⟨fd__law_chain, D__law_chain⟩ := c.def_ 34 (d := HeadT.d__law_chain) rfl
  have h__law_chain : FnX P w K mg base "_law_chain" (defArgs HeadT.s__law_chain) 3 ps__law_chain F__law_chain := fnx D__law_chain (He.glo_ok KX G (c.fact 34 (f := .glo "_law_chain") rfl)) sc__law_chain (b__law_chain h__law_draw h__law_kernel m_abs m_max m_range m_tuple m_zip)
  obtain ⟨fd__law_round, D__law_round⟩ := c.def_ 35 (d := HeadT.d__law_round) rfl
  have h__law_round : FnX P w K mg base "_law_round" (defArgs HeadT.s__law_round) 3 ps__law_round F__law_round := fnx D__law_round (He.glo_ok KX G (c.fact 35 (f := .glo "_law_round") rfl)) sc__law_round (b__law_round h__law_draw h__law_kernel m_abs m_len m_max m_tuple m_zip)
  obtain ⟨fd__law_right, D__law_right⟩ := c.def_ 36 (d := HeadT.d__law_right) rfl
  have h__law_right : FnX P w K mg base "_law_right" (defArgs HeadT.s__law_right) 8 ps__law_right F__law_right := fnx D__law_right (He.glo_ok KX G (c.fact 36 (f := .glo "_law_right") rfl)) sc__law_right (b__law_right h__law_chain h__law_combined h__law_draw h__law_round h__law_turned h_combined h_ends_of h_is_chain h_is_round h_rim h_times_table h_turned h_turned_chain m_int m_len m_list m_range m_repr m_tuple m_zip)
  obtain ⟨fd_law, D_law⟩ := c.def_ 37 (d := HeadT.d_law) rfl
  have h_law : FnX P w K mg base "law" (defArgs HeadT.s_law) 9 ps_law F_law := fnx D_law (He.glo_ok KX G (c.fact 37 (f := .glo "law") rfl)) sc_law (b_law h__law_pot h__law_right m_all m_len m_max m_min m_range)
  exact h_law
end PF

open PySem PySem.W PySem.Calls PyProof.Rows
theorem PySem.Challenge.cw_wholegrids_k41_whole_ends_rims_and_round_holds : PySem.Challenge.rw_wholegrids_k41_whole_ends_rims_and_round.Holds := by
  w_on; o_law
  refine HandSHeadRun.head_any (r := OpenLaw.row PySem.Challenge.rw_wholegrids_k41_whole_ends_rims_and_round) (q := view (OpenLaw.row PySem.Challenge.rw_wholegrids_k41_whole_ends_rims_and_round).prog [57]) (H := HeadT.hk) (ob := HeadT.ob) (M := 4000) (loose := HeadT.loose) (d := HandSHeadRun.topDef (OpenLaw.row PySem.Challenge.rw_wholegrids_k41_whole_ends_rims_and_round).prog 57) (kwd := []) HeadT.ob_eq
    (by kernel_rfl) (fun s => by kernel_rfl) HeadT.run (by kernel_rfl) (by kernel_rfl) (by kernel_rfl) (by rfl) (by first | assumption | decide +kernel) (by decide +kernel) ⟨rfl, rfl, rfl, rfl, rfl, by decide +kernel⟩ ?hw ?hc
  case hw => w_witness2
  case hc =>
    have en : (HandSHeadRun.topDef (OpenLaw.row PySem.Challenge.rw_wholegrids_k41_whole_ends_rims_and_round).prog 57).name = ("law" : PySem.Str) := by kernel_rfl
    refine PF.law_walk (l := PySem.Challenge.rw_wholegrids_k41_whole_ends_rims_and_round) (n := 63) (k := 9) (x := "script") (params := PF.lawParams) (G := PF.F_law) rfl (by decide) (by kernel_rfl) ⟨rfl, by decide, by decide⟩ (by rw [en]; exact fun _ _ _ _ _ _ _ _ us ws h1 h2 => match us, ws, h1, h2 with | [_], [], _, _ => rfl) ?F PF.law_ok
    intro w mg fa h Y G hmg0
    obtain ⟨K, KX, c⟩ := Y
    refine ⟨K, KX, fun base KB GB => ?_⟩
    rw [en]
    exact PF.facts KB GB c

