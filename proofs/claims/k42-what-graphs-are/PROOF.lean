import PyProof.Rows.All
import Wide.All
import OpenK.AllK
import Wide.FinOn
import HandS.ForMost
import KE.SortData
import HandS.ForExc
import HandS.Flow
import HandS.Wide
import HandS.TupAny
import HandS.Deep
import HandS.IsInst
import HandS.Style
import HandS.TupLe
import HandS.DictTup
import PyProof.StrOps2
import PyProof.StrBlock2
import PyProof.Rows.InDataRows
import HandS.Text
import HandS.TupLen
import HandS.WordsDict
import HandS.Conv
import PyProof.TupleOfStr
import HandS.More
import HandS.Iter
import HandS.Zip
import HandS.Comp
import HandS.Codes
import HandS.EndBits
import Wide.Tac
import KE.BitLaws
import PySem.Challenge.RW_cutstairs_k42_what_graphs_are
set_option Elab.async false
set_option linter.all false
set_option maxRecDepth 100000
set_option maxHeartbeats 16000000
/-! Values as plain data: what the heap holds, the shared part S, what stays. -/
namespace PP
open PySem PySem.Spec L2
open PySem.PyData (strOk)

/-- plain data: texts as code points, dicts by the kind of their keys -/
inductive D where
  | non | bl (b : Bool) | int (i : Int) | str (s : Str) | lst (xs : List D) | fl (xs : List D) | tup (xs : List D) | dk (kvs : List (Key × D)) | dt (kvs : List (List Key × D))
  deriving Inhabited
abbrev Sh := Addr → Prop
abbrev Fg := PySem.W.Frag

def sOk (x : Str) : Bool := strOk x && decide (x.length ≤ sizeLine)
def kOk : Key → Bool
  | .inl _ => true
  | .inr x => sOk x
def keyD : Key → D
  | .inl i => .int i
  | .inr x => .str x

/-- a list that nobody changes: locked, or of the module -/
def LsF (K : Fg) (H : Hp) (a : Addr) (xs : List V) : Prop := (∃ o, H a = some (.frz o (.lst xs))) ∨ SqL K (fun _ => none) a xs
theorem sqL_none {K : Fg} {H : Hp} {a : Addr} {xs : List V} (h : SqL K (fun _ => none) a xs) : SqL K H a xs := by
  rcases h with (h | ⟨o, h⟩) | h
  · cases h
  · cases h
  · exact .inr h
theorem LsF.sq {K : Fg} {H : Hp} {a : Addr} {xs : List V} (h : LsF K H a xs) : SqL K H a xs := by
  rcases h with ⟨o, h⟩ | h
  · exact .inl (.inr ⟨o, h⟩)
  · exact sqL_none h

mutual
def Rp (K : Fg) (S : Sh) (H : Hp) : V → D → Prop
  | v, .non => v = .non
  | v, .bl b => v = .bl b
  | v, .int i => v = .int i
  | v, .str x => v = .str x ∧ sOk x = true
  | v, .lst ds => ∃ a xs, v = .ref a ∧ (S a ∧ H a = some (.lst xs)) ∧ RpA K S H xs ds
  | v, .fl ds => ∃ a xs, v = .ref a ∧ LsF K H a xs ∧ RpA K S H xs ds
  | v, .tup ds => ∃ a xs, v = .ref a ∧ SqT K H a xs ∧ RpA K S H xs ds
  | v, .dk kds => ∃ a kvs, v = .ref a ∧ (S a ∧ H a = some (.dK kvs)) ∧ RpD K S H kvs kds
  | v, .dt kds => ∃ a kvs, v = .ref a ∧ (S a ∧ H a = some (.dT kvs)) ∧ RpT K S H kvs kds
def RpA (K : Fg) (S : Sh) (H : Hp) : List V → List D → Prop
  | [], [] => True
  | v :: vs, d :: ds => Rp K S H v d ∧ RpA K S H vs ds
  | [], _ :: _ => False
  | _ :: _, [] => False
def RpD (K : Fg) (S : Sh) (H : Hp) : List (Key × V) → List (Key × D) → Prop
  | [], [] => True
  | (k, v) :: r, (e, d) :: s => (e = k ∧ kOk k = true) ∧ Rp K S H v d ∧ RpD K S H r s
  | [], _ :: _ => False
  | _ :: _, [] => False
def RpT (K : Fg) (S : Sh) (H : Hp) : List (List Key × V) → List (List Key × D) → Prop
  | [], [] => True
  | (k, v) :: r, (e, d) :: s => (e = k ∧ k.all kOk = true) ∧ Rp K S H v d ∧ RpT K S H r s
  | [], _ :: _ => False
  | _ :: _, [] => False
end

/-- what stays behind any step: the shared part, tuples, what is locked -/
structure Gs (S : Sh) (H : Hp) (S' : Sh) (H' : Hp) : Prop where
  sub : ∀ a, S a → S' a
  keep : ∀ a, S a → H' a = H a
  tup : ∀ a xs, H a = some (.tup xs) → H' a = some (.tup xs)
  frz : ∀ a o u, H a = some (.frz o u) → H' a = some (.frz o u)
theorem Gs.refl {S : Sh} {H : Hp} : Gs S H S H := ⟨fun _ h => h, fun _ _ => rfl, fun _ _ h => h, fun _ _ _ h => h⟩
theorem Gs.trans {S S1 S2 : Sh} {H H1 H2 : Hp} (a : Gs S H S1 H1) (b : Gs S1 H1 S2 H2) : Gs S H S2 H2 :=
  ⟨fun c h => b.sub c (a.sub c h), fun c h => (b.keep c (a.sub c h)).trans (a.keep c h), fun c xs h => b.tup c xs (a.tup c xs h), fun c o u h => b.frz c o u (a.frz c o u h)⟩

theorem LsF.mono {K : Fg} {S S' : Sh} {H H' : Hp} {a : Addr} {xs : List V} (g : Gs S H S' H') (h : LsF K H a xs) : LsF K H' a xs := by
  rcases h with ⟨o, h⟩ | h
  · exact .inl ⟨o, g.frz a o _ h⟩
  · exact .inr h
theorem Gs.sqT {K : Fg} {S S' : Sh} {H H' : Hp} {a : Addr} {xs : List V} (g : Gs S H S' H') (h : SqT K H a xs) : SqT K H' a xs := by
  rcases h with (h | ⟨o, h⟩) | h
  · exact .inl (.inl (g.tup a xs h))
  · exact .inl (.inr ⟨o, g.frz a o _ h⟩)
  · exact .inr h
section
variable {K : Fg} {S S' : Sh} {H H' : Hp} (g : Gs S H S' H')
include g
mutual
theorem Rp.mono : ∀ (d : D) (v : V), Rp K S H v d → Rp K S' H' v d
  | .non, _, h => by simp only [Rp] at h ⊢; exact h
  | .bl _, _, h => by simp only [Rp] at h ⊢; exact h
  | .int _, _, h => by simp only [Rp] at h ⊢; exact h
  | .str _, _, h => by simp only [Rp] at h ⊢; exact h
  | .lst ds, v, h => by
    simp only [Rp] at h ⊢
    obtain ⟨a, xs, e, l, r⟩ := h
    exact ⟨a, xs, e, ⟨g.sub a l.1, (g.keep a l.1).trans l.2⟩, RpA.mono ds xs r⟩
  | .fl ds, v, h => by
    simp only [Rp] at h ⊢
    obtain ⟨a, xs, e, l, r⟩ := h
    exact ⟨a, xs, e, l.mono g, RpA.mono ds xs r⟩
  | .tup ds, v, h => by
    simp only [Rp] at h ⊢
    obtain ⟨a, xs, e, l, r⟩ := h
    exact ⟨a, xs, e, g.sqT l, RpA.mono ds xs r⟩
  | .dk kds, v, h => by
    simp only [Rp] at h ⊢
    obtain ⟨a, kvs, e, ⟨s, l⟩, r⟩ := h
    exact ⟨a, kvs, e, ⟨g.sub a s, (g.keep a s).trans l⟩, RpD.mono kds kvs r⟩
  | .dt kds, v, h => by
    simp only [Rp] at h ⊢
    obtain ⟨a, kvs, e, ⟨s, l⟩, r⟩ := h
    exact ⟨a, kvs, e, ⟨g.sub a s, (g.keep a s).trans l⟩, RpT.mono kds kvs r⟩
theorem RpA.mono : ∀ (ds : List D) (xs : List V), RpA K S H xs ds → RpA K S' H' xs ds
  | [], [], _ => by simp only [RpA]
  | [], _ :: _, h => by simp only [RpA] at h
  | _ :: _, [], h => by simp only [RpA] at h
  | d :: ds, v :: vs, h => by
    simp only [RpA] at h ⊢
    exact ⟨Rp.mono d v h.1, RpA.mono ds vs h.2⟩
theorem RpD.mono : ∀ (ds : List (Key × D)) (xs : List (Key × V)), RpD K S H xs ds → RpD K S' H' xs ds
  | [], [], _ => by simp only [RpD]
  | [], _ :: _, h => by simp only [RpD] at h
  | _ :: _, [], h => by simp only [RpD] at h
  | (e, d) :: ds, (k, v) :: vs, h => by
    simp only [RpD] at h ⊢
    exact ⟨h.1, Rp.mono d v h.2.1, RpD.mono ds vs h.2.2⟩
theorem RpT.mono : ∀ (ds : List (List Key × D)) (xs : List (List Key × V)), RpT K S H xs ds → RpT K S' H' xs ds
  | [], [], _ => by simp only [RpT]
  | [], _ :: _, h => by simp only [RpT] at h
  | _ :: _, [], h => by simp only [RpT] at h
  | (e, d) :: ds, (k, v) :: vs, h => by
    simp only [RpT] at h ⊢
    exact ⟨h.1, Rp.mono d v h.2.1, RpT.mono ds vs h.2.2⟩
end
end

/-- what can be changed: lists and dicts -/
def isMut : D → Bool
  | .lst _ => true
  | .dk _ => true
  | .dt _ => true
  | _ => false
/-- a list or dict at a, ours alone; its items are shared -/
inductive Ow (K : Fg) (S : Sh) (H : Hp) (a : Addr) : D → Prop
  | lst {xs : List V} {ds : List D} : ¬ S a → H a = some (.lst xs) → RpA K S H xs ds → Ow K S H a (.lst ds)
  | dik {kvs : List (Key × V)} {kds : List (Key × D)} : ¬ S a → H a = some (.dK kvs) → RpD K S H kvs kds → Ow K S H a (.dk kds)
  | dit {kvs : List (List Key × V)} {kds : List (List Key × D)} : ¬ S a → H a = some (.dT kvs) → RpT K S H kvs kds → Ow K S H a (.dt kds)
theorem Ow.dom {K : Fg} {S : Sh} {H : Hp} {a : Addr} {d : D} (h : Ow K S H a d) : ∃ o, H a = some o := by cases h <;> exact ⟨_, by assumption⟩
theorem Ow.not {K : Fg} {S : Sh} {H : Hp} {a : Addr} {d : D} (h : Ow K S H a d) : ¬ S a := by cases h <;> assumption
theorem Ow.isMut {K : Fg} {S : Sh} {H : Hp} {a : Addr} {d : D} (h : Ow K S H a d) : PP.isMut d = true := by cases h <;> rfl
theorem Ow.mono {K : Fg} {S S' : Sh} {H H' : Hp} {a : Addr} {d : D} (g : Gs S H S' H') (hs : ¬ S' a) (e : H' a = H a) (h : Ow K S H a d) : Ow K S' H' a d := by
  cases h with
  | lst n l r => exact .lst hs (e.trans l) (RpA.mono g _ _ r)
  | dik n l r => exact .dik hs (e.trans l) (RpD.mono g _ _ r)
  | dit n l r => exact .dit hs (e.trans l) (RpT.mono g _ _ r)
/-- read now: its own top may be anybody's -/
def Rt (K : Fg) (S : Sh) (H : Hp) (v : V) (d : D) : Prop := Rp K S H v d ∨ ∃ a, v = .ref a ∧ Ow K S H a d
theorem RpA.len {K : Fg} {S : Sh} {H : Hp} : ∀ {xs : List V} {ds : List D}, RpA K S H xs ds → xs.length = ds.length
  | [], [], _ => rfl
  | [], _ :: _, h => by simp only [RpA] at h
  | _ :: _, [], h => by simp only [RpA] at h
  | v :: vs, d :: ds, h => by
    simp only [RpA] at h
    simp only [List.length_cons, RpA.len h.2]
/-- it goes to all -/
theorem Gs.share {S : Sh} {H : Hp} (a : Addr) : Gs S H (fun b => S b ∨ b = a) H := ⟨fun _ h => .inl h, fun _ _ => rfl, fun _ _ h => h, fun _ _ _ h => h⟩
theorem Ow.share {K : Fg} {S : Sh} {H : Hp} {a : Addr} {d : D} (h : Ow K S H a d) : Rp K (fun b => S b ∨ b = a) H (.ref a) d := by
  cases h with
  | lst n l r =>
    simp only [Rp]
    exact ⟨a, _, rfl, ⟨.inr rfl, l⟩, RpA.mono (Gs.share a) _ _ r⟩
  | dik n l r =>
    simp only [Rp]
    exact ⟨a, _, rfl, ⟨.inr rfl, l⟩, RpD.mono (Gs.share a) _ _ r⟩
  | dit n l r =>
    simp only [Rp]
    exact ⟨a, _, rfl, ⟨.inr rfl, l⟩, RpT.mono (Gs.share a) _ _ r⟩

/-! ### an expression's step: nothing that stood is changed -/
def SD (S : Sh) (H : Hp) : Prop := ∀ a, S a → ∃ o, H a = some o
structure Gr (S : Sh) (H : Hp) (S' : Sh) (H' : Hp) : Prop where
  same : Same H H'
  sub : ∀ a, S a → S' a
  new : ∀ a, S' a → S a ∨ H a = none
  sd : SD S' H'
theorem Same.none {H H' : Hp} (s : Same H H') {a : Addr} (h : H' a = none) : H a = none := s.free h
theorem Gr.refl {S : Sh} {H : Hp} (sd : SD S H) : Gr S H S H := ⟨Same.refl H, fun _ h => h, fun _ h => .inl h, sd⟩
theorem Gr.trans {S S1 S2 : Sh} {H H1 H2 : Hp} (a : Gr S H S1 H1) (b : Gr S1 H1 S2 H2) : Gr S H S2 H2 :=
  ⟨a.same.trans b.same, fun c h => b.sub c (a.sub c h), fun c h => (b.new c h).elim (a.new c) fun z => .inr (a.same.free z), b.sd⟩
theorem Gr.gs {S S' : Sh} {H H' : Hp} (g : Gr S H S' H') (sd : SD S H) : Gs S H S' H' :=
  ⟨g.sub, fun a s => by
    obtain ⟨o, e⟩ := sd a s
    rw [e, g.same a o e], fun a xs h => g.same a _ h, fun a o u h => g.same a _ h⟩
theorem same_new {H : Hp} {p : Addr} {o : HO} (h : H p = none) : Same H (upd H p o) := fun b x e => by
  rw [upd_ne (ne_of_none e h)]
  exact e
theorem SD.upd {S : Sh} {H : Hp} {p : Addr} {o : HO} (sd : SD S H) : SD S (upd H p o) := fun a s => by
  by_cases e : a = p
  · exact ⟨o, by rw [e, upd_same]⟩
  · rw [upd_ne e]; exact sd a s
theorem Gr.alloc {S : Sh} {H : Hp} {p : Addr} {o : HO} (sd : SD S H) (h : H p = none) : Gr S H S (upd H p o) := ⟨same_new h, fun _ s => s, fun _ s => .inl s, sd.upd⟩
theorem SD.not {S : Sh} {H : Hp} {p : Addr} (sd : SD S H) (h : H p = none) : ¬ S p := fun s => by
  obtain ⟨o, e⟩ := sd p s
  rw [h] at e; cases e
theorem Ow.gr {K : Fg} {S S' : Sh} {H H' : Hp} {a : Addr} {d : D} (g : Gr S H S' H') (sd : SD S H) (h : Ow K S H a d) : Ow K S' H' a d := by
  obtain ⟨o, e⟩ := h.dom
  refine h.mono (g.gs sd) (fun s => (g.new a s).elim h.not fun z => ?_) ?_
  · rw [z] at e; cases e
  · rw [e, g.same a o e]
theorem Rp.gr {K : Fg} {S S' : Sh} {H H' : Hp} {v : V} {d : D} (g : Gr S H S' H') (sd : SD S H) (h : Rp K S H v d) : Rp K S' H' v d := Rp.mono (g.gs sd) _ _ h
theorem RpA.gr {K : Fg} {S S' : Sh} {H H' : Hp} {v : List V} {d : List D} (g : Gr S H S' H') (sd : SD S H) (h : RpA K S H v d) : RpA K S' H' v d := RpA.mono (g.gs sd) _ _ h
theorem Rt.gr {K : Fg} {S S' : Sh} {H H' : Hp} {v : V} {d : D} (g : Gr S H S' H') (sd : SD S H) (h : Rt K S H v d) : Rt K S' H' v d := by
  rcases h with h | ⟨a, e, h⟩
  · exact .inl (h.gr g sd)
  · exact .inr ⟨a, e, h.gr g sd⟩
theorem Gr.share {S : Sh} {H H0 : Hp} {S0 : Sh} {a : Addr} (g : Gr S0 H0 S H) (n : H0 a = none) (e : ∃ o, H a = some o) : Gr S0 H0 (fun b => S b ∨ b = a) H :=
  ⟨g.same, fun b s => .inl (g.sub b s), fun b s => s.elim (g.new b) fun z => by rw [z]; exact .inr n, fun b s => s.elim (g.sd b) fun z => by rw [z]; exact e⟩

/-! ### how a value comes: shared, fresh, or read now -/
inductive Md where
  | sh | fr | pk
  deriving DecidableEq
/-- H0: the heap ahead of the expression -/
def Res (K : Fg) (H0 : Hp) (S : Sh) (H : Hp) : Md → V → D → Prop
  | .sh, v, d => Rp K S H v d
  | .fr, v, d => (isMut d = false ∧ Rp K S H v d) ∨ ∃ a, v = .ref a ∧ Ow K S H a d ∧ H0 a = none
  | .pk, v, d => Rt K S H v d
theorem Res.rt {K : Fg} {H0 H : Hp} {S : Sh} {m : Md} {v : V} {d : D} (h : Res K H0 S H m v d) : Rt K S H v d := by
  cases m with
  | sh => exact .inl h
  | fr =>
    rcases h with ⟨_, h⟩ | ⟨a, e, h, _⟩
    · exact .inl h
    · exact .inr ⟨a, e, h⟩
  | pk => exact h

/-- sizes -/
def HSz (K : Fg) (H : Hp) : Prop := (∀ a xs, SqL K H a xs → xs.length ≤ sizeLine) ∧ (∀ a xs, SqT K H a xs → xs.length ≤ sizeLine) ∧ (∀ a kvs, H a = some (.dK kvs) → kvs.length ≤ sizeLine) ∧ ∀ a kvs, H a = some (.dT kvs) → kvs.length ≤ sizeLine
theorem hsz_of {X : Cx} {pins : List (Addr × Obj)} {σ : St} {H : Hp} {s : Shared} (I : Inv X pins σ H s) : HSz X.K H :=
  ⟨fun a xs h => let ⟨_, _, _, z⟩ := I.list h; z, fun a xs h => let ⟨_, _, _, z⟩ := I.tuple h; z, fun a kvs h => (I.hok a _ h).1, fun a kvs h => (I.hok a _ h).1⟩
end PP
/-! The small language of pure code, and what it computes. -/
namespace PP
open PySem PySem.Spec L2
open PySem.PyData (strOk)

inductive R (α : Type) where
  | ok (a : α) | err (c : Nat) (p : D) | bad
def R.bind {α β : Type} : R α → (α → R β) → R β
  | .ok a, f => f a
  | .err c p, _ => .err c p
  | .bad, _ => .bad
@[simp] theorem R.bind_ok {α β : Type} (a : α) (f : α → R β) : (R.ok a).bind f = f a := (rfl)
@[simp] theorem R.bind_bad {α β : Type} (f : α → R β) : (R.bad : R α).bind f = .bad := (rfl)
@[simp] theorem R.bind_err {α β : Type} (c : Nat) (p : D) (f : α → R β) : (R.err c p : R α).bind f = .err c p := (rfl)
/-- within a comprehension nothing may be raised -/
def R.calm {α : Type} : R α → R α
  | .ok a => .ok a
  | _ => .bad
@[simp] theorem R.calm_ok {α : Type} (a : α) : (R.ok a).calm = .ok a := (rfl)
def R.when {α : Type} (b : Bool) (a : R α) : R α := if b = true then a else .bad
@[simp] theorem R.when_true {α : Type} (a : R α) : R.when true a = a := (rfl)

/-! ### operations on data -/
mutual
def D.eq : D → D → Bool
  | .non, .non => true
  | .bl a, .bl b => a == b
  | .bl a, .int j => (if a then 1 else 0) == j
  | .int i, .bl b => i == (if b then 1 else 0)
  | .int i, .int j => i == j
  | .str x, .str y => x == y
  | .lst xs, .lst ys => D.eqA xs ys
  | .tup xs, .tup ys => D.eqA xs ys
  | .fl xs, .lst ys => D.eqA xs ys
  | .lst xs, .fl ys => D.eqA xs ys
  | .fl xs, .fl ys => D.eqA xs ys
  | _, _ => false
def D.eqA : List D → List D → Bool
  | [], [] => true
  | x :: xs, y :: ys => D.eq x y && D.eqA xs ys
  | _, _ => false
end
/-- no dict within -/
def D.nd : D → Bool
  | .lst xs => ndA xs
  | .fl xs => ndA xs
  | .tup xs => ndA xs
  | .dk _ => false
  | .dt _ => false
  | _ => true
where ndA : List D → Bool
  | [] => true
  | x :: xs => D.nd x && ndA xs
def D.dep : D → Nat
  | .lst xs => depA xs + 1
  | .fl xs => depA xs + 1
  | .tup xs => depA xs + 1
  | _ => 0
where depA : List D → Nat
  | [] => 0
  | x :: xs => max (D.dep x) (depA xs)
mutual
def D.py : D → PyData
  | .non => .none
  | .bl b => .bool b
  | .int i => .int i
  | .str x => .str x
  | .lst xs => .list (D.pyA xs)
  | .fl xs => .list (D.pyA xs)
  | .tup xs => .tuple (D.pyA xs)
  | .dk _ => .none
  | .dt _ => .none
def D.pyA : List D → List PyData
  | [] => []
  | x :: xs => D.py x :: D.pyA xs
end
def cmpOk (x y : D) : Bool := x.nd && y.nd && (decide (x.dep ≤ 50) || decide (y.dep ≤ 50))
def seqOk (x : D) (ys : List D) : Bool := x.nd && D.nd.ndA ys && decide (x.dep ≤ 50)
def tr : D → R Bool
  | .non => .ok false
  | .bl b => .ok b
  | .int i => .ok (i != 0)
  | .str x => .ok ((x.length : Int) != 0)
  | .lst xs => .ok (!xs.isEmpty)
  | .fl xs => .ok (!xs.isEmpty)
  | .tup xs => .ok (!xs.isEmpty)
  | .dk kvs => .ok (!kvs.isEmpty)
  | .dt _ => .bad
mutual
/-- less, as tuples are -/
def D.lt : D → D → Option Bool
  | .int i, .int j => some (decide (i < j))
  | .str x, .str y => some (decide (x.cps.toList < y.cps.toList))
  | .tup xs, .tup ys => D.ltA xs ys
  | _, _ => none
def D.ltA : List D → List D → Option Bool
  | [], [] => some false
  | [], _ :: _ => some true
  | _ :: _, [] => some false
  | x :: xs, y :: ys => if cmpOk x y then (if D.eq x y then D.ltA xs ys else match D.lt x y, D.ltA xs ys with
    | some b, some _ => some b
    | _, _ => none) else none
end

inductive O2 where
  | add | sub | mul | fdiv | mod | pow | band | shl | shr
  deriving DecidableEq
inductive Cm where
  | eq | ne | lt | le | gt | ge | isn | notn | isIn | notIn
  deriving DecidableEq
inductive Bi where
  | len | abs | int | str | tuple | list | sorted | all | any | sum | min | max | bool
  deriving DecidableEq
inductive Mt where
  | index | count | get | join | split | upper | replace | find | rev
  deriving DecidableEq
inductive Ty where
  | int | bool | str | tuple | list | dict
  deriving DecidableEq

def sm64 (i : Int) : Bool := decide (-(2 ^ 64) < i) && decide (i < 2 ^ 64)
def big (i : Int) : Bool := decide (i.natAbs.log2 < 4000)
def fits (n : Nat) : Bool := decide (n ≤ sizeLine)
def mkS (x : Str) : R D := if sOk x = true then .ok (.str x) else .bad
def Str.rep (x : Str) (n : Nat) : Str := ⟨(List.replicate n x.cps.toList).flatten.toArray⟩
def o2D : O2 → D → D → R D
  | .add, .int i, .int j => .ok (.int (i + j))
  | .add, .str x, .str y => .when (fits (x.length + y.length)) (.ok (.str (x ++ y)))
  | .add, .tup xs, .tup ys => .when (fits (xs.length + ys.length)) (.ok (.tup (xs ++ ys)))
  | .add, .lst xs, .lst ys => .when (fits (xs.length + ys.length)) (.ok (.lst (xs ++ ys)))
  | .sub, .int i, .int j => .ok (.int (i - j))
  | .mul, .int i, .int j => .when (sm64 i || sm64 j || (big i && big j)) (.ok (.int (i * j)))
  | .mul, .str x, .int n => .when (decide (n < 2 ^ 62) && decide (-(2 ^ 62) < n) && fits (x.length * n.toNat)) (.ok (.str (Str.rep x n.toNat)))
  | .mul, .lst xs, .int n => .when (decide (n < 2 ^ 62) && decide (-(2 ^ 62) < n) && fits (xs.length * n.toNat)) (.ok (.lst (List.replicate n.toNat xs).flatten))
  | .fdiv, .int i, .int j => .when (decide (0 < j) && big j) (.ok (.int (i / j)))
  | .mod, .int i, .int j => .when (decide (0 < j)) (.ok (.int (i % j)))
  | .pow, .int i, .int j => .when (decide (0 ≤ j) && decide (j ≤ 1000) && sm64 i) (.ok (.int (i ^ j.toNat)))
  | .band, .int i, .int j => .ok (.int (Builtin.bitAnd i j))
  | .shl, .int i, .int j => .when (decide (0 ≤ j) && decide (j ≤ 1000) && sm64 i) (.ok (.int (i * 2 ^ j.toNat)))
  | .shr, .int i, .int j => .when (decide (0 ≤ j)) (.ok (.int (i / 2 ^ j.toNat)))
  | _, _, _ => .bad

def lookK {κ : Type} [DecidableEq κ] (kvs : List (κ × D)) (k : κ) : Option D := (kvs.find? fun p => decide (p.1 = k)).map (·.2)
def putD {κ : Type} [DecidableEq κ] (kvs : List (κ × D)) (k : κ) (v : D) : List (κ × D) :=
  if (kvs.any fun p => decide (p.1 = k)) = true then kvs.map fun p => if p.1 = k then (p.1, v) else p else kvs ++ [(k, v)]
def toKey : D → Option Key
  | .int i => some (.inl i)
  | .str x => some (.inr x)
  | _ => none
def toKeys : List D → Option (List Key)
  | [] => some []
  | d :: ds => match toKey d, toKeys ds with
    | some k, some ks => some (k :: ks)
    | _, _ => none
/-- what a dict holds at a key: none: such a key can't be asked -/
def dGet : D → D → Option (Option D)
  | .dk kvs, k => (toKey k).map (lookK kvs)
  | .dt kvs, .tup ks => (toKeys ks).map (lookK kvs)
  | _, _ => none
def dPut : D → D → D → Option D
  | .dk kvs, k, v => if kvs.length < sizeLine then (toKey k).map fun k => .dk (putD kvs k v) else none
  | .dt kvs, .tup ks, v => if kvs.length < sizeLine then (toKeys ks).map fun k => .dt (putD kvs k v) else none
  | _, _, _ => none
def inD (x : D) : D → R Bool
  | .lst ys => .when (seqOk x ys) (.ok (ys.any fun y => D.eq y x))
  | .fl ys => .when (seqOk x ys) (.ok (ys.any fun y => D.eq y x))
  | .tup ys => .when (seqOk x ys) (.ok (ys.any fun y => D.eq y x))
  | .str y => match x with
    | .str z => .when (z.length == 1) (.ok (y.cps.toList.contains (z.cps.getD 0 0)))
    | _ => .bad
  | d => match dGet d x with
    | some o => .ok o.isSome
    | none => .bad
def ofO : Option Bool → R D
  | some b => .ok (.bl b)
  | none => .bad
def cmD : Cm → D → D → R D
  | .eq, x, y => .when (cmpOk x y) (.ok (.bl (D.eq x y)))
  | .ne, x, y => .when (cmpOk x y) (.ok (.bl (!D.eq x y)))
  | .lt, x, y => .when (decide (x.dep ≤ 50)) (ofO (D.lt x y))
  | .gt, .int i, .int j => .ok (.bl (decide (j < i)))
  | .le, .int i, .int j => .ok (.bl (decide (i ≤ j)))
  | .ge, .int i, .int j => .ok (.bl (decide (j ≤ i)))
  | .isn, .non, .non => .ok (.bl true)
  | .isn, _, .non => .ok (.bl false)
  | .isn, .bl a, .bl b => .ok (.bl (a == b))
  | .notn, .non, .non => .ok (.bl false)
  | .notn, _, .non => .ok (.bl true)
  | .notn, .bl a, .bl b => .ok (.bl (!(a == b)))
  | .isIn, x, y => (inD x y).bind fun b => .ok (.bl b)
  | .notIn, x, y => (inD x y).bind fun b => .ok (.bl (!b))
  | _, _, _ => .bad
def tyB : Ty → D → Bool
  | .int, .int _ => true
  | .int, .bl _ => true
  | .bool, .bl _ => true
  | .str, .str _ => true
  | .tuple, .tup _ => true
  | .list, .lst _ => true
  | .list, .fl _ => true
  | .dict, .dk _ => true
  | .dict, .dt _ => true
  | _, _ => false
def ofOp : Option D → R D
  | some d => .ok d
  | none => .bad
def ixD : D → D → R D
  | .lst xs, .int i => ofOp (atI xs i)
  | .fl xs, .int i => ofOp (atI xs i)
  | .tup xs, .int i => ofOp (atI xs i)
  | .str x, .int i => match atI x.cps.toList i with
    | some c => .ok (.str ⟨#[c]⟩)
    | none => .bad
  | d, k => match dGet d k with
    | some (some v) => .ok v
    | _ => .bad
def cutD {α : Type} (xs : List α) (lo hi : Option Int) : List α := (xs.drop (HT.sIx xs.length 0 lo)).take (HT.sIx xs.length xs.length hi - HT.sIx xs.length 0 lo)
def slD : D → Option Int → Option Int → R D
  | .lst xs, lo, hi => .ok (.lst (cutD xs lo hi))
  | .fl xs, lo, hi => .ok (.lst (cutD xs lo hi))
  | .tup xs, lo, hi => .ok (.tup (cutD xs lo hi))
  | .str x, lo, hi => .ok (.str ⟨(cutD x.cps.toList lo hi).toArray⟩)
  | _, _, _ => .bad
def revD : D → R D
  | .lst xs => .ok (.lst xs.reverse)
  | .fl xs => .ok (.lst xs.reverse)
  | .tup xs => .ok (.tup xs.reverse)
  | _ => .bad
def allB : List D → Option (List Bool)
  | [] => some []
  | .bl b :: ds => (allB ds).map (b :: ·)
  | _ :: _ => none
def allI : List D → Option (List Int)
  | [] => some []
  | .int b :: ds => (allI ds).map (b :: ·)
  | _ :: _ => none
def allS : List D → Option (List Str)
  | [] => some []
  | .str b :: ds => (allS ds).map (b :: ·)
  | _ :: _ => none
def maxI : List Int → Int
  | [] => 0
  | [x] => x
  | x :: y :: r => max x (maxI (y :: r))
def minI : List Int → Int
  | [] => 0
  | [x] => x
  | x :: y :: r => min x (minI (y :: r))
/-- sorted as data are -/
def sortD (xs : List D) : List D := xs.mergeSort (PySem.W.dataLe false D.py)
def isTup : D → Bool
  | .tup _ => true
  | _ => false
def isNon : D → Bool
  | .non => true
  | _ => false
/-- alike, any two of them -/
def sortOk (xs : List D) : Bool := D.nd.ndA xs && decide (D.dep.depA xs ≤ 50) && (xs.all fun x => xs.all fun y => PySem.W.alike x.py y.py) && (xs.all isTup || xs.all fun x => !isTup x && !isNon x)
mutual
/-- nothing within can be changed -/
def fixB : D → Bool
  | .lst _ => false
  | .dk _ => false
  | .dt _ => false
  | .fl xs => fixA xs
  | .tup xs => fixA xs
  | _ => true
def fixA : List D → Bool
  | [] => true
  | x :: xs => fixB x && fixA xs
end
/-- nothing but its top can be changed -/
def fix1 : D → Bool
  | .lst xs => fixA xs
  | .dk kvs => fixA (kvs.map (·.2))
  | .dt kvs => fixA (kvs.map (·.2))
  | d => fixB d
def seqD : D → Option (List D)
  | .lst xs => some xs
  | .fl xs => some xs
  | .tup xs => some xs
  | _ => none
def biD : Bi → List D → R D
  | .len, [.lst xs] => .ok (.int xs.length)
  | .len, [.fl xs] => .ok (.int xs.length)
  | .len, [.tup xs] => .ok (.int xs.length)
  | .len, [.str x] => .ok (.int x.length)
  | .len, [.dk x] => .ok (.int x.length)
  | .len, [.dt x] => .ok (.int x.length)
  | .abs, [.int i] => .ok (.int (if i < 0 then -i else i))
  | .int, [.int i] => .ok (.int i)
  | .int, [.bl b] => .ok (.int (if b then 1 else 0))
  | .bool, [.bl b] => .ok (.bl b)
  | .bool, [.int i] => .ok (.bl (i != 0))
  | .str, [.int i] => .when (decide (i.natAbs.log2 < 1920) && sOk (toString i)) (.ok (.str (toString i)))
  | .tuple, [.lst xs] => .ok (.tup xs)
  | .tuple, [.fl xs] => .ok (.tup xs)
  | .tuple, [.tup xs] => .ok (.tup xs)
  | .tuple, [.str x] => .ok (.tup (x.cps.toList.map fun c => .str ⟨#[c]⟩))
  | .list, [.lst xs] => .ok (.lst xs)
  | .list, [.fl xs] => .ok (.lst xs)
  | .list, [.tup xs] => .ok (.lst xs)
  | .sorted, [.lst xs] => .when (sortOk xs) (.ok (.lst (sortD xs)))
  | .sorted, [.fl xs] => .when (sortOk xs) (.ok (.lst (sortD xs)))
  | .sorted, [.dk kvs] => .when (sortOk (kvs.map fun p => keyD p.1)) (.ok (.lst (sortD (kvs.map fun p => keyD p.1))))
  | .sorted, [.dt kvs] => .when (sortOk (kvs.map fun p => .tup (p.1.map keyD))) (.ok (.lst (sortD (kvs.map fun p => .tup (p.1.map keyD)))))
  | .all, [.lst xs] => match allB xs with
    | some bs => .ok (.bl (bs.all id))
    | none => .bad
  | .any, [.lst xs] => match allB xs with
    | some bs => .ok (.bl (bs.any id))
    | none => .bad
  | .sum, [.lst xs] => match allI xs with
    | some bs => .ok (.int bs.sum)
    | none => .bad
  | .max, [.lst xs] => match allI xs with
    | some bs => .when (decide (0 < bs.length)) (.ok (.int (maxI bs)))
    | none => .bad
  | .min, [.lst xs] => match allI xs with
    | some bs => .when (decide (0 < bs.length)) (.ok (.int (minI bs)))
    | none => .bad
  | .max, [.int i, .int j] => .ok (.int (if j > i then j else i))
  | .min, [.int i, .int j] => .ok (.int (if j < i then j else i))
  | _, _ => .bad
def mtTy : Mt → D → Bool
  | .index, .lst _ => true
  | .get, .dk _ => true
  | .get, .dt _ => true
  | _, _ => false
def mtD : Mt → D → List D → R D
  | .index, .lst xs, [x] => .when (seqOk x xs && decide ((D.lst xs).dep ≤ 64)) (match xs.findIdx? fun y => D.eq y x with
    | some i => .ok (.int i)
    | none => .bad)
  | .get, d, [k] => match dGet d k with
    | some o => .ok (o.getD .non)
    | none => .bad
  | .get, d, [k, z] => match dGet d k with
    | some o => .ok (o.getD z)
    | none => .bad
  | _, _, _ => .bad
end PP
/-! The small language. -/
namespace PP
open PySem PySem.Spec L2
open PySem.PyData (strOk)

inductive Tg where
  | one (i : Nat)
  | tup (ts : List Tg)
  deriving Inhabited
mutual
inductive E where
  | var (i : Nat) | glb (g : Nat) | int (z : Int) | bl (b : Bool) | non | str (s : Str)
  | tup (es : Es) | lst (es : Es) | dk0 | dt0 | dkv (kvs : Kvs)
  | bin (o : O2) (a b : E) | cmp (c : Cm) (a b : E) | cmp2 (c c' : Cm) (a b d : E)
  | and_ (a b : E) | or_ (a b : E) | not_ (a : E) | neg (a : E) | ife (c a b : E)
  | ix (a i : E) | slc (a : E) (lo hi : Eo) | rev (a : E)
  | call (f : Nat) (es : Es) | bi (b : Bi) (es : Es) | mt (m : Mt) (a : E) (es : Es)
  | isi (a : E) (t : Ty)
  | call0 (f : Nat) | lr1 (a : E) | lr2 (a b : E) | bor (fr : Bool) (l : List Nat) (e : E)
  | lc (elt : E) (tgt : Tg) (it : Wk) (ifs : Es) (own : List Nat)
inductive Es where
  | nil | cons (e : E) (es : Es)
inductive Kvs where
  | nil | cons (k v : E) (r : Kvs)
inductive Eo where
  | none | some (e : E)
/-- what is walked -/
inductive Wk where
  | seq (e : E) | rng1 (a : E) | rng2 (a b : E) | enum (e : E) | zip2 (a b : E) | zip3 (a b c : E) | keys (e : E) | vals (e : E)
end
abbrev Env := List (Option D)
mutual
inductive S where
  | asg (t : Tg) (e : E)
  | new (i : Nat) (e : E)
  | par (ts : List Nat) (es : Es)
  | aug (i : Nat) (e : E)
  | app (i : Nat) (e : E) | ext (i : Nat) (e : E)
  | put (i : Nat) (k e : E) | putT (i : Nat) (es : Es) (e : E)
  | rev (i : Nat)
  | ret (e : E) | retO (i : Nat) | retN | ife (c : E) (a b : Ss) | for_ (t : Tg) (it : Wk) (b : Ss) | while_ (μ : Env → Nat) (c : E) (b : Ss)
  | never | expr (e : E) | pass | brk | cont
  | share (l : List Nat) | wipe (l : List Nat)
inductive Ss where
  | nil | cons (s : S) (r : Ss)
end

/-! ### what it computes -/
mutual
def asg : Tg → D → Env → Option Env
  | .one i, d, ρ => if i < ρ.length then some (ρ.set i (some d)) else none
  | .tup ts, .tup ds, ρ => asgs ts ds ρ
  | .tup _, _, _ => none
def asgs : List Tg → List D → Env → Option Env
  | [], [], ρ => some ρ
  | t :: ts, d :: ds, ρ => match asg t d ρ with
    | some ρ1 => asgs ts ds ρ1
    | none => none
  | _, _, _ => none
end
def wipeE (ρ : Env) : List Nat → Env
  | [] => ρ
  | v :: vs => (wipeE ρ vs).set v none
def mapR {α β : Type} (f : α → R (Option β)) : List α → R (List β)
  | [] => .ok []
  | x :: xs => (f x).bind fun o => (mapR f xs).bind fun r => .ok (match o with
    | none => r
    | some y => y :: r)
def ofE (o : Option Env) : R Env := match o with
  | some ρ => .ok ρ
  | none => .bad
def intD : D → R Int
  | .int i => .ok i
  | _ => .bad
def itemsD : D → R (List D)
  | .lst xs => .ok xs
  | .fl xs => .ok xs
  | .tup xs => .ok xs
  | .str x => .ok (x.cps.toList.map fun c => .str ⟨#[c]⟩)
  | _ => .bad
def seqR (d : D) : R (List D) := match seqD d with
  | some xs => .ok xs
  | none => .bad
def lstR : D → R (List D)
  | .lst xs => .ok xs
  | .fl xs => .ok xs
  | _ => .bad
def zip2D : D → D → R (List D)
  | .tup xs, .tup ys => .ok (xs.zipWith (fun x y => .tup [x, y]) ys)
  | .tup _, _ => .bad
  | _, .tup _ => .bad
  | x, y => (lstR x).bind fun xs => (lstR y).bind fun ys => .ok (xs.zipWith (fun x y => .tup [x, y]) ys)
def rngL (lo : Int) (n : Nat) : List D := (List.range n).map fun k => D.int (lo + (k : Nat))
def zip3D : List D → List D → List D → List D
  | x :: xs, y :: ys, z :: zs => .tup [x, y, z] :: zip3D xs ys zs
  | _, _, _ => []
def enumD (xs : List D) : List D := (List.range xs.length).zipWith (fun k x => D.tup [.int (k : Nat), x]) xs
def keyE : Key → D := keyD
def sm62 (i : Int) : Bool := decide (-(2 ^ 62) ≤ i) && decide (i < 2 ^ 62)

variable (Φ : Nat → List D → R D) (Γ : Nat → Option D)
mutual
def ev : E → Env → R D
  | .var i, ρ => ofOp (ρ[i]?.join)
  | .glb g, _ => ofOp (Γ g)
  | .int z, _ => .ok (.int z)
  | .bl b, _ => .ok (.bl b)
  | .non, _ => .ok .non
  | .str s, _ => .ok (.str s)
  | .tup es, ρ => (evs es ρ).bind fun ds => .ok (.tup ds)
  | .lst es, ρ => (evs es ρ).bind fun ds => .ok (.lst ds)
  | .dk0, _ => .ok (.dk [])
  | .dt0, _ => .ok (.dt [])
  | .dkv kvs, ρ => (evkv kvs ρ).bind fun kvs => .ok (.dk (kvs.foldl (fun acc p => putD acc p.1 p.2) []))
  | .bin o a b, ρ => (ev a ρ).bind fun x => (ev b ρ).bind fun y => o2D o x y
  | .cmp c a b, ρ => (ev a ρ).bind fun x => (ev b ρ).bind fun y => cmD c x y
  | .cmp2 c c' a b d, ρ => (ev a ρ).bind fun x => (ev b ρ).bind fun y => (cmD c x y).bind fun k => match k with
    | .bl true => (ev d ρ).bind fun z => cmD c' y z
    | .bl false => .ok (.bl false)
    | _ => .bad
  | .and_ a b, ρ => (ev a ρ).bind fun x => (tr x).bind fun k => if k then ev b ρ else .ok x
  | .or_ a b, ρ => (ev a ρ).bind fun x => (tr x).bind fun k => if k then .ok x else ev b ρ
  | .not_ a, ρ => (ev a ρ).bind fun x => (tr x).bind fun k => .ok (.bl (!k))
  | .neg a, ρ => (ev a ρ).bind fun x => (intD x).bind fun i => .ok (.int (-i))
  | .ife c a b, ρ => (ev c ρ).bind fun x => (tr x).bind fun k => if k then ev a ρ else ev b ρ
  | .ix a i, ρ => (ev a ρ).bind fun x => (ev i ρ).bind fun y => ixD x y
  | .slc a lo hi, ρ => (ev a ρ).bind fun x => (evo lo ρ).bind fun l => (evo hi ρ).bind fun h => slD x l h
  | .rev a, ρ => (ev a ρ).bind revD
  | .call f es, ρ => (evs es ρ).bind fun ds => Φ f ds
  | .bi b es, ρ => (evs es ρ).bind fun ds => biD b ds
  | .mt m a es, ρ => (ev a ρ).bind fun x => .when (mtTy m x) ((evs es ρ).bind fun ds => mtD m x ds)
  | .isi a t, ρ => (ev a ρ).bind fun x => .ok (.bl (tyB t x))
  | .call0 f, _ => Φ f []
  | .lr1 a, ρ => (ev a ρ).bind fun x => (intD x).bind fun j => .when (sm62 j && decide (j.toNat ≤ 2 ^ 24)) (.ok (.lst (rngL 0 j.toNat)))
  | .lr2 a b, ρ => (ev a ρ).bind fun x => (ev b ρ).bind fun y => (intD x).bind fun i => (intD y).bind fun j => .when (sm62 i && sm62 j && decide ((j - i).toNat ≤ 2 ^ 24)) (.ok (.lst (rngL i (j - i).toNat)))
  | .bor fr _ e, ρ => (ev e ρ).bind fun d => .when (if fr then fix1 d else fixB d) (.ok d)
  | .lc elt tgt it ifs own, ρ => (evi it ρ).bind fun items => .when (fits items.length) <| ((mapR (fun x => (ofE (asg tgt x (wipeE ρ own))).bind fun ρ1 => (evt ifs ρ1).bind fun k => if k then (ev elt ρ1).bind fun d => .ok (some d) else .ok none) items).calm).bind fun ds => .ok (.lst ds)
def evs : Es → Env → R (List D)
  | .nil, _ => .ok []
  | .cons e es, ρ => (ev e ρ).bind fun d => (evs es ρ).bind fun ds => .ok (d :: ds)
/-- a dict's display: key, value, from the left -/
def evkv : Kvs → Env → R (List (Key × D))
  | .nil, _ => .ok []
  | .cons k v r, ρ => (ev k ρ).bind fun x => (ev v ρ).bind fun y => match toKey x with
    | some q => (evkv r ρ).bind fun r => .ok ((q, y) :: r)
    | none => .bad
/-- all tests hold -/
def evt : Es → Env → R Bool
  | .nil, _ => .ok true
  | .cons e es, ρ => (ev e ρ).bind fun d => (tr d).bind fun k => if k then evt es ρ else .ok false
def evo : Eo → Env → R (Option Int)
  | .none, _ => .ok none
  | .some e, ρ => (ev e ρ).bind fun d => (intD d).bind fun i => .ok (some i)
def evi : Wk → Env → R (List D)
  | .seq e, ρ => (ev e ρ).bind itemsD
  | .rng1 a, ρ => (ev a ρ).bind fun x => (intD x).bind fun j => .when (sm62 j) (.ok (rngL 0 j.toNat))
  | .rng2 a b, ρ => (ev a ρ).bind fun x => (ev b ρ).bind fun y => (intD x).bind fun i => (intD y).bind fun j => .when (sm62 i && sm62 j) (.ok (rngL i (j - i).toNat))
  | .enum e, ρ => (ev e ρ).bind fun x => (lstR x).bind fun xs => .ok (enumD xs)
  | .zip2 a b, ρ => (ev a ρ).bind fun x => (ev b ρ).bind fun y => zip2D x y
  | .zip3 a b c, ρ => (ev a ρ).bind fun x => (ev b ρ).bind fun y => (ev c ρ).bind fun z => (seqR x).bind fun xs => (seqR y).bind fun ys => (seqR z).bind fun zs => .ok (zip3D xs ys zs)
  | .keys e, ρ => (ev e ρ).bind fun x => match x with
    | .dk kvs => .ok (kvs.map fun p => keyD p.1)
    | .dt kvs => .ok (kvs.map fun p => .tup (p.1.map keyD))
    | _ => .bad
  | .vals e, ρ => (ev e ρ).bind fun x => match x with
    | .dk kvs => .ok (kvs.map fun p => p.2)
    | .dt kvs => .ok (kvs.map fun p => p.2)
    | _ => .bad
end
/-- a slot's number, as fuel -/
def nSlot (i : Nat) (ρ : Env) : Nat := match ρ[i]?.join with
  | some (.int z) => z.toNat + 1
  | _ => 0
/-- how a statement ends -/
inductive O where
  | nx (ρ : Env) | rt (d : D) | bk (ρ : Env) | ct (ρ : Env) | er (c : Nat) (p : D) | bad
def R.to {α : Type} : R α → (α → O) → O
  | .ok a, f => f a
  | .err c p, _ => .er c p
  | .bad, _ => .bad
@[simp] theorem R.to_ok {α : Type} (a : α) (f : α → O) : (R.ok a).to f = f a := (rfl)
@[simp] theorem R.to_bad {α : Type} (f : α → O) : (R.bad : R α).to f = .bad := (rfl)
@[simp] theorem R.to_err {α : Type} (c : Nat) (p : D) (f : α → O) : (R.err c p : R α).to f = .er c p := (rfl)
def forGo (f : D → Env → O) : List D → Env → O
  | [], ρ => .nx ρ
  | x :: xs, ρ => match f x ρ with
    | .nx ρ1 => forGo f xs ρ1
    | .ct ρ1 => forGo f xs ρ1
    | .bk ρ1 => .nx ρ1
    | .rt d => .rt d
    | .er c p => .er c p
    | .bad => .bad
def whGo (c : Env → R Bool) (b : Env → O) : Nat → Env → O
  | 0, _ => .bad
  | n + 1, ρ => (c ρ).to fun k => if k then (match b ρ with
    | .nx ρ1 => whGo c b n ρ1
    | .ct ρ1 => whGo c b n ρ1
    | .bk ρ1 => .nx ρ1
    | .rt d => .rt d
    | .er c p => .er c p
    | .bad => .bad) else .nx ρ
def put (i : Nat) (o : Option D) (ρ : Env) : O := match o with
  | some d => if i < ρ.length then .nx (ρ.set i (some d)) else .bad
  | none => .bad
def getE (ρ : Env) (i : Nat) : R D := ofOp (ρ[i]?.join)
def setAll : List Nat → List D → Env → Option Env
  | [], [], ρ => some ρ
  | i :: is, d :: ds, ρ => if i < ρ.length then setAll is ds (ρ.set i (some d)) else none
  | _, _, _ => none
def ownL : D → R (List D)
  | .lst xs => .ok xs
  | _ => .bad
def putD' (x k d : D) : Option D := match x with
  | .lst xs => match k with
    | .int k => (ixN xs.length k).map fun j => .lst (xs.set j d)
    | _ => none
  | x => dPut x k d
/-- a key that is no tuple -/
def putS (x k d : D) : Option D := match k with
  | .tup _ => none
  | k => putD' x k d
mutual
def exS : S → Env → O
  | .asg t e, ρ => (ev Φ Γ e ρ).to fun d => match asg t d ρ with
    | some ρ1 => .nx ρ1
    | none => .bad
  | .new i e, ρ => (ev Φ Γ e ρ).to fun d => put i (some d) ρ
  | .par ts es, ρ => (evs Φ Γ es ρ).to fun ds => match setAll ts ds ρ with
    | some ρ1 => .nx ρ1
    | none => .bad
  | .aug i e, ρ => ((getE ρ i).bind intD).to fun x => ((ev Φ Γ e ρ).bind intD).to fun y => put i (some (.int (x + y))) ρ
  | .app i e, ρ => ((getE ρ i).bind ownL).to fun xs => (ev Φ Γ e ρ).to fun y => if xs.length < sizeLine then put i (some (.lst (xs ++ [y]))) ρ else .bad
  | .ext i e, ρ => ((getE ρ i).bind ownL).to fun xs => ((ev Φ Γ e ρ).bind ownL).to fun ys => if xs.length + ys.length ≤ sizeLine then put i (some (.lst (xs ++ ys))) ρ else .bad
  | .put i k e, ρ => (ev Φ Γ e ρ).to fun y => (getE ρ i).to fun x => (ev Φ Γ k ρ).to fun z => PP.put i (putS x z y) ρ
  | .putT i es e, ρ => (ev Φ Γ e ρ).to fun y => (getE ρ i).to fun x => (evs Φ Γ es ρ).to fun ds => PP.put i (putD' x (.tup ds) y) ρ
  | .rev i, ρ => ((getE ρ i).bind ownL).to fun xs => put i (some (.lst xs.reverse)) ρ
  | .ret e, ρ => (ev Φ Γ e ρ).to fun d => .rt d
  | .retO i, ρ => (getE ρ i).to fun d => .rt d
  | .retN, _ => .rt .non
  | .ife c a b, ρ => ((ev Φ Γ c ρ).bind tr).to fun k => if k then exSs a ρ else exSs b ρ
  | .for_ t it b, ρ => (evi Φ Γ it ρ).to fun items => forGo (fun x ρ0 => match asg t x ρ0 with
    | some ρ1 => exSs b ρ1
    | none => .bad) items ρ
  | .while_ μ c b, ρ => whGo (fun ρ0 => (ev Φ Γ c ρ0).bind tr) (fun ρ0 => exSs b ρ0) (μ ρ) ρ
  | .never, _ => .bad
  | .expr e, ρ => (ev Φ Γ e ρ).to fun _ => .nx ρ
  | .pass, ρ => .nx ρ
  | .brk, ρ => .bk ρ
  | .cont, ρ => .ct ρ
  | .share _, ρ => .nx ρ
  | .wipe l, ρ => .nx (wipeE ρ l)
def exSs : Ss → Env → O
  | .nil, ρ => .nx ρ
  | .cons s r, ρ => match exS s ρ with
    | .nx ρ1 => exSs r ρ1
    | .rt d => .rt d
    | .bk ρ1 => .bk ρ1
    | .ct ρ1 => .ct ρ1
    | .er c p => .er c p
    | .bad => .bad
end

/-- a def: how many parameters, all names by slot, its body, whether what it hands back is new -/
structure Fn where
  name : Str
  np : Nat
  N : List Str
  body : Ss
  fresh : Bool
def callFn (F : Fn) (ds : List D) : R D :=
  if ds.length = F.np then match exSs Φ Γ F.body (ds.map some ++ List.replicate (F.N.length - F.np) none) with
    | .nx _ => .ok .non
    | .rt d => .ok d
    | .er c p => .err c p
    | _ => .bad
  else .bad
/-- the whole text: n calls deep at most -/
def run (T : Nat → Option Fn) (Γ : Nat → Option D) : Nat → Nat → List D → R D
  | 0, _, _ => .bad
  | n + 1, f, ds => match T f with
    | some F => callFn (run T Γ n) Γ F ds
    | none => .bad
/-- a table by numbers -/
def look {α : Type} : List (Nat × α) → Nat → Option α
  | [], _ => none
  | (k, a) :: r, i => if k = i then some a else look r i
theorem look_mem {α : Type} {i : Nat} {a : α} : ∀ {l : List (Nat × α)}, look l i = some a → (i, a) ∈ l
  | [], h => by cases h
  | (k, b) :: r, h => by
    unfold look at h
    split at h
    · rename_i e
      cases h
      rw [e]; exact List.mem_cons_self
    · exact List.mem_cons_of_mem _ (look_mem h)
end PP
/-! What it means that an expression of the text computes what its small one says. -/
namespace PP
open PySem PySem.Spec L2
open PySem.PyData (strOk)

/-- the slots: o says which are ours alone -/
structure StOk (K : Fg) (o : List Bool) (S : Sh) (H : Hp) (ρ : Env) (σ : L2.St) : Prop where
  len : σ.length = ρ.length
  val : ∀ i d, ρ[i]? = some (some d) → ∃ v, σ[i]? = some (some v) ∧ if o.getD i false = true then Res K (fun _ => none) S H .fr v d else Rp K S H v d
  sep : ∀ i j a di dj, i ≠ j → o.getD i false = true → o.getD j false = true → ρ[i]? = some (some di) → ρ[j]? = some (some dj) → isMut di = true → isMut dj = true → σ[i]? = some (some (.ref a)) → σ[j]? = some (some (.ref a)) → False
theorem Res.fr0 {K : Fg} {H0 H : Hp} {S : Sh} {v : V} {d : D} (h : Res K H0 S H .fr v d) : Res K (fun _ => none) S H .fr v d := by
  rcases h with h | ⟨a, e, h, _⟩
  · exact .inl h
  · exact .inr ⟨a, e, h, rfl⟩
theorem Res.fr_gr {K : Fg} {S S' : Sh} {H H' : Hp} {v : V} {d : D} (g : Gr S H S' H') (sd : SD S H) (h : Res K (fun _ => none) S H .fr v d) : Res K (fun _ => none) S' H' .fr v d := by
  rcases h with ⟨n, h⟩ | ⟨a, e, h, _⟩
  · exact .inl ⟨n, h.gr g sd⟩
  · exact .inr ⟨a, e, h.gr g sd, rfl⟩
theorem StOk.gr {K : Fg} {o : List Bool} {S S' : Sh} {H H' : Hp} {ρ : Env} {σ : L2.St} (g : Gr S H S' H') (sd : SD S H) (h : StOk K o S H ρ σ) : StOk K o S' H' ρ σ :=
  ⟨h.len, fun i d e => by
    obtain ⟨v, ev, r⟩ := h.val i d e
    refine ⟨v, ev, ?_⟩
    split
    · rename_i c
      rw [if_pos c] at r
      exact Res.fr_gr g sd r
    · rename_i c
      rw [if_neg c] at r
      exact r.gr g sd, h.sep⟩
theorem Res.back {K : Fg} {S0 S1 S' : Sh} {H0 H1 H' : Hp} {m : Md} {v : V} {d : D} (g : Gr S0 H0 S1 H1) (h : Res K H1 S' H' m v d) : Res K H0 S' H' m v d := by
  cases m with
  | sh => exact h
  | pk => exact h
  | fr =>
    rcases h with h | ⟨a, e, h, n⟩
    · exact .inl h
    · exact .inr ⟨a, e, h, g.same.free n⟩

/-- what is wanted behind: of the value, of what is raised -/
def Pst (K : Fg) (W : WX) (cl : Nat → Value) (σ : L2.St) (S0 : Sh) (H0 : Hp) {α β : Type} (Rl : Sh → Hp → β → α → Prop) (r : R α) (Q : β → Hp → Prop) : Prop :=
  match r with
  | .ok a => ∀ b S' H', Gr S0 H0 S' H' → HSz K H' → Rl S' H' b a → Q b H'
  | .err c p => ∀ S' H', Gr S0 H0 S' H' → W (cl c) none σ H'
  | .bad => False
section
variable {K : Fg} {W : WX} {cl : Nat → Value} {σ : L2.St} {S0 S1 : Sh} {H0 H1 : Hp}
theorem Pst.bind {α β γ δ : Type} {Rl : Sh → Hp → β → α → Prop} {RG : Sh → Hp → δ → γ → Prop} {r : R α} {k : α → R γ} {Q : δ → Hp → Prop} {Q1 : β → Hp → Prop} (h : Pst K W cl σ S0 H0 RG (r.bind k) Q)
    (c : ∀ a b S1 H1, r = .ok a → Gr S0 H0 S1 H1 → HSz K H1 → Rl S1 H1 b a → Pst K W cl σ S0 H0 RG (k a) Q → Q1 b H1) : Pst K W cl σ S0 H0 Rl r Q1 := by
  cases r with
  | ok a => exact fun b S' H' g z q => c a b S' H' rfl g z q h
  | err c p => exact h
  | bad => exact h
theorem Pst.rebase {α β : Type} {RG RG' : Sh → Hp → β → α → Prop} {r : R α} {Q : β → Hp → Prop} (g : Gr S0 H0 S1 H1) (hr : ∀ S' H' b a, RG' S' H' b a → RG S' H' b a) (h : Pst K W cl σ S0 H0 RG r Q) : Pst K W cl σ S1 H1 RG' r Q := by
  cases r with
  | ok a => exact fun b S' H' g' z q => h b S' H' (g.trans g') z (hr _ _ _ _ q)
  | err c p => exact fun S' H' g' => h S' H' (g.trans g')
  | bad => exact h
theorem Pst.imp {α β : Type} {RG RG' : Sh → Hp → β → α → Prop} {r : R α} {Q : β → Hp → Prop} (hr : ∀ S' H' b a, Gr S0 H0 S' H' → RG' S' H' b a → ∃ S2, Gr S0 H0 S2 H' ∧ RG S2 H' b a) (h : Pst K W cl σ S0 H0 RG r Q) : Pst K W cl σ S0 H0 RG' r Q := by
  cases r with
  | ok a =>
    intro b S' H' g' z q
    obtain ⟨S2, g2, q2⟩ := hr _ _ _ _ g' q
    exact h b S2 H' g2 z q2
  | err c p => exact h
  | bad => exact h
end

/-- an expression e of the text computes f -/
structure SE (X : Cx) (W : WX) (cl : Nat → Value) (o : List Bool) (m : Md) (e : Expr) (f : Env → R D) : Prop where
  ex : ∃ t, PE X e t ∧ ∀ S H σ ρ Q, HSz X.K H → SD S H → StOk X.K o S H ρ σ → Pst X.K W cl σ S H (fun S' H' v d => Res X.K H S' H' m v d) (f ρ) Q → t σ H Q
/-- arguments, from the left, all shared -/
structure SA (X : Cx) (W : WX) (cl : Nat → Value) (o : List Bool) (es : List Expr) (f : Env → R (List D)) : Prop where
  ex : ∃ t, PA X es t ∧ ∀ S H σ ρ Q, HSz X.K H → SD S H → StOk X.K o S H ρ σ → Pst X.K W cl σ S H (fun S' H' vs ds => RpA X.K S' H' vs ds) (f ρ) Q → t σ H Q
/-- the sizes come for nothing -/
theorem SE.intro {X : Cx} {W : WX} {cl : Nat → Value} {o : List Bool} {m : Md} {e : Expr} {f : Env → R D}
    (h : ∃ t, PE X e t ∧ ∀ S H σ ρ (Q : VK), HSz X.K H → SD S H → StOk X.K o S H ρ σ → Pst X.K W cl σ S H (fun S' H' v d => Res X.K H S' H' m v d) (f ρ) (fun v H' => HSz X.K H' → Q v H') → t σ H Q) : SE X W cl o m e f := by
  obtain ⟨t, ht, q⟩ := h
  exact ⟨t, ht, fun S H σ ρ Q z sd st p => q S H σ ρ Q z sd st (by
    cases hf : f ρ with
    | ok d => rw [hf] at p; exact fun b S' H' g z' r _ => p b S' H' g z' r
    | err c p' => rw [hf] at p; exact p
    | bad => rw [hf] at p; exact p)⟩
/-- a reading whose end knows the sizes -/
theorem pe_sz {X : Cx} {e : Expr} {t : TE} (h : PE X e t) : PE X e (fun σ H Q => t σ H fun v H' => HSz X.K H' → Q v H') := ⟨fun pins s σ H Q I hw =>
  thn (h.run pins s σ H _ I hw) fun _ _ ⟨v, H', I', r, q⟩ => ⟨v, H', I', r, q (hsz_of I')⟩⟩
theorem pa_sz {X : Cx} {e : List Expr} {t : TA} (h : PA X e t) : PA X e (fun σ H Q => t σ H fun v H' => HSz X.K H' → Q v H') := ⟨fun pos pins s σ H Q I hw =>
  thn (h.run pos pins s σ H _ I hw) fun _ _ ⟨v, H', I', r, q⟩ => ⟨v, H', I', r, q (hsz_of I')⟩⟩
/-- from a reading that needs not tell the sizes -/
theorem SE.mk' {X : Cx} {W : WX} {cl : Nat → Value} {o : List Bool} {m : Md} {e : Expr} {f : Env → R D}
    (h : ∃ t, PE X e t ∧ ∀ S H σ ρ (Q : VK), HSz X.K H → SD S H → StOk X.K o S H ρ σ →
      (match f ρ with
        | .ok d => ∀ v S' H', Gr S H S' H' → Res X.K H S' H' m v d → Q v H'
        | .err c p => ∀ S' H', Gr S H S' H' → W (cl c) none σ H'
        | .bad => False) → t σ H Q) : SE X W cl o m e f := by
  obtain ⟨t, ht, q⟩ := h
  refine ⟨_, pe_sz ht, fun S H σ ρ Q z sd st p => q S H σ ρ _ z sd st ?_⟩
  cases hf : f ρ with
  | ok d => rw [hf] at p; exact fun v S' H' g r z' => p v S' H' g z' r
  | err c p' => rw [hf] at p; exact p
  | bad => rw [hf] at p; exact p

section
variable {X : Cx} {W : WX} {cl : Nat → Value} {o : List Bool} {e : Expr} {f : Env → R D}
/-- what is new goes to all -/
theorem Res.toSh {K : Fg} {S0 S' : Sh} {H0 H' : Hp} {v : V} {d : D} (g : Gr S0 H0 S' H') (h : Res K H0 S' H' .fr v d) : ∃ S2, Gr S0 H0 S2 H' ∧ Rp K S2 H' v d := by
  rcases h with ⟨_, h⟩ | ⟨a, rfl, h, n⟩
  · exact ⟨S', g, h⟩
  · exact ⟨_, g.share n h.dom, h.share⟩
theorem SE.toSh (h : SE X W cl o .fr e f) : SE X W cl o .sh e f := by
  obtain ⟨t, ht, q⟩ := h.ex
  exact ⟨t, ht, fun S H σ ρ Q z sd st p => q S H σ ρ Q z sd st (p.imp fun S' H' b a g r => Res.toSh g r)⟩
theorem SE.toPk {m : Md} (h : SE X W cl o m e f) : SE X W cl o .pk e f := by
  obtain ⟨t, ht, q⟩ := h.ex
  exact ⟨t, ht, fun S H σ ρ Q z sd st p => q S H σ ρ Q z sd st (p.imp fun S' H' b a g r => ⟨S', g, Res.rt r⟩)⟩
/-- what can't be changed is as good as new -/
theorem SE.congr {m : Md} {f' : Env → R D} (h : SE X W cl o m e f) (hf : ∀ ρ, f ρ = f' ρ) : SE X W cl o m e f' := by
  obtain rfl : f = f' := funext hf
  exact h

/-- in a row: e's value is read now, then the rest -/
theorem SE.then {m : Md} {t : TE} (q : ∀ S H σ ρ (Q : VK), HSz X.K H → SD S H → StOk X.K o S H ρ σ → Pst X.K W cl σ S H (fun S' H' v d => Res X.K H S' H' m v d) (f ρ) Q → t σ H Q)
    {S : Sh} {H : Hp} {σ : L2.St} {ρ : Env} {γ δ : Type} {RG : Sh → Hp → δ → γ → Prop} {k : D → R γ} {Q : δ → Hp → Prop} {Q1 : VK} (z : HSz X.K H) (sd : SD S H) (st : StOk X.K o S H ρ σ) (p : Pst X.K W cl σ S H RG ((f ρ).bind k) Q)
    (c : ∀ d v S1 H1, Gr S H S1 H1 → HSz X.K H1 → SD S1 H1 → StOk X.K o S1 H1 ρ σ → Res X.K H S1 H1 m v d → Pst X.K W cl σ S H RG (k d) Q → Q1 v H1) : t σ H Q1 :=
  q S H σ ρ Q1 z sd st (p.bind fun d v S1 H1 _ g1 z1 r1 p1 => c d v S1 H1 g1 z1 g1.sd (st.gr g1 sd) r1 p1)

/-- what a rule of values must give -/
def VOk (K : Fg) (m : Md) (S : Sh) (H : Hp) (r : R D) (Q : VK) : Prop := match r with
  | .ok d => ∀ v S' H', Gr S H S' H' → Res K H S' H' m v d → Q v H'
  | _ => False
theorem VOk.of {K : Fg} {W : WX} {σ : L2.St} {m : Md} {S S1 : Sh} {H H1 : Hp} {r : R D} {Q : VK} (hne : ∀ c p, r ≠ .err c p) (g : Gr S H S1 H1) (p : Pst K W cl σ S H (fun S' H' v d => Res K H S' H' m v d) r Q) : VOk K m S1 H1 r (fun v H' => HSz K H' → Q v H') := by
  cases r with
  | ok d => exact fun v S' H' g' r' z' => p v S' H' (g.trans g') z' (Res.back g r')
  | err c p' => exact absurd rfl (hne c p')
  | bad => exact p
/-- two operands by a rule of values -/
theorem SE.op2 {a b : Expr} {fa fb : Env → R D} {ma mb m : Md} {r : R2} {k : D → D → R D} (ha : SE X W cl o ma a fa) (hb : SE X W cl o mb b fb) (hpe : ∀ {ta tb}, PE X a ta → PE X b tb → PE X e (tOp r ta tb))
    (hk : ∀ S H x y dx dy (Q : VK), HSz X.K H → SD S H → Rt X.K S H x dx → Rt X.K S H y dy → VOk X.K m S H (k dx dy) Q → r x y H Q) (hne : ∀ dx dy c p, k dx dy ≠ .err c p) : SE X W cl o m e (fun ρ => (fa ρ).bind fun x => (fb ρ).bind fun y => k x y) := by
  obtain ⟨ta, pa, qa⟩ := ha.ex
  obtain ⟨tb, pb, qb⟩ := hb.ex
  refine ⟨_, pe_sz (hpe pa pb), fun S H σ ρ Q z sd st p => ?_⟩
  refine SE.then (X := X) (W := W) (cl := cl) (o := o) qa z sd st p fun dx x S1 H1 g1 z1 sd1 st1 r1 p1 => ?_
  refine SE.then (X := X) (W := W) (cl := cl) (o := o) qb z1 sd1 st1 (p1.rebase g1 fun S' H' b a h => (Res.back g1 h : Res X.K H S' H' m b a)) fun dy y S2 H2 g2 z2 sd2 st2 r2 p2 => ?_
  exact hk S2 H2 x y dx dy _ z2 sd2 ((Res.rt r1).gr g2 sd1) (Res.rt r2) (VOk.of (hne dx dy) g2 p2)
/-- one operand -/
theorem SE.op1 {a : Expr} {fa : Env → R D} {ma m : Md} {r : V → Hp → VK → Prop} {k : D → R D} (ha : SE X W cl o ma a fa) (hpe : ∀ {ta}, PE X a ta → PE X e (fun σ H Q => ta σ H fun x H1 => r x H1 Q))
    (hk : ∀ S H x dx (Q : VK), HSz X.K H → SD S H → Rt X.K S H x dx → VOk X.K m S H (k dx) Q → r x H Q) (hne : ∀ dx c p, k dx ≠ .err c p) : SE X W cl o m e (fun ρ => (fa ρ).bind fun x => k x) := by
  obtain ⟨ta, pa, qa⟩ := ha.ex
  refine ⟨_, pe_sz (hpe pa), fun S H σ ρ Q z sd st p => ?_⟩
  refine SE.then (X := X) (W := W) (cl := cl) (o := o) qa z sd st p fun dx x S1 H1 g1 z1 sd1 st1 r1 p1 => ?_
  exact hk S1 H1 x dx _ z1 sd1 (Res.rt r1) (VOk.of (hne dx) g1 p1)
end

/-! ### values: how they are read -/
section
variable {K : Fg} {S : Sh} {H : Hp} {v : V}
theorem Rt.int {i : Int} (h : Rt K S H v (.int i)) : v = .int i := by
  rcases h with h | ⟨a, _, h⟩
  · simpa only [Rp] using h
  · cases h
theorem Rt.bl {i : Bool} (h : Rt K S H v (.bl i)) : v = .bl i := by
  rcases h with h | ⟨a, _, h⟩
  · simpa only [Rp] using h
  · cases h
theorem Rt.non (h : Rt K S H v .non) : v = .non := by
  rcases h with h | ⟨a, _, h⟩
  · simpa only [Rp] using h
  · cases h
theorem Rt.str {x : Str} (h : Rt K S H v (.str x)) : v = .str x ∧ sOk x = true := by
  rcases h with h | ⟨a, _, h⟩
  · simpa only [Rp] using h
  · cases h
theorem Rt.lst {ds : List D} (h : Rt K S H v (.lst ds)) : ∃ a xs, v = .ref a ∧ H a = some (.lst xs) ∧ RpA K S H xs ds := by
  rcases h with h | ⟨a, e, h⟩
  · simp only [Rp] at h
    obtain ⟨a, xs, e, l, r⟩ := h
    exact ⟨a, xs, e, l.2, r⟩
  · cases h with
    | lst n l r => exact ⟨a, _, e, l, r⟩
theorem Rt.fl {ds : List D} (h : Rt K S H v (.fl ds)) : ∃ a xs, v = .ref a ∧ LsF K H a xs ∧ RpA K S H xs ds := by
  rcases h with h | ⟨a, _, h⟩
  · simpa only [Rp] using h
  · cases h
theorem Rt.tup {ds : List D} (h : Rt K S H v (.tup ds)) : ∃ a xs, v = .ref a ∧ SqT K H a xs ∧ RpA K S H xs ds := by
  rcases h with h | ⟨a, _, h⟩
  · simpa only [Rp] using h
  · cases h
theorem Rt.dk {ds : List (Key × D)} (h : Rt K S H v (.dk ds)) : ∃ a kvs, v = .ref a ∧ H a = some (.dK kvs) ∧ RpD K S H kvs ds := by
  rcases h with h | ⟨a, e, h⟩
  · simp only [Rp] at h
    obtain ⟨a, kvs, e, l, r⟩ := h
    exact ⟨a, kvs, e, l.2, r⟩
  · cases h with
    | dik n l r => exact ⟨a, _, e, l, r⟩
theorem Rt.dt {ds : List (List Key × D)} (h : Rt K S H v (.dt ds)) : ∃ a kvs, v = .ref a ∧ H a = some (.dT kvs) ∧ RpT K S H kvs ds := by
  rcases h with h | ⟨a, e, h⟩
  · simp only [Rp] at h
    obtain ⟨a, kvs, e, l, r⟩ := h
    exact ⟨a, kvs, e, l.2, r⟩
  · cases h with
    | dit n l r => exact ⟨a, _, e, l, r⟩
/-- flat values need nothing -/
theorem VOk.flat {m : Md} {d : D} {Q : VK} (sd : SD S H) (h : VOk K m S H (.ok d) Q) {v : V} (hm : isMut d = false) (r : Rp K S H v d) : Q v H :=
  h v S H (Gr.refl sd) (by
    cases m with
    | sh => exact r
    | fr => exact .inl ⟨hm, r⟩
    | pk => exact .inl r)
theorem VOk.int {m : Md} {i : Int} {Q : VK} (sd : SD S H) (h : VOk K m S H (.ok (.int i)) Q) : Q (.int i) H := h.flat sd rfl (by simp only [Rp])
theorem VOk.bl {m : Md} {i : Bool} {Q : VK} (sd : SD S H) (h : VOk K m S H (.ok (.bl i)) Q) : Q (.bl i) H := h.flat sd rfl (by simp only [Rp])
theorem VOk.str {m : Md} {x : Str} {Q : VK} (sd : SD S H) (h : VOk K m S H (.ok (.str x)) Q) (hx : sOk x = true) : Q (.str x) H := h.flat sd rfl (by simp only [Rp]; exact ⟨trivial, hx⟩)
/-- a new tuple -/
theorem VOk.tup {m : Md} {ds : List D} {Q : VK} (sd : SD S H) (h : VOk K m S H (.ok (.tup ds)) Q) {xs : List V} (r : RpA K S H xs ds) : ∀ p, H p = none → Q (.ref p) (upd H p (.tup xs)) := fun p hp => by
  have g := Gr.alloc (o := .tup xs) sd hp
  have r' : Rp K S (upd H p (.tup xs)) (.ref p) (.tup ds) := by
    simp only [Rp]
    exact ⟨p, xs, rfl, SqT.of upd_same, r.gr g sd⟩
  exact h _ S _ g (by
    cases m with
    | sh => exact r'
    | fr => exact .inl ⟨rfl, r'⟩
    | pk => exact .inl r')
/-- a new list -/
theorem VOk.lst {ds : List D} {Q : VK} (sd : SD S H) (h : VOk K .fr S H (.ok (.lst ds)) Q) {xs : List V} (r : RpA K S H xs ds) : ∀ p, H p = none → Q (.ref p) (upd H p (.lst xs)) := fun p hp => by
  have g := Gr.alloc (o := .lst xs) sd hp
  exact h _ S _ g (.inr ⟨p, rfl, .lst (sd.not hp) upd_same (r.gr g sd), hp⟩)
theorem VOk.no {m : Md} {Q : VK} {P : Prop} (h : VOk K m S H .bad Q) : P := False.elim h
theorem VOk.when {m : Md} {b : Bool} {r : R D} {Q : VK} (h : VOk K m S H (.when b r) Q) : b = true ∧ VOk K m S H r Q := by
  cases b with
  | true => exact ⟨rfl, h⟩
  | false => exact False.elim h
end
theorem RpA.app {K : Fg} {S : Sh} {H : Hp} : ∀ {xs ys : List V} {ds es : List D}, RpA K S H xs ds → RpA K S H ys es → RpA K S H (xs ++ ys) (ds ++ es)
  | [], _, [], _, _, h => h
  | [], _, _ :: _, _, h, _ => by simp only [RpA] at h
  | _ :: _, _, [], _, h, _ => by simp only [RpA] at h
  | _ :: xs, _, _ :: ds, _, h, h' => by
    simp only [RpA, List.cons_append] at h ⊢
    exact ⟨h.1, RpA.app h.2 h'⟩
theorem RpA.get {K : Fg} {S : Sh} {H : Hp} : ∀ {xs : List V} {ds : List D} {i : Nat} {d : D}, RpA K S H xs ds → ds[i]? = some d → ∃ v, xs[i]? = some v ∧ Rp K S H v d
  | [], [], _, _, _, h => by simp at h
  | [], _ :: _, _, _, h, _ => by simp only [RpA] at h
  | _ :: _, [], _, _, h, _ => by simp only [RpA] at h
  | v :: xs, d :: ds, 0, e, h, h' => by
    simp only [RpA] at h
    simp at h'
    subst h'
    exact ⟨v, rfl, h.1⟩
  | v :: xs, d :: ds, i + 1, e, h, h' => by
    simp only [RpA] at h
    obtain ⟨w, q1, q2⟩ := RpA.get (i := i) (d := e) h.2 (by simpa using h')
    exact ⟨w, by simpa using q1, q2⟩
theorem RpA.take {K : Fg} {S : Sh} {H : Hp} : ∀ {xs : List V} {ds : List D} (n : Nat), RpA K S H xs ds → RpA K S H (xs.take n) (ds.take n)
  | _, _, 0, _ => by simp only [List.take_zero, RpA]
  | [], [], _ + 1, h => by simpa using h
  | [], _ :: _, _ + 1, h => by simp only [RpA] at h
  | _ :: _, [], _ + 1, h => by simp only [RpA] at h
  | _ :: _, _ :: _, n + 1, h => by
    simp only [RpA, List.take_succ_cons] at h ⊢
    exact ⟨h.1, RpA.take n h.2⟩
theorem RpA.drop {K : Fg} {S : Sh} {H : Hp} : ∀ {xs : List V} {ds : List D} (n : Nat), RpA K S H xs ds → RpA K S H (xs.drop n) (ds.drop n)
  | _, _, 0, h => by simpa using h
  | [], [], _ + 1, h => by simpa using h
  | [], _ :: _, _ + 1, h => by simp only [RpA] at h
  | _ :: _, [], _ + 1, h => by simp only [RpA] at h
  | _ :: _, _ :: _, n + 1, h => by
    simp only [RpA, List.drop_succ_cons] at h ⊢
    exact RpA.drop n h.2
theorem RpA.rev {K : Fg} {S : Sh} {H : Hp} : ∀ {xs : List V} {ds : List D}, RpA K S H xs ds → RpA K S H xs.reverse ds.reverse
  | [], [], h => by simpa using h
  | [], _ :: _, h => by simp only [RpA] at h
  | _ :: _, [], h => by simp only [RpA] at h
  | v :: vs, d :: ds, h => by
    simp only [RpA, List.reverse_cons] at h ⊢
    exact RpA.app (RpA.rev h.2) (by simp only [RpA]; exact ⟨h.1, trivial⟩)
theorem RpA.set {K : Fg} {S : Sh} {H : Hp} {v : V} {d : D} (r : Rp K S H v d) : ∀ {xs : List V} {ds : List D} (i : Nat), RpA K S H xs ds → RpA K S H (xs.set i v) (ds.set i d)
  | [], [], _, h => by simpa using h
  | [], _ :: _, _, h => by simp only [RpA] at h
  | _ :: _, [], _, h => by simp only [RpA] at h
  | _ :: _, _ :: _, 0, h => by
    simp only [RpA, List.set_cons_zero] at h ⊢
    exact ⟨r, h.2⟩
  | _ :: _, _ :: _, i + 1, h => by
    simp only [RpA, List.set_cons_succ] at h ⊢
    exact ⟨h.1, RpA.set r i h.2⟩
theorem RpA.rep {K : Fg} {S : Sh} {H : Hp} {xs : List V} {ds : List D} (r : RpA K S H xs ds) : ∀ n : Nat, RpA K S H (List.replicate n xs).flatten (List.replicate n ds).flatten
  | 0 => by simp [RpA]
  | n + 1 => by
    simp only [List.replicate_succ, List.flatten_cons]
    exact r.app (RpA.rep r n)
theorem RpA.nil {K : Fg} {S : Sh} {H : Hp} : RpA K S H [] [] := by simp only [RpA]
theorem RpA.cons {K : Fg} {S : Sh} {H : Hp} {v : V} {vs : List V} {d : D} {ds : List D} (h : Rp K S H v d) (t : RpA K S H vs ds) : RpA K S H (v :: vs) (d :: ds) := by simp only [RpA]; exact ⟨h, t⟩
end PP
/-! The rules of values: operators and comparisons. -/
namespace PP
open PySem PySem.Spec L2
open PySem.PyData (strOk)

/-! ### texts -/
theorem sOk_len {x : Str} (h : sOk x = true) : x.length ≤ sizeLine := by
  unfold sOk at h
  rw [Bool.and_eq_true] at h
  exact of_decide_eq_true h.2
theorem sOk_str {x : Str} (h : sOk x = true) : strOk x = true := by
  unfold sOk at h
  rw [Bool.and_eq_true] at h
  exact h.1
theorem strOk_iff {x : Str} : strOk x = true ↔ ∀ c ∈ x.cps.toList, c < 1114112 := by
  unfold strOk
  rw [Array.all_eq_true']
  constructor
  · intro h c hc
    have := h c (by simpa using hc)
    simpa using this
  · intro h c hc
    have := h c (by simpa using hc)
    simpa using this
theorem sOk_of {x : Str} (h1 : ∀ c ∈ x.cps.toList, c < 1114112) (h2 : x.length ≤ sizeLine) : sOk x = true := by
  unfold sOk
  rw [Bool.and_eq_true]
  exact ⟨strOk_iff.mpr h1, decide_eq_true h2⟩
theorem sOk_cps {x : Str} (h : sOk x = true) : ∀ c ∈ x.cps.toList, c < 1114112 := strOk_iff.mp (sOk_str h)
theorem Str.app_cps (x y : Str) : (x ++ y).cps.toList = x.cps.toList ++ y.cps.toList := by
  show (x.cps ++ y.cps).toList = _
  rw [Array.toList_append]
theorem Str.app_len (x y : Str) : (x ++ y).length = x.length + y.length := by
  show (x.cps ++ y.cps).size = _
  rw [Array.size_append]; rfl
theorem sOk_app {x y : Str} (hx : sOk x = true) (hy : sOk y = true) (h : x.length + y.length ≤ sizeLine) : sOk (x ++ y) = true := by
  refine sOk_of (fun c hc => ?_) (by rw [Str.app_len]; exact h)
  rw [Str.app_cps] at hc
  rcases List.mem_append.mp hc with hc | hc
  · exact sOk_cps hx c hc
  · exact sOk_cps hy c hc
theorem len_cps (x : Str) : x.cps.toList.length = x.length := by
  rw [Array.length_toList]; rfl
theorem sOk_sub {x : Str} {l : List Nat} (hx : sOk x = true) (h : ∀ c ∈ l, c ∈ x.cps.toList) (hl : l.length ≤ x.length) : sOk ⟨l.toArray⟩ = true := by
  refine sOk_of (fun c hc => sOk_cps hx c (h c (by simpa using hc))) ?_
  show l.toArray.size ≤ _
  rw [List.size_toArray]
  exact Nat.le_trans hl (sOk_len hx)

section
variable {X : Cx}
/-! ### + - * // % ** & << >> -/
theorem RpA.nil_iff {K : Fg} {S : Sh} {H : Hp} {xs : List V} {ds : List D} (r : RpA K S H xs ds) : xs = [] ↔ ds = [] := by
  have e := r.len
  constructor
  · intro h; subst h; exact List.length_eq_zero_iff.mp e.symm
  · intro h; subst h; exact List.length_eq_zero_iff.mp e
def rAddA (K : Fg) : R2 := fun x y H Q => rI0 (fun i j => .int (i + j)) x y H Q ∨ (∃ i j, x = .str i ∧ y = .str j ∧ i.length + j.length ≤ sizeLine ∧ Q (.str (i ++ j)) H) ∨ rCatA K x y H Q ∨ rCat x y H Q
theorem op_addA : OpR X (binaryOp .Add) (rAddA X.K) := OpR.or op_add (OpR.or op_add_str (OpR.or op_catA op_cat))
theorem hk_add {K : Fg} {S : Sh} {H : Hp} {x y : V} {dx dy : D} {Q : VK} (sd : SD S H) (rx : Rt K S H x dx) (ry : Rt K S H y dy) (q : VOk K .fr S H (o2D .add dx dy) Q) : rAddA K x y H Q := by
  cases dx with
  | int i =>
    cases dy with
    | int j => exact .inl ⟨i, j, rx.int, ry.int, q.int sd⟩
    | _ => exact q.no
  | str i =>
    cases dy with
    | str j =>
      obtain ⟨h, q⟩ := VOk.when q
      have h' : i.length + j.length ≤ sizeLine := of_decide_eq_true h
      exact .inr (.inl ⟨i, j, rx.str.1, ry.str.1, h', q.str sd (sOk_app rx.str.2 ry.str.2 h')⟩)
    | _ => exact q.no
  | tup ds =>
    cases dy with
    | tup es =>
      obtain ⟨h, q⟩ := VOk.when q
      have h' : ds.length + es.length ≤ sizeLine := of_decide_eq_true h
      obtain ⟨a, xs, rfl, ha0, r⟩ := rx.tup
      obtain ⟨b, ys, rfl, hb0, r'⟩ := ry.tup
      have ha : SqT K H a xs := ha0
      have hb : SqT K H b ys := hb0
      refine .inr (.inr (.inl ⟨a, b, xs, ys, rfl, rfl, ha, hb, by rw [r.len, r'.len]; exact h', fun e => ?_, fun _ e => ?_, fun _ _ p hp => q.tup sd (r.app r') p hp⟩))
      · have e' := r.nil_iff.mp e
        subst e'
        refine q.flat sd rfl ?_
        simp only [Rp, List.nil_append]
        exact ⟨b, ys, rfl, hb0, r'⟩
      · have e' := r'.nil_iff.mp e
        subst e'
        refine q.flat sd rfl ?_
        simp only [Rp, List.append_nil]
        exact ⟨a, xs, rfl, ha0, r⟩
    | _ => exact q.no
  | lst ds =>
    cases dy with
    | lst es =>
      obtain ⟨h, q⟩ := VOk.when q
      have h' : ds.length + es.length ≤ sizeLine := of_decide_eq_true h
      obtain ⟨a, xs, rfl, ha, r⟩ := rx.lst
      obtain ⟨b, ys, rfl, hb, r'⟩ := ry.lst
      exact .inr (.inr (.inr ⟨a, b, xs, ys, rfl, rfl, ha, hb, by rw [r.len, r'.len]; exact h', fun p hp => q.lst sd (r.app r') p hp⟩))
    | _ => exact q.no
  | _ => exact q.no

/-- a text times an int -/
theorem op_mulS : OpR X (binaryOp .Mult) (fun x y H Q => ∃ (z : Str) (n : Int), x = .str z ∧ y = .int n ∧ -(2 ^ 62) < n ∧ n < 2 ^ 62 ∧ z.length * n.toNat ≤ sizeLine ∧ Q (.str (Str.rep z n.toNat)) H) := by
  intro pins s σ H x y v u Q I rx ry h
  obtain ⟨z, n, rfl, rfl, h1, h2, hz, q⟩ := h
  obtain ⟨t, rfl⟩ := rx
  obtain ⟨t', rfl⟩ := ry
  have hs : sizeLine = 16777216 := sizeLine_eq
  have hok : PySem.MulOk z n := by
    refine ⟨?_, fun h3 h4 => ?_, fun h3 h4 => ?_⟩
    · rw [Bool.or_eq_false_iff]
      exact ⟨decide_eq_false (by omega), decide_eq_false (by omega)⟩
    · rw [Bool.or_eq_false_iff] at h4
      have hn : n.toNat ≠ 0 := by omega
      have : z.length ≤ sizeLine := Nat.le_trans (Nat.le_mul_of_pos_right _ (by omega)) hz
      have hne : z.length ≠ 0 := by
        have := h4.2
        simpa using this
      have hn2 : n.toNat ≤ sizeLine := Nat.le_trans (Nat.le_mul_of_pos_left _ (by omega)) hz
      intro h5
      have h6 : (2 ^ 63 - 1 : Int) / n < (z.length : Int) := h5
      have h7 : (2 ^ 63 - 1 : Int) < (z.length : Int) * n := (Int.ediv_lt_iff_lt_mul (by omega)).mp h6
      have h8 : ((z.length * n.toNat : Nat) : Int) = (z.length : Int) * n := by
        rw [Int.natCast_mul, Int.toNat_of_nonneg (by omega)]
      omega
    · show Builtin.Str.tooLong _ = false
      unfold Builtin.Str.tooLong
      exact decide_eq_false (by omega)
  refine PySem.SB.mul (x := z) hok fun t2 k => ?_
  have e : PySem.Txt.mul z n = Str.rep z n.toNat := by
    unfold PySem.Txt.mul Str.rep
    by_cases c : n < 1
    · rw [if_pos c]
      have : n.toNat = 0 := by omega
      rw [this]
      rfl
    · rw [if_neg c]
      by_cases c2 : (n == 1 || z.length == 0) = true
      · rw [if_pos c2]
        rcases Bool.or_eq_true_iff.mp c2 with c3 | c3
        · have : n = 1 := by simpa using c3
          subst this
          show z = ⟨(List.replicate 1 z.cps.toList).flatten.toArray⟩
          simp
        · have hz0 : z.cps = #[] := by
            have h0 : z.length = 0 := by simpa using c3
            exact Array.size_eq_zero_iff.mp h0
          obtain ⟨c⟩ := z
          simp only at hz0
          subst hz0
          simp
      · rw [if_neg c2]
        congr 1
        have f0 : ∀ (m : Nat) (acc : Array Nat), List.foldl (· ++ ·) acc (List.replicate m z.cps) = acc ++ (List.replicate m z.cps.toList).flatten.toArray := by
          intro m
          induction m with
          | zero => intro acc; simp
          | succ m ih =>
            intro acc
            rw [List.replicate_succ, List.foldl_cons, ih, List.replicate_succ, List.flatten_cons]
            apply Array.toList_inj.mp
            simp
        rw [f0]
        simp
  rw [e]
  exact ⟨.str _, H, I.tok _, ⟨_, rfl⟩, q⟩
theorem rep_len (z : Str) (n : Nat) : (Str.rep z n).length = z.length * n := by
  show (List.replicate n z.cps.toList).flatten.toArray.size = _
  rw [List.size_toArray, List.length_flatten, List.map_replicate, List.sum_replicate_nat, len_cps, Nat.mul_comm]
theorem sOk_rep {z : Str} {n : Nat} (h : sOk z = true) (hl : z.length * n ≤ sizeLine) : sOk (Str.rep z n) = true := by
  refine sOk_of (fun c hc => ?_) (by rw [rep_len]; exact hl)
  have hc' : c ∈ (List.replicate n z.cps.toList).flatten := by simpa [Str.rep] using hc
  obtain ⟨l, hl, hcl⟩ := List.mem_flatten.mp hc'
  rw [(List.mem_replicate.mp hl).2] at hcl
  exact sOk_cps h c hcl
def rMulA : R2 := fun x y H Q => rI CMul (fun i j => .int (i * j)) x y H Q ∨ rI CMulW (fun i j => .int (i * j)) x y H Q ∨ (∃ (z : Str) (n : Int), x = .str z ∧ y = .int n ∧ -(2 ^ 62) < n ∧ n < 2 ^ 62 ∧ z.length * n.toNat ≤ sizeLine ∧ Q (.str (Str.rep z n.toNat)) H) ∨ rRep x y H Q
theorem op_mulA : OpR X (binaryOp .Mult) rMulA := OpR.or op_mul (OpR.or op_mulW (OpR.or op_mulS op_rep))
theorem sm64_iff {i : Int} : sm64 i = true ↔ -(2 ^ 64) < i ∧ i < 2 ^ 64 := by
  unfold sm64
  rw [Bool.and_eq_true, decide_eq_true_eq, decide_eq_true_eq]
theorem hk_mul {K : Fg} {S : Sh} {H : Hp} {x y : V} {dx dy : D} {Q : VK} (sd : SD S H) (rx : Rt K S H x dx) (ry : Rt K S H y dy) (q : VOk K .fr S H (o2D .mul dx dy) Q) : rMulA x y H Q := by
  cases dx with
  | int i =>
    cases dy with
    | int j =>
      obtain ⟨h, q⟩ := VOk.when q
      rw [Bool.or_eq_true, Bool.or_eq_true, Bool.and_eq_true] at h
      rcases h with (h | h) | ⟨h1, h2⟩
      · exact .inl ⟨i, j, rx.int, ry.int, .inl (sm64_iff.mp h), q.int sd⟩
      · exact .inl ⟨i, j, rx.int, ry.int, .inr (sm64_iff.mp h), q.int sd⟩
      · have a1 : i.natAbs.log2 < 4000 := of_decide_eq_true h1
        have a2 : j.natAbs.log2 < 4000 := of_decide_eq_true h2
        exact .inr (.inl ⟨i, j, rx.int, ry.int, (by unfold CMulW; omega), q.int sd⟩)
    | _ => exact q.no
  | str i =>
    cases dy with
    | int j =>
      obtain ⟨h, q⟩ := VOk.when q
      rw [Bool.and_eq_true, Bool.and_eq_true] at h
      have a1 : j < 2 ^ 62 := of_decide_eq_true h.1.1
      have a2 : -(2 ^ 62) < j := of_decide_eq_true h.1.2
      have a3 : i.length * j.toNat ≤ sizeLine := of_decide_eq_true h.2
      exact .inr (.inr (.inl ⟨i, j, rx.str.1, ry.int, a2, a1, a3, q.str sd (sOk_rep rx.str.2 a3)⟩))
    | _ => exact q.no
  | lst ds =>
    cases dy with
    | int j =>
      obtain ⟨h, q⟩ := VOk.when q
      rw [Bool.and_eq_true, Bool.and_eq_true] at h
      have a1 : j < 2 ^ 62 := of_decide_eq_true h.1.1
      have a2 : -(2 ^ 62) < j := of_decide_eq_true h.1.2
      have a3 : ds.length * j.toNat ≤ sizeLine := of_decide_eq_true h.2
      obtain ⟨a, xs, rfl, ha, r⟩ := rx.lst
      exact .inr (.inr (.inr ⟨a, j, xs, rfl, ry.int, ha, by omega, by omega, by rw [r.len]; exact a3, fun p hp => q.lst sd (r.rep _) p hp⟩))
    | _ => exact q.no
  | _ => exact q.no
theorem hk_sub {K : Fg} {S : Sh} {H : Hp} {x y : V} {dx dy : D} {Q : VK} (sd : SD S H) (rx : Rt K S H x dx) (ry : Rt K S H y dy) (q : VOk K .fr S H (o2D .sub dx dy) Q) : rI0 (fun i j => .int (i - j)) x y H Q := by
  cases dx with
  | int i =>
    cases dy with
    | int j => exact ⟨i, j, rx.int, ry.int, q.int sd⟩
    | _ => exact q.no
  | _ => exact q.no
theorem hk_fdiv {K : Fg} {S : Sh} {H : Hp} {x y : V} {dx dy : D} {Q : VK} (sd : SD S H) (rx : Rt K S H x dx) (ry : Rt K S H y dy) (q : VOk K .fr S H (o2D .fdiv dx dy) Q) : rI CDivW (fun i j => .int (i / j)) x y H Q := by
  cases dx with
  | int i =>
    cases dy with
    | int j =>
      obtain ⟨h, q⟩ := VOk.when q
      rw [Bool.and_eq_true] at h
      have a1 : 0 < j := of_decide_eq_true h.1
      have a2 : j.natAbs.log2 < 4000 := of_decide_eq_true h.2
      exact ⟨i, j, rx.int, ry.int, ⟨a1, by omega⟩, q.int sd⟩
    | _ => exact q.no
  | _ => exact q.no
theorem hk_mod {K : Fg} {S : Sh} {H : Hp} {x y : V} {dx dy : D} {Q : VK} (sd : SD S H) (rx : Rt K S H x dx) (ry : Rt K S H y dy) (q : VOk K .fr S H (o2D .mod dx dy) Q) : rI (fun _ j => 0 < j) (fun i j => .int (i % j)) x y H Q := by
  cases dx with
  | int i =>
    cases dy with
    | int j =>
      obtain ⟨h, q⟩ := VOk.when q
      exact ⟨i, j, rx.int, ry.int, of_decide_eq_true h, q.int sd⟩
    | _ => exact q.no
  | _ => exact q.no
theorem cpow_of {i j : Int} (h : (decide (0 ≤ j) && decide (j ≤ 1000) && sm64 i) = true) : CPow i j := by
  rw [Bool.and_eq_true, Bool.and_eq_true, sm64_iff] at h
  have a1 : 0 ≤ j := of_decide_eq_true h.1.1
  have a2 : j ≤ 1000 := of_decide_eq_true h.1.2
  exact ⟨a1, by omega, by omega⟩
theorem hk_pow {K : Fg} {S : Sh} {H : Hp} {x y : V} {dx dy : D} {Q : VK} (sd : SD S H) (rx : Rt K S H x dx) (ry : Rt K S H y dy) (q : VOk K .fr S H (o2D .pow dx dy) Q) : rI CPow (fun i j => .int (i ^ j.toNat)) x y H Q := by
  cases dx with
  | int i =>
    cases dy with
    | int j =>
      obtain ⟨h, q⟩ := VOk.when q
      exact ⟨i, j, rx.int, ry.int, cpow_of h, q.int sd⟩
    | _ => exact q.no
  | _ => exact q.no
theorem hk_shl {K : Fg} {S : Sh} {H : Hp} {x y : V} {dx dy : D} {Q : VK} (sd : SD S H) (rx : Rt K S H x dx) (ry : Rt K S H y dy) (q : VOk K .fr S H (o2D .shl dx dy) Q) : rI CPow (fun i j => .int (i * 2 ^ j.toNat)) x y H Q := by
  cases dx with
  | int i =>
    cases dy with
    | int j =>
      obtain ⟨h, q⟩ := VOk.when q
      exact ⟨i, j, rx.int, ry.int, cpow_of h, q.int sd⟩
    | _ => exact q.no
  | _ => exact q.no
theorem hk_shr {K : Fg} {S : Sh} {H : Hp} {x y : V} {dx dy : D} {Q : VK} (sd : SD S H) (rx : Rt K S H x dx) (ry : Rt K S H y dy) (q : VOk K .fr S H (o2D .shr dx dy) Q) : rI (fun _ j => 0 ≤ j) (fun i j => .int (i / 2 ^ j.toNat)) x y H Q := by
  cases dx with
  | int i =>
    cases dy with
    | int j =>
      obtain ⟨h, q⟩ := VOk.when q
      exact ⟨i, j, rx.int, ry.int, of_decide_eq_true h, q.int sd⟩
    | _ => exact q.no
  | _ => exact q.no
theorem hk_band {K : Fg} {S : Sh} {H : Hp} {x y : V} {dx dy : D} {Q : VK} (sd : SD S H) (rx : Rt K S H x dx) (ry : Rt K S H y dy) (q : VOk K .fr S H (o2D .band dx dy) Q) : rI0 (fun i j => .int (Builtin.bitAnd i j)) x y H Q := by
  cases dx with
  | int i =>
    cases dy with
    | int j => exact ⟨i, j, rx.int, ry.int, q.int sd⟩
    | _ => exact q.no
  | _ => exact q.no
def o2Op : O2 → Operator
  | .add => .Add | .sub => .Sub | .mul => .Mult | .fdiv => .FloorDiv | .mod => .Mod | .pow => .Pow | .band => .BitAnd | .shl => .LShift | .shr => .RShift
theorem o2_ne (op : O2) (dx dy : D) (c : Nat) (p : D) : o2D op dx dy ≠ .err c p := by
  cases op <;> cases dx <;> cases dy <;> first
    | (intro h; cases h; done)
    | (simp only [o2D, R.when]; split <;> (intro h; cases h))
theorem se_bin {W : WX} {cl : Nat → Value} {o : List Bool} {ma mb : Md} {a b : Expr} {fa fb : Env → R D} {pos : Pos} (op : O2) (ha : SE X W cl o ma a fa) (hb : SE X W cl o mb b fb) :
    SE X W cl o .fr (.BinOp a (o2Op op) b pos) (fun ρ => (fa ρ).bind fun x => (fb ρ).bind fun y => o2D op x y) := by
  cases op with
  | add => exact SE.op2 ha hb (fun p q => pe_op op_addA p q) (fun _ _ _ _ _ _ _ _ sd rx ry q => hk_add sd rx ry q) (o2_ne _)
  | sub => exact SE.op2 ha hb (fun p q => pe_op op_sub p q) (fun _ _ _ _ _ _ _ _ sd rx ry q => hk_sub sd rx ry q) (o2_ne _)
  | mul => exact SE.op2 ha hb (fun p q => pe_op op_mulA p q) (fun _ _ _ _ _ _ _ _ sd rx ry q => hk_mul sd rx ry q) (o2_ne _)
  | fdiv => exact SE.op2 ha hb (fun p q => pe_op op_fdivW p q) (fun _ _ _ _ _ _ _ _ sd rx ry q => hk_fdiv sd rx ry q) (o2_ne _)
  | mod => exact SE.op2 ha hb (fun p q => pe_op op_mod p q) (fun _ _ _ _ _ _ _ _ sd rx ry q => hk_mod sd rx ry q) (o2_ne _)
  | pow => exact SE.op2 ha hb (fun p q => pe_op op_pow p q) (fun _ _ _ _ _ _ _ _ sd rx ry q => hk_pow sd rx ry q) (o2_ne _)
  | band => exact SE.op2 ha hb (fun p q => pe_op op_and p q) (fun _ _ _ _ _ _ _ _ sd rx ry q => hk_band sd rx ry q) (o2_ne _)
  | shl => exact SE.op2 ha hb (fun p q => pe_op op_shl p q) (fun _ _ _ _ _ _ _ _ sd rx ry q => hk_shl sd rx ry q) (o2_ne _)
  | shr => exact SE.op2 ha hb (fun p q => pe_op op_shr p q) (fun _ _ _ _ _ _ _ _ sd rx ry q => hk_shr sd rx ry q) (o2_ne _)
end
end PP
/-! Equality, order, membership. -/
namespace PP
open PySem PySem.Spec L2
open PySem.PyData (strOk)

/-! ### as the library's data -/
mutual
theorem py_depth : ∀ d : D, d.nd = true → d.py.depth = d.dep
  | .non, _ => by simp only [D.py, PyData.depth, D.dep]
  | .bl _, _ => by simp only [D.py, PyData.depth, D.dep]
  | .int _, _ => by simp only [D.py, PyData.depth, D.dep]
  | .str _, _ => by simp only [D.py, PyData.depth, D.dep]
  | .lst xs, h => by
    simp only [D.nd] at h
    simp only [D.py, PyData.depth, D.dep, py_depthA xs h]
  | .fl xs, h => by
    simp only [D.nd] at h
    simp only [D.py, PyData.depth, D.dep, py_depthA xs h]
  | .tup xs, h => by
    simp only [D.nd] at h
    simp only [D.py, PyData.depth, D.dep, py_depthA xs h]
  | .dk _, h => by simp only [D.nd] at h; cases h
  | .dt _, h => by simp only [D.nd] at h; cases h
theorem py_depthA : ∀ ds : List D, D.nd.ndA ds = true → PyData.depthAll (D.pyA ds) = D.dep.depA ds
  | [], _ => by simp only [D.pyA, PyData.depthAll, D.dep.depA]
  | d :: ds, h => by
    simp only [D.nd.ndA, Bool.and_eq_true] at h
    simp only [D.pyA, PyData.depthAll, D.dep.depA, py_depth d h.1, py_depthA ds h.2]
end
mutual
theorem py_eq : ∀ d e : D, d.nd = true → e.nd = true → D.eq d e = PyData.eqv d.py e.py
  | .non, e, _, h => by cases e <;> first | (simp only [D.nd] at h; cases h; done) | simp only [D.eq, D.py, PyData.eqv]
  | .bl b, e, _, h => by cases e <;> first | (simp only [D.nd] at h; cases h; done) | simp only [D.eq, D.py, PyData.eqv]
  | .int b, e, _, h => by cases e <;> first | (simp only [D.nd] at h; cases h; done) | simp only [D.eq, D.py, PyData.eqv]
  | .str b, e, _, h => by cases e <;> first | (simp only [D.nd] at h; cases h; done) | simp only [D.eq, D.py, PyData.eqv]
  | .lst xs, e, h', h => by
    simp only [D.nd] at h'
    cases e with
    | lst ys => simp only [D.nd] at h; simp only [D.eq, D.py, PyData.eqv, py_eqA xs ys h' h]
    | fl ys => simp only [D.nd] at h; simp only [D.eq, D.py, PyData.eqv, py_eqA xs ys h' h]
    | dk _ => simp only [D.nd] at h; cases h
    | dt _ => simp only [D.nd] at h; cases h
    | _ => simp only [D.eq, D.py, PyData.eqv]
  | .fl xs, e, h', h => by
    simp only [D.nd] at h'
    cases e with
    | lst ys => simp only [D.nd] at h; simp only [D.eq, D.py, PyData.eqv, py_eqA xs ys h' h]
    | fl ys => simp only [D.nd] at h; simp only [D.eq, D.py, PyData.eqv, py_eqA xs ys h' h]
    | dk _ => simp only [D.nd] at h; cases h
    | dt _ => simp only [D.nd] at h; cases h
    | _ => simp only [D.eq, D.py, PyData.eqv]
  | .tup xs, e, h', h => by
    simp only [D.nd] at h'
    cases e with
    | tup ys => simp only [D.nd] at h; simp only [D.eq, D.py, PyData.eqv, py_eqA xs ys h' h]
    | dk _ => simp only [D.nd] at h; cases h
    | dt _ => simp only [D.nd] at h; cases h
    | _ => simp only [D.eq, D.py, PyData.eqv]
  | .dk _, _, h, _ => by simp only [D.nd] at h; cases h
  | .dt _, _, h, _ => by simp only [D.nd] at h; cases h
theorem py_eqA : ∀ ds es : List D, D.nd.ndA ds = true → D.nd.ndA es = true → D.eqA ds es = PyData.eqvAll (D.pyA ds) (D.pyA es)
  | [], [], _, _ => by simp only [D.eqA, D.pyA, PyData.eqvAll]
  | [], _ :: _, _, _ => by simp only [D.eqA, D.pyA, PyData.eqvAll]
  | _ :: _, [], _, _ => by simp only [D.eqA, D.pyA, PyData.eqvAll]
  | d :: ds, e :: es, h, h' => by
    simp only [D.nd.ndA, Bool.and_eq_true] at h h'
    simp only [D.eqA, D.pyA, PyData.eqvAll, py_eq d e h.1 h'.1, py_eqA ds es h.2 h'.2]
end
section
variable {K : Fg} {S : Sh} {H : Hp}
mutual
theorem Rp.dp : ∀ (d : D) (v : V), Rp K S H v d → d.nd = true → Dp K H v d.py ∧ d.py.canLay0 = true
  | .non, v, h, _ => by simp only [Rp] at h; subst h; exact ⟨by simp only [D.py]; exact .non, by simp only [D.py, PyData.canLay0]⟩
  | .bl _, v, h, _ => by simp only [Rp] at h; subst h; exact ⟨by simp only [D.py]; exact .bl _, by simp only [D.py, PyData.canLay0]⟩
  | .int _, v, h, _ => by simp only [Rp] at h; subst h; exact ⟨by simp only [D.py]; exact .int _, by simp only [D.py, PyData.canLay0]⟩
  | .str _, v, h, _ => by
    simp only [Rp] at h
    obtain ⟨rfl, h⟩ := h
    exact ⟨by simp only [D.py]; exact .str _, by simp only [D.py, PyData.canLay0]; exact sOk_str h⟩
  | .lst xs, v, h, n => by
    simp only [Rp] at h
    obtain ⟨a, ys, rfl, l, r⟩ := h
    simp only [D.nd] at n
    obtain ⟨p, q⟩ := RpA.dp xs ys r n
    exact ⟨by simp only [D.py]; exact .lst (.inl (.inl l.2)) p, by simp only [D.py, PyData.canLay0]; exact q⟩
  | .fl xs, v, h, n => by
    simp only [Rp] at h
    obtain ⟨a, ys, rfl, l, r⟩ := h
    simp only [D.nd] at n
    obtain ⟨p, q⟩ := RpA.dp xs ys r n
    exact ⟨by simp only [D.py]; exact .lst l.sq p, by simp only [D.py, PyData.canLay0]; exact q⟩
  | .tup xs, v, h, n => by
    simp only [Rp] at h
    obtain ⟨a, ys, rfl, l, r⟩ := h
    simp only [D.nd] at n
    obtain ⟨p, q⟩ := RpA.dp xs ys r n
    exact ⟨by simp only [D.py]; exact .tup l p, by simp only [D.py, PyData.canLay0]; exact q⟩
  | .dk _, _, _, h => by simp only [D.nd] at h; cases h
  | .dt _, _, _, h => by simp only [D.nd] at h; cases h
theorem RpA.dp : ∀ (ds : List D) (vs : List V), RpA K S H vs ds → D.nd.ndA ds = true → DpAll K H vs (D.pyA ds) ∧ PyData.canLayAll0 (D.pyA ds) = true
  | [], [], _, _ => ⟨by simp only [D.pyA]; exact .nil, by simp only [D.pyA, PyData.canLayAll0]⟩
  | [], _ :: _, h, _ => by simp only [RpA] at h
  | _ :: _, [], h, _ => by simp only [RpA] at h
  | d :: ds, v :: vs, h, n => by
    simp only [RpA] at h
    simp only [D.nd.ndA, Bool.and_eq_true] at n
    obtain ⟨p1, q1⟩ := Rp.dp d v h.1 n.1
    obtain ⟨p2, q2⟩ := RpA.dp ds vs h.2 n.2
    exact ⟨by simp only [D.pyA]; exact .cons p1 p2, by simp only [D.pyA, PyData.canLayAll0, q1, q2, Bool.and_self]⟩
end
theorem Rt.dp {d : D} {v : V} (h : Rt K S H v d) (n : d.nd = true) : Dp K H v d.py ∧ d.py.canLay0 = true := by
  rcases h with h | ⟨a, rfl, h⟩
  · exact Rp.dp d v h n
  · cases h with
    | lst _ l r =>
      simp only [D.nd] at n
      obtain ⟨p, q⟩ := RpA.dp _ _ r n
      exact ⟨by simp only [D.py]; exact .lst (.inl (.inl l)) p, by simp only [D.py, PyData.canLay0]; exact q⟩
    | dik _ _ _ => simp only [D.nd] at n; cases n
    | dit _ _ _ => simp only [D.nd] at n; cases n
end

section
variable {X : Cx}
/-! ### == and != -/
def rEqM (K : Fg) (neg : Bool) : R2 := fun x y H Q => ∃ d e, Dp K H x d ∧ Dp K H y e ∧ d.canLay0 = true ∧ e.canLay0 = true ∧ (d.depth ≤ 50 ∨ e.depth ≤ 50) ∧ Q (.bl (if neg then !PyData.eqv d e else PyData.eqv d e)) H
theorem min_room {a b n : Nat} {A : Around} (hu : A.units + 64 < cLine) (h : a ≤ 50 ∨ b ≤ 50) (hn : n ≤ 3) : A.units + n + min a b < cLine := by
  have : min a b ≤ 50 := by
    rcases h with h | h
    · exact Nat.le_trans (Nat.min_le_left _ _) h
    · exact Nat.le_trans (Nat.min_le_right _ _) h
  omega
theorem op_eqM (hu : X.A.units + 64 < cLine) : OpR X (compareOp .Eq) (rEqM X.K false) := by
  intro pins s σ H x y v u Q I rx ry h
  obtain ⟨d, e, hd, he, sd, se, hm, q⟩ := h
  obtain ⟨as, r1⟩ := Dp.reads I d x v hd rx
  obtain ⟨bs, r2⟩ := Dp.reads I e y u he ry
  exact SeqAt.compareEq_reads r1 r2 sd se (min_room hu hm (Nat.zero_le _)) ⟨.bl _, H, I, rfl, q⟩
theorem op_neM (hu : X.A.units + 64 < cLine) : OpR X (compareOp .NotEq) (rEqM X.K true) := by
  intro pins s σ H x y v u Q I rx ry h
  obtain ⟨d, e, hd, he, sd, se, hm, q⟩ := h
  obtain ⟨as, r1⟩ := Dp.reads I d x v hd rx
  obtain ⟨bs, r2⟩ := Dp.reads I e y u he ry
  exact SeqAt.compareNe_reads r1 r2 sd se (min_room hu hm (Nat.zero_le _)) ⟨.bl _, H, I, rfl, q⟩
theorem cmpOk_iff {x y : D} : cmpOk x y = true ↔ x.nd = true ∧ y.nd = true ∧ (x.dep ≤ 50 ∨ y.dep ≤ 50) := by
  unfold cmpOk
  rw [Bool.and_eq_true, Bool.and_eq_true, Bool.or_eq_true, decide_eq_true_eq, decide_eq_true_eq, and_assoc]
theorem hk_eq {K : Fg} {S : Sh} {H : Hp} {x y : V} {dx dy : D} {Q : VK} (sd : SD S H) (rx : Rt K S H x dx) (ry : Rt K S H y dy) (q : VOk K .sh S H (cmD .eq dx dy) Q) : rEqM K false x y H Q := by
  obtain ⟨h, q⟩ := VOk.when q
  obtain ⟨n1, n2, n3⟩ := cmpOk_iff.mp h
  obtain ⟨p1, c1⟩ := rx.dp n1
  obtain ⟨p2, c2⟩ := ry.dp n2
  refine ⟨_, _, p1, p2, c1, c2, by rw [py_depth _ n1, py_depth _ n2]; exact n3, ?_⟩
  have := q.bl sd
  rw [py_eq _ _ n1 n2] at this
  exact this
theorem hk_ne {K : Fg} {S : Sh} {H : Hp} {x y : V} {dx dy : D} {Q : VK} (sd : SD S H) (rx : Rt K S H x dx) (ry : Rt K S H y dy) (q : VOk K .sh S H (cmD .ne dx dy) Q) : rEqM K true x y H Q := by
  obtain ⟨h, q⟩ := VOk.when q
  obtain ⟨n1, n2, n3⟩ := cmpOk_iff.mp h
  obtain ⟨p1, c1⟩ := rx.dp n1
  obtain ⟨p2, c2⟩ := ry.dp n2
  refine ⟨_, _, p1, p2, c1, c2, by rw [py_depth _ n1, py_depth _ n2]; exact n3, ?_⟩
  have := q.bl sd
  rw [py_eq _ _ n1 n2] at this
  exact this

/-! ### in, not in -/
def rInM (K : Fg) (neg : Bool) : R2 := fun x y H Q => ∃ d ds, Dp K H x d ∧ (Dp K H y (.list ds) ∨ Dp K H y (.tuple ds)) ∧ d.canLay0 = true ∧ PyData.canLayAll0 ds = true ∧ d.depth ≤ 50 ∧ Q (.bl (if neg then !ds.any fun z => PyData.eqv z d else ds.any fun z => PyData.eqv z d)) H
theorem in_room {ds : List PyData} {d : PyData} {A : Around} (hu : A.units + 64 < cLine) (h : d.depth ≤ 50) : A.units + 1 + min (PyData.depthAll ds) d.depth < cLine := min_room hu (.inr h) (by decide)
theorem lay_list {ds : List PyData} (h : PyData.canLayAll0 ds = true) : (PyData.list ds).canLay0 = true := by simp only [PyData.canLay0]; exact h
theorem lay_tuple {ds : List PyData} (h : PyData.canLayAll0 ds = true) : (PyData.tuple ds).canLay0 = true := by simp only [PyData.canLay0]; exact h
theorem op_inM (hu : X.A.units + 64 < cLine) : OpR X (compareOp .In) (rInM X.K false) := by
  intro pins s σ H x y v u Q I rx ry h
  obtain ⟨d, ds, hd, he, sd, se, hm, q⟩ := h
  obtain ⟨as, r1⟩ := Dp.reads I d x v hd rx
  rcases he with he | he
  · obtain ⟨bs, r2⟩ := Dp.reads I _ y u he ry
    exact SeqAt.in_list_reads r2 r1 (lay_list se) sd (in_room hu hm) ⟨.bl _, H, I, rfl, q⟩
  · obtain ⟨bs, r2⟩ := Dp.reads I _ y u he ry
    exact SeqAt.in_tuple_reads r2 r1 (lay_tuple se) sd (in_room hu hm) ⟨.bl _, H, I, rfl, q⟩
theorem op_notInM (hu : X.A.units + 64 < cLine) : OpR X (compareOp .NotIn) (rInM X.K true) := by
  intro pins s σ H x y v u Q I rx ry h
  obtain ⟨d, ds, hd, he, sd, se, hm, q⟩ := h
  obtain ⟨as, r1⟩ := Dp.reads I d x v hd rx
  rcases he with he | he
  · obtain ⟨bs, r2⟩ := Dp.reads I _ y u he ry
    exact SeqAt.notIn_list_reads r2 r1 (lay_list se) sd (in_room hu hm) ⟨.bl _, H, I, rfl, q⟩
  · obtain ⟨bs, r2⟩ := Dp.reads I _ y u he ry
    exact SeqAt.notIn_tuple_reads r2 r1 (lay_tuple se) sd (in_room hu hm) ⟨.bl _, H, I, rfl, q⟩
theorem py_any {x : D} (hx : x.nd = true) : ∀ {ys : List D}, D.nd.ndA ys = true → ((D.pyA ys).any fun z => PyData.eqv z x.py) = ys.any fun y => D.eq y x
  | [], _ => by simp only [D.pyA, List.any_nil]
  | y :: ys, h => by
    simp only [D.nd.ndA, Bool.and_eq_true] at h
    simp only [D.pyA, List.any_cons, py_any hx h.2, py_eq y x h.1 hx]
theorem seqOk_iff {x : D} {ys : List D} : seqOk x ys = true ↔ x.nd = true ∧ D.nd.ndA ys = true ∧ x.dep ≤ 50 := by
  unfold seqOk
  rw [Bool.and_eq_true, Bool.and_eq_true, decide_eq_true_eq, and_assoc]
/-- a key by value -/
theorem toKey_some {K : Fg} {S : Sh} {H : Hp} {v : V} {d : D} {k : Key} (h : Rt K S H v d) (e : toKey d = some k) : v = kV k ∧ kOk k = true ∧ d = keyD k := by
  cases d with
  | int i => cases e; exact ⟨h.int, rfl, rfl⟩
  | str x => cases e; exact ⟨h.str.1, h.str.2, rfl⟩
  | _ => cases e
theorem toKeys_some {K : Fg} {S : Sh} {H : Hp} : ∀ {vs : List V} {ds : List D} {ks : List Key}, RpA K S H vs ds → toKeys ds = some ks → vs = ks.map kV ∧ ks.all kOk = true ∧ ds = ks.map keyD
  | [], [], ks, _, e => by
    simp only [toKeys, Option.some.injEq] at e
    subst e
    exact ⟨rfl, rfl, rfl⟩
  | [], _ :: _, _, h, _ => by simp only [RpA] at h
  | _ :: _, [], _, h, _ => by simp only [RpA] at h
  | v :: vs, d :: ds, ks, h, e => by
    simp only [RpA] at h
    simp only [toKeys] at e
    cases e1 : toKey d with
    | none => rw [e1] at e; cases e
    | some k =>
      cases e2 : toKeys ds with
      | none => rw [e1, e2] at e; cases e
      | some ks' =>
        rw [e1, e2] at e
        cases e
        obtain ⟨a1, a2, a3⟩ := toKey_some (.inl h.1) e1
        obtain ⟨b1, b2, b3⟩ := toKeys_some h.2 e2
        refine ⟨by rw [List.map_cons, a1, b1], ?_, by rw [List.map_cons, a3, b3]⟩
        rw [List.all_cons, a2, b2]; rfl
/-- what a dict at a holds at y, the key's tuple anybody's -/
def DGetQ (K : Fg) (H : Hp) (a : Addr) (y : V) (r : Option V) : Prop :=
  (∃ kvs k, H a = some (.dK kvs) ∧ y = kV k ∧ r = valV kvs k) ∨ ∃ kvs k b, H a = some (.dT kvs) ∧ y = .ref b ∧ SqT K H b (k.map kV) ∧ r = valV kvs k
theorem key_sq {pins : List (Addr × Obj)} {s : Shared} {σ : L2.St} {H : Hp} {a : Addr} {ks : List Key} (I : Inv X pins σ H s) (e : SqT X.K H a (ks.map kV)) : (tupleKind (mixKind X.prog X.w)).is s.heap ks a := by
  obtain ⟨its, r, ⟨o, h1, h2, n, h3⟩, _⟩ := I.tuple e
  exact ⟨o, its.toArray, n, h1, h2, h3, by simpa using items_are r⟩
theorem room_k {A : Around} (hu : A.units + 1 < cLine) : (tupleKind (mixKind X.prog X.w)).room A.in1 := tupleKind_room_in1 hu
theorem q_in {pins : List (Addr × Obj)} {s : Shared} {σ : L2.St} {H : Hp} {a : Addr} {y : V} {u : Value} {o : Option V} {E : Value → Shared → Prop} {Q : Value → Shared → Prop} (hu : X.A.units + 1 < cLine) (I : Inv X pins σ H s) (g : DGetQ X.K H a y o) (ry : RelV y u) (h : ∀ s', Inv X pins σ H s' → Q (.bool o.isSome) s') :
    wpAny (model X.prog X.w) X.A (compareOp .In u (.ref a)) Q E s := by
  rcases g with ⟨kvs, k, e, ey, l⟩ | ⟨kvs, k, b, e, ey, eb, l⟩
  · exact d_in hu I (.inl ⟨kvs, k, .inl e, ey, l⟩) ry h
  · subst ey
    cases (show u = Value.ref b from ry)
    obtain ⟨z, hd, xs, rel, dd⟩ := dt_rd I.hok (.inl e)
    have q := (rel.val k).isSome_eq
    rw [Option.isSome_map] at q
    refine wpAny_in_heap (room_k hu) (key_sq I eb) hd dd ?_
    rw [← q, ← l]
    exact h _ (I.tok _)
theorem q_notIn {pins : List (Addr × Obj)} {s : Shared} {σ : L2.St} {H : Hp} {a : Addr} {y : V} {u : Value} {o : Option V} {E : Value → Shared → Prop} {Q : Value → Shared → Prop} (hu : X.A.units + 1 < cLine) (I : Inv X pins σ H s) (g : DGetQ X.K H a y o) (ry : RelV y u) (h : ∀ s', Inv X pins σ H s' → Q (.bool (!o.isSome)) s') :
    wpAny (model X.prog X.w) X.A (compareOp .NotIn u (.ref a)) Q E s := by
  rcases g with ⟨kvs, k, e, ey, l⟩ | ⟨kvs, k, b, e, ey, eb, l⟩
  · exact d_notIn hu I (.inl ⟨kvs, k, .inl e, ey, l⟩) ry h
  · subst ey
    cases (show u = Value.ref b from ry)
    obtain ⟨z, hd, xs, rel, dd⟩ := dt_rd I.hok (.inl e)
    have q := (rel.val k).isSome_eq
    rw [Option.isSome_map] at q
    refine PyProof.Rows.wpAny_notIn_heap (room_k hu) (key_sq I eb) hd dd ?_
    rw [← q, ← l]
    exact h _ (I.tok _)
theorem q_item {pins : List (Addr × Obj)} {s : Shared} {σ : L2.St} {H : Hp} {a : Addr} {y v : V} {u : Value} {E : Value → Shared → Prop} {Q : Value → Shared → Prop} (hu : X.A.units + 1 < cLine) (I : Inv X pins σ H s) (g : DGetQ X.K H a y (some v)) (ry : RelV y u) (h : ∀ w' s', Inv X pins σ H s' → RelV v w' → Q w' s') :
    wpAny (model X.prog X.w) X.A (getItem (.ref a) u) Q E s := by
  rcases g with ⟨kvs, k, e, ey, l⟩ | ⟨kvs, k, b, e, ey, eb, l⟩
  · exact d_getItem hu I (.inl ⟨kvs, k, .inl e, ey, l⟩) ry h
  · subst ey
    cases (show u = Value.ref b from ry)
    obtain ⟨z, hd, xs, rel, dd⟩ := dt_rd I.hok (.inl e)
    obtain ⟨w', hw, rw'⟩ := RelO.some_of (v := v) (o := (atKey xs k).map (·.2)) (by rw [l]; exact rel.val k)
    obtain ⟨p, hp, hp2⟩ := Option.map_eq_some_iff.mp hw
    refine wpAny_getItem_heap (room_k hu) (key_sq I eb) dd hp ?_
    rw [hp2]
    exact h w' _ (I.tok _) rw'
/-- what is found, by data -/
def OpRp (K : Fg) (S : Sh) (H : Hp) : Option V → Option D → Prop
  | some v, some d => Rp K S H v d
  | none, none => True
  | _, _ => False
theorem OpRp.isSome {K : Fg} {S : Sh} {H : Hp} : ∀ {a : Option V} {b : Option D}, OpRp K S H a b → a.isSome = b.isSome
  | some _, some _, _ => rfl
  | none, none, _ => rfl
  | some _, none, h => False.elim h
  | none, some _, h => False.elim h
theorem look_rel {K : Fg} {S : Sh} {H : Hp} (k : Key) : ∀ {kvs : List (Key × V)} {kds : List (Key × D)}, RpD K S H kvs kds → OpRp K S H (valV kvs k) (lookK kds k)
  | [], [], _ => True.intro
  | [], _ :: _, h => by simp only [RpD] at h
  | _ :: _, [], h => by simp only [RpD] at h
  | (q, v) :: r, (e, d) :: s, h => by
    simp only [RpD] at h
    obtain ⟨⟨rfl, _⟩, h1, h2⟩ := h
    by_cases c : e = k
    · subst c
      simp only [lookK, valV, List.find?_cons, decide_true, Option.map_some]
      exact h1
    · have ih := look_rel k h2
      simp only [lookK, valV, List.find?_cons, decide_eq_false c] at ih ⊢
      exact ih
theorem look_relT {K : Fg} {S : Sh} {H : Hp} (k : List Key) : ∀ {kvs : List (List Key × V)} {kds : List (List Key × D)}, RpT K S H kvs kds → OpRp K S H (valV kvs k) (lookK kds k)
  | [], [], _ => True.intro
  | [], _ :: _, h => by simp only [RpT] at h
  | _ :: _, [], h => by simp only [RpT] at h
  | (q, v) :: r, (e, d) :: s, h => by
    simp only [RpT] at h
    obtain ⟨⟨rfl, _⟩, h1, h2⟩ := h
    by_cases c : e = k
    · subst c
      simp only [lookK, valV, List.find?_cons, decide_true, Option.map_some]
      exact h1
    · have ih := look_relT k h2
      simp only [lookK, valV, List.find?_cons, decide_eq_false c] at ih ⊢
      exact ih
theorem dGet_rel {K : Fg} {S : Sh} {H : Hp} {x y : V} {dx dy : D} {r : Option D} (rx : Rt K S H x dx) (ry : Rt K S H y dy) (e : dGet dx dy = some r) : ∃ a rv, x = .ref a ∧ DGetQ K H a y rv ∧ OpRp K S H rv r := by
  cases dx with
  | dk kds =>
    obtain ⟨a, kvs, rfl, ha, rr⟩ := rx.dk
    simp only [dGet] at e
    cases ek : toKey dy with
    | none => rw [ek] at e; cases e
    | some k =>
      rw [ek] at e
      cases e
      obtain ⟨e1, _, _⟩ := toKey_some ry ek
      exact ⟨a, _, rfl, .inl ⟨kvs, k, ha, e1, rfl⟩, look_rel k rr⟩
  | dt kds =>
    obtain ⟨a, kvs, rfl, ha, rr⟩ := rx.dt
    cases dy with
    | tup ds =>
      simp only [dGet] at e
      cases ek : toKeys ds with
      | none => rw [ek] at e; cases e
      | some k =>
        rw [ek] at e
        cases e
        obtain ⟨b, xs, rfl, hb, rb⟩ := ry.tup
        obtain ⟨e1, _, _⟩ := toKeys_some rb ek
        subst e1
        exact ⟨a, _, rfl, .inr ⟨kvs, k, b, ha, rfl, hb, rfl⟩, look_relT k rr⟩
    | _ => cases e
  | _ => cases e
def rInQ (K : Fg) (neg : Bool) : R2 := fun x y H Q => ∃ a rv, y = .ref a ∧ DGetQ K H a x rv ∧ Q (.bl (if neg then !rv.isSome else rv.isSome)) H
theorem op_inQ (hu : X.A.units + 1 < cLine) : OpR X (compareOp .In) (rInQ X.K false) := by
  intro pins s σ H x y v u Q I rx ry h
  obtain ⟨a, rv, rfl, g, q⟩ := h
  cases ry
  exact q_in hu I g rx fun s' I' => ⟨.bl _, H, I', rfl, q⟩
theorem op_notInQ (hu : X.A.units + 1 < cLine) : OpR X (compareOp .NotIn) (rInQ X.K true) := by
  intro pins s σ H x y v u Q I rx ry h
  obtain ⟨a, rv, rfl, g, q⟩ := h
  cases ry
  exact q_notIn hu I g rx fun s' I' => ⟨.bl _, H, I', rfl, q⟩
def rInSg (neg : Bool) : R2 := fun x y H Q => ∃ (c : Nat) (z : Str), x = .str ⟨#[c]⟩ ∧ y = .str z ∧ Q (.bl (if neg then !decide (c ∈ z.cps.toList) else decide (c ∈ z.cps.toList))) H
def rInA (K : Fg) (neg : Bool) : R2 := fun x y H Q => rInM K neg x y H Q ∨ rInQ K neg x y H Q ∨ rInSg neg x y H Q
theorem op_inA (hu : X.A.units + 64 < cLine) : OpR X (compareOp .In) (rInA X.K false) := OpR.or (op_inM hu) (OpR.or (op_inQ (by omega)) op_in_sign)
theorem op_notInA (hu : X.A.units + 64 < cLine) : OpR X (compareOp .NotIn) (rInA X.K true) := OpR.or (op_notInM hu) (OpR.or (op_notInQ (by omega)) op_notIn_sign)
theorem hk_in {K : Fg} {S : Sh} {H : Hp} {x y : V} {dx dy : D} {Q : VK} (neg : Bool) (sd : SD S H) (rx : Rt K S H x dx) (ry : Rt K S H y dy) (q : VOk K .sh S H ((inD dx dy).bind fun b => .ok (.bl (if neg then !b else b))) Q) : rInA K neg x y H Q := by
  have seq : ∀ ds : List D, VOk K .sh S H ((R.when (seqOk dx ds) (.ok (ds.any fun y => D.eq y dx))).bind fun b => .ok (.bl (if neg then !b else b))) Q → (Dp K H y (.list (D.pyA ds)) ∨ Dp K H y (.tuple (D.pyA ds))) → PyData.canLayAll0 (D.pyA ds) = true → rInA K neg x y H Q := fun ds q hy hl => by
    cases hs : seqOk dx ds with
    | false => rw [hs] at q; exact q.no
    | true =>
      rw [hs] at q
      obtain ⟨n1, n2, n3⟩ := seqOk_iff.mp hs
      obtain ⟨p1, c1⟩ := rx.dp n1
      refine .inl ⟨_, _, p1, hy, c1, hl, by rw [py_depth _ n1]; exact n3, ?_⟩
      rw [py_any n1 n2]
      exact VOk.bl sd q
  have ndOf : ∀ ds : List D, VOk K .sh S H ((R.when (seqOk dx ds) (.ok (ds.any fun y => D.eq y dx))).bind fun b => .ok (.bl (if neg then !b else b))) Q → D.nd.ndA ds = true := fun ds q => by
    cases hs : seqOk dx ds with
    | false => rw [hs] at q; exact q.no
    | true => exact (seqOk_iff.mp hs).2.1
  have dic : ∀ dy', dGet dy dx = dy' → VOk K .sh S H ((match dy' with
      | some o => R.ok o.isSome
      | none => .bad).bind fun b => .ok (.bl (if neg then !b else b))) Q → rInA K neg x y H Q := fun dy' e q => by
    cases dy' with
    | none => exact q.no
    | some r =>
      obtain ⟨a, rv, e1, g, hr⟩ := dGet_rel ry rx e
      refine .inr (.inl ⟨a, rv, e1, g, ?_⟩)
      rw [hr.isSome]
      exact VOk.bl sd q
  cases dy with
  | lst ds =>
    have n := ndOf ds q
    obtain ⟨p, c⟩ := ry.dp (by simp only [D.nd]; exact n)
    simp only [D.py, PyData.canLay0] at p c
    exact seq ds q (.inl p) c
  | fl ds =>
    have n := ndOf ds q
    obtain ⟨p, c⟩ := ry.dp (by simp only [D.nd]; exact n)
    simp only [D.py, PyData.canLay0] at p c
    exact seq ds q (.inl p) c
  | tup ds =>
    have n := ndOf ds q
    obtain ⟨p, c⟩ := ry.dp (by simp only [D.nd]; exact n)
    simp only [D.py, PyData.canLay0] at p c
    exact seq ds q (.inr p) c
  | str z =>
    cases dx with
    | str w =>
      have q' : VOk K .sh S H ((R.when (w.length == 1) (R.ok (z.cps.toList.contains (w.cps.getD 0 0)))).bind fun b => .ok (.bl (if neg then !b else b))) Q := q
      cases hw : (w.length == 1) with
      | false => rw [hw] at q'; exact q'.no
      | true =>
        rw [hw] at q'
        have hl : w.cps.size = 1 := by
          have : w.length = 1 := by simpa using hw
          exact this
        obtain ⟨c, hc⟩ : ∃ c, w = ⟨#[c]⟩ := by
          obtain ⟨cps⟩ := w
          obtain ⟨l⟩ := cps
          have hl' : l.length = 1 := by simpa using hl
          match l, hl' with
          | [c], _ => exact ⟨c, rfl⟩
        subst hc
        refine .inr (.inr ⟨c, z, rx.str.1, ry.str.1, ?_⟩)
        have e : decide (c ∈ z.cps.toList) = z.cps.toList.contains ((⟨#[c]⟩ : Str).cps.getD 0 0) := by
          show decide (c ∈ z.cps.toList) = z.cps.toList.contains c
          rw [List.contains_eq_mem]
        rw [e]
        exact VOk.bl sd q'
    | _ => exact q.no
  | dk kds => exact dic _ rfl q
  | dt kds => exact dic _ rfl q
  | _ => exact q.no
end
end PP
/-! Less, is, subscripts, slices, kinds, truth. -/
namespace PP
open PySem PySem.Spec L2
open PySem.PyData (strOk)

section
variable {X : Cx}
/-! ### < -/
theorem rcs {A : Around} {s : Shared} (x y : Str) (t u : Tok) : Ob.RcOp .Lt A s (.str x t) (.str y u) (decide (x.cps.toList < y.cps.toList)) := fun _ _ _ _ h => PyProof.Rows.lt_str h
theorem lex_eq (e r : Nat → Bool) (z : Bool) : ∀ (ds es : List D) (b : Bool) (i : Nat), D.ltA ds es = some b → z = decide (ds.length < es.length) → (∀ (j : Nat) (d f : D), ds[j]? = some d → es[j]? = some f → e (i + j) = D.eq d f) →
    (∀ (j : Nat) (d f : D), ds[j]? = some d → es[j]? = some f → D.eq d f = false → D.lt d f = some (r (i + j))) → Ob.lexAt e r z i (min ds.length es.length) = b
  | [], [], b, i, h, hz, _, _ => by
    simp only [D.ltA, Option.some.injEq] at h
    subst h; subst hz; rfl
  | [], _ :: _, b, i, h, hz, _, _ => by
    simp only [D.ltA, Option.some.injEq] at h
    subst h; subst hz; simp [Ob.lexAt]
  | _ :: _, [], b, i, h, hz, _, _ => by
    simp only [D.ltA, Option.some.injEq] at h
    subst h; subst hz; simp [Ob.lexAt]
  | d :: ds, f :: es, b, i, h, hz, he, hr => by
    have e0 : e i = D.eq d f := by simpa using he 0 d f rfl rfl
    have hm : min (d :: ds).length (f :: es).length = min ds.length es.length + 1 := by simp only [List.length_cons]; omega
    rw [hm, Ob.lexAt_succ, e0]
    simp only [D.ltA] at h
    split at h
    · have rest : ∀ b', D.ltA ds es = some b' → Ob.lexAt e r z (i + 1) (min ds.length es.length) = b' := fun b' hb => by
        refine lex_eq e r z ds es b' (i + 1) hb (by rw [hz]; simp only [List.length_cons]; congr 1; simp) (fun j d' f' a c => ?_) fun j d' f' a c n => ?_
        · have := he (j + 1) d' f' (by simpa using a) (by simpa using c)
          rw [← this]; congr 1; omega
        · have := hr (j + 1) d' f' (by simpa using a) (by simpa using c) n
          rw [this]; congr 2; omega
      by_cases q : D.eq d f = true
      · rw [if_pos q] at h
        rw [if_pos q]
        exact rest b h
      · rw [if_neg q] at h
        rw [if_neg q]
        have q' : D.eq d f = false := by simpa using q
        have h0 := hr 0 d f rfl rfl q'
        rw [Nat.add_zero] at h0
        rw [h0] at h
        cases hl : D.ltA ds es with
        | none => rw [hl] at h; cases h
        | some c => rw [hl] at h; exact Option.some.inj h
    · cases h
theorem ltA_all : ∀ (ds es : List D) (b : Bool), D.ltA ds es = some b → ∀ (j : Nat) (d f : D), ds[j]? = some d → es[j]? = some f → cmpOk d f = true ∧ (D.eq d f = false → ∃ c, D.lt d f = some c)
  | [], _, _, _, _, _, _, h, _ => by simp at h
  | _ :: _, [], _, _, _, _, _, _, h => by simp at h
  | d :: ds, f :: es, b, h, j, d', f', h1, h2 => by
    simp only [D.ltA] at h
    split at h
    · rename_i hc
      by_cases q : D.eq d f = true
      · rw [if_pos q] at h
        cases j with
        | zero =>
          simp at h1 h2; subst h1; subst h2
          exact ⟨hc, fun z => by rw [q] at z; cases z⟩
        | succ j => exact ltA_all ds es b h j d' f' (by simpa using h1) (by simpa using h2)
      · rw [if_neg q] at h
        cases hl : D.lt d f with
        | none => rw [hl] at h; cases h
        | some c =>
          cases hl2 : D.ltA ds es with
          | none => rw [hl, hl2] at h; cases h
          | some c2 =>
            cases j with
            | zero =>
              simp at h1 h2; subst h1; subst h2
              exact ⟨hc, fun _ => ⟨c, hl⟩⟩
            | succ j => exact ltA_all ds es c2 hl2 j d' f' (by simpa using h1) (by simpa using h2)
    · cases h
theorem dep_mem : ∀ {ds : List D} {j : Nat} {d : D}, ds[j]? = some d → d.dep ≤ D.dep.depA ds
  | [], _, _, h => by simp at h
  | e :: ds, 0, d, h => by
    simp at h; subst h
    simp only [D.dep.depA]; omega
  | e :: ds, j + 1, d, h => by
    have := dep_mem (ds := ds) (j := j) (d := d) (by simpa using h)
    simp only [D.dep.depA]; omega
/-- two values compare as their data -/
theorem lt_rc {pins : List (Addr × Obj)} {s : Shared} {σ : L2.St} {H : Hp} {S : Sh} (I : Inv X pins σ H s) : ∀ (n : Nat) (d e : D) (A : Around) (x y : V) (u v : Value) (b : Bool), d.dep ≤ n → A.units + n + 54 < cLine → Rp X.K S H x d → Rp X.K S H y e → RelV x u → RelV y v → D.lt d e = some b → Ob.RcOp .Lt A s u v b := by
  intro n
  induction n with
  | zero =>
    intro d e A x y u v b hd hA rx ry ru rv hl
    cases d with
    | int i =>
      cases e with
      | int j =>
        simp only [D.lt, Option.some.injEq] at hl
        subst hl
        simp only [Rp] at rx ry
        subst rx; subst ry
        obtain ⟨t, rfl⟩ := ru
        obtain ⟨t', rfl⟩ := rv
        exact Ob.RcOp.lt_int i j t t'
      | _ => simp only [D.lt] at hl; cases hl
    | str i =>
      cases e with
      | str j =>
        simp only [D.lt, Option.some.injEq] at hl
        subst hl
        simp only [Rp] at rx ry
        obtain ⟨rfl, _⟩ := rx
        obtain ⟨rfl, _⟩ := ry
        obtain ⟨t, rfl⟩ := ru
        obtain ⟨t', rfl⟩ := rv
        exact rcs i j t t'
      | _ => simp only [D.lt] at hl; cases hl
    | tup ds => simp only [D.dep] at hd; omega
    | _ => simp only [D.lt] at hl; cases hl
  | succ n ih =>
    intro d e A x y u v b hd hA rx ry ru rv hl
    cases d with
    | int i =>
      cases e with
      | int j =>
        simp only [D.lt, Option.some.injEq] at hl
        subst hl
        simp only [Rp] at rx ry
        subst rx; subst ry
        obtain ⟨t, rfl⟩ := ru
        obtain ⟨t', rfl⟩ := rv
        exact Ob.RcOp.lt_int i j t t'
      | _ => simp only [D.lt] at hl; cases hl
    | str i =>
      cases e with
      | str j =>
        simp only [D.lt, Option.some.injEq] at hl
        subst hl
        simp only [Rp] at rx ry
        obtain ⟨rfl, _⟩ := rx
        obtain ⟨rfl, _⟩ := ry
        obtain ⟨t, rfl⟩ := ru
        obtain ⟨t', rfl⟩ := rv
        exact rcs i j t t'
      | _ => simp only [D.lt] at hl; cases hl
    | tup ds =>
      cases e with
      | tup es =>
        simp only [D.lt] at hl
        simp only [Rp] at rx ry
        obtain ⟨a, xs, rfl, ha, r1⟩ := rx
        obtain ⟨c, ys, rfl, hc, r2⟩ := ry
        obtain rfl : u = Value.ref a := ru
        obtain rfl : v = Value.ref c := rv
        obtain ⟨its, v1, p1, _⟩ := I.tuple (ha)
        obtain ⟨its2, v2, p2, _⟩ := I.tuple (hc)
        have n1 : its.length = ds.length := by rw [← v1.length, r1.len]
        have n2 : its2.length = es.length := by rw [← v2.length, r2.len]
        have all := ltA_all ds es b hl
        have at_ : ∀ j (h1 : j < its.toArray.size) (h2 : j < its2.toArray.size), ∃ d f x y, ds[j]? = some d ∧ es[j]? = some f ∧ Rp X.K S H x d ∧ Rp X.K S H y f ∧ RelV x its.toArray[j] ∧ RelV y its2.toArray[j] := fun j h1 h2 => by
          have h1' : j < ds.length := by rw [← n1]; simpa using h1
          have h2' : j < es.length := by rw [← n2]; simpa using h2
          obtain ⟨x, hx, rx⟩ := r1.get (List.getElem?_eq_getElem h1')
          obtain ⟨y, hy, ry⟩ := r2.get (List.getElem?_eq_getElem h2')
          obtain ⟨u, hu, ru⟩ := v1.get hx
          obtain ⟨v, hv, rv⟩ := v2.get hy
          refine ⟨_, _, x, y, List.getElem?_eq_getElem h1', List.getElem?_eq_getElem h2', rx, ry, ?_, ?_⟩
          · obtain ⟨_, e⟩ := List.getElem?_eq_some_iff.mp hu
            simpa [e] using ru
          · obtain ⟨_, e⟩ := List.getElem?_eq_some_iff.mp hv
            simpa [e] using rv
        have res := Ob.RcOp.tuples_lt (A := A) (s := s) (e := fun j => D.eq (ds.getD j .non) (es.getD j .non)) (r := fun j => (D.lt (ds.getD j .non) (es.getD j .non)).getD false) (l := a) (b := c) p1 p2 (by omega)
          (fun j h1 h2 => by
            obtain ⟨d, f, x, y, e1, e2, q1, q2, w1, w2⟩ := at_ j h1 h2
            have ed : ds.getD j .non = d := by rw [List.getD_eq_getElem?_getD, e1]; rfl
            have ef : es.getD j .non = f := by rw [List.getD_eq_getElem?_getD, e2]; rfl
            rw [ed, ef]
            obtain ⟨hk, _⟩ := all j d f e1 e2
            obtain ⟨k1, k2, k3⟩ := cmpOk_iff.mp hk
            obtain ⟨dp1, c1⟩ := Rp.dp d x q1 k1
            obtain ⟨dp2, c2⟩ := Rp.dp f y q2 k2
            obtain ⟨as, rd1⟩ := Dp.reads I d.py x _ dp1 w1
            obtain ⟨bs, rd2⟩ := Dp.reads I f.py y _ dp2 w2
            rw [py_eq d f k1 k2]
            refine SeqAt.eqAt_reads d.py f.py A.in1 s _ _ as bs rd1 rd2 c1 c2 ?_
            have hmin : min d.py.depth f.py.depth ≤ 50 := by
              rw [py_depth _ k1, py_depth _ k2]
              rcases k3 with k3 | k3
              · exact Nat.le_trans (Nat.min_le_left _ _) k3
              · exact Nat.le_trans (Nat.min_le_right _ _) k3
            show A.units + 1 + _ < cLine
            omega)
          (fun j h1 h2 he => by
            obtain ⟨d, f, x, y, e1, e2, q1, q2, w1, w2⟩ := at_ j h1 h2
            have ed : ds.getD j .non = d := by rw [List.getD_eq_getElem?_getD, e1]; rfl
            have ef : es.getD j .non = f := by rw [List.getD_eq_getElem?_getD, e2]; rfl
            try dsimp only at he ⊢
            rw [ed, ef] at he ⊢
            obtain ⟨_, hk⟩ := all j d f e1 e2
            obtain ⟨c, hc⟩ := hk he
            rw [hc]
            refine ih d f A.in1 x y _ _ c ?_ ?_ q1 q2 w1 w2 hc
            · have := dep_mem e1
              simp only [D.dep] at hd
              omega
            · show A.units + 1 + n + 54 < cLine
              omega)
        have e3 : Ob.lexAt (fun j => D.eq (ds.getD j .non) (es.getD j .non)) (fun j => (D.lt (ds.getD j .non) (es.getD j .non)).getD false) (decide (its.toArray.size < its2.toArray.size)) 0 (min its.toArray.size its2.toArray.size) = b := by
          have s1 : its.toArray.size = ds.length := by simpa using n1
          have s2 : its2.toArray.size = es.length := by simpa using n2
          rw [s1, s2]
          refine lex_eq _ _ _ ds es b 0 hl rfl (fun j d f e1 e2 => ?_) fun j d f e1 e2 hn => ?_
          · simp only [Nat.zero_add]
            rw [List.getD_eq_getElem?_getD, List.getD_eq_getElem?_getD, e1, e2]; rfl
          · simp only [Nat.zero_add]
            rw [List.getD_eq_getElem?_getD, List.getD_eq_getElem?_getD, e1, e2]
            obtain ⟨c, hc⟩ := (all j d f e1 e2).2 hn
            simp only [Option.getD_some, hc]
        rw [e3] at res
        exact res
      | _ => simp only [D.lt] at hl; cases hl
    | _ => simp only [D.lt] at hl; cases hl
def rLtD (K : Fg) : R2 := fun x y H Q => ∃ S d e b, Rp K S H x d ∧ Rp K S H y e ∧ d.dep ≤ 50 ∧ D.lt d e = some b ∧ Q (.bl b) H
theorem op_ltD (hu : X.A.units + 104 < cLine) : OpR X (compareOp .Lt) (rLtD X.K) := by
  intro pins s σ H x y v u Q I rx ry h
  obtain ⟨S, d, e, b, hx, hy, hd, hl, q⟩ := h
  have z := lt_rc I 50 d e X.A x y v u b hd (by omega) hx hy rx ry hl
  have z2 : wpAny (model X.prog X.w) X.A (compareOp .Lt v u) (EP X pins σ Q) X.xe s := z X.prog X.w X.xe (EP X pins σ Q) ⟨.bl _, H, I, rfl, q⟩
  exact z2
theorem Rt.rp {K : Fg} {S : Sh} {H : Hp} {v : V} {d : D} (h : Rt K S H v d) (n : isMut d = false) : Rp K S H v d := by
  rcases h with h | ⟨a, _, h⟩
  · exact h
  · rw [h.isMut] at n; cases n
theorem lt_mut {d e : D} {b : Bool} (h : D.lt d e = some b) : isMut d = false ∧ isMut e = false := by
  cases d <;> cases e <;> first | (simp only [D.lt] at h; cases h; done) | exact ⟨rfl, rfl⟩
theorem hk_lt {K : Fg} {S : Sh} {H : Hp} {x y : V} {dx dy : D} {Q : VK} (sd : SD S H) (rx : Rt K S H x dx) (ry : Rt K S H y dy) (q : VOk K .sh S H (cmD .lt dx dy) Q) : rLtD K x y H Q := by
  have q0 : VOk K .sh S H (.when (decide (dx.dep ≤ 50)) (ofO (D.lt dx dy))) Q := q
  obtain ⟨h, q⟩ := VOk.when q0
  cases hl : D.lt dx dy with
  | none => rw [hl] at q; exact q.no
  | some b =>
    rw [hl] at q
    obtain ⟨m1, m2⟩ := lt_mut hl
    exact ⟨S, dx, dy, b, rx.rp m1, ry.rp m2, of_decide_eq_true h, hl, VOk.bl sd q⟩
def cmOp : Cm → CmpOp
  | .eq => .Eq | .ne => .NotEq | .lt => .Lt | .le => .LtE | .gt => .Gt | .ge => .GtE | .isn => .Is | .notn => .IsNot | .isIn => .In | .notIn => .NotIn
def rIsA (neg : Bool) : R2 := fun x y H Q => (y = .non ∧ Q (.bl (if neg then !decide (x = .non) else decide (x = .non))) H) ∨ ∃ a b : Bool, x = .bl a ∧ y = .bl b ∧ Q (.bl (if neg then !decide (a = b) else decide (a = b))) H
theorem op_isA : OpR X (compareOp .Is) (rIsA false) := OpR.or op_isN op_isBl
theorem op_isNotA : OpR X (compareOp .IsNot) (rIsA true) := OpR.or op_notN op_notBl
theorem Rt.notNon {K : Fg} {S : Sh} {H : Hp} {v : V} {d : D} (h : Rt K S H v d) : decide (v = .non) = isNon d := by
  cases d with
  | non => have e := h.non; subst e; rfl
  | bl b => have e := h.bl; subst e; rfl
  | int b => have e := h.int; subst e; rfl
  | str b => have e := h.str.1; subst e; rfl
  | lst b => obtain ⟨a, _, e, _⟩ := h.lst; subst e; rfl
  | fl b => obtain ⟨a, _, e, _⟩ := h.fl; subst e; rfl
  | tup b => obtain ⟨a, _, e, _⟩ := h.tup; subst e; rfl
  | dk b => obtain ⟨a, _, e, _⟩ := h.dk; subst e; rfl
  | dt b => obtain ⟨a, _, e, _⟩ := h.dt; subst e; rfl
theorem beq_dec (a b : Bool) : (a == b) = decide (a = b) := by cases a <;> cases b <;> rfl
theorem hk_is {K : Fg} {S : Sh} {H : Hp} {x y : V} {dx dy : D} {Q : VK} (sd : SD S H) (rx : Rt K S H x dx) (ry : Rt K S H y dy) (q : VOk K .sh S H (cmD .isn dx dy) Q) : rIsA false x y H Q := by
  cases dy with
  | non =>
    refine .inl ⟨ry.non, ?_⟩
    have e := rx.notNon
    show Q (.bl (decide (x = .non))) H
    rw [e]
    cases dx <;> exact VOk.bl sd q
  | bl b =>
    cases dx with
    | bl a =>
      refine .inr ⟨a, b, rx.bl, ry.bl, ?_⟩
      show Q (.bl (decide (a = b))) H
      rw [← beq_dec]
      exact VOk.bl sd q
    | _ => exact q.no
  | _ => cases dx <;> exact q.no
theorem hk_isNot {K : Fg} {S : Sh} {H : Hp} {x y : V} {dx dy : D} {Q : VK} (sd : SD S H) (rx : Rt K S H x dx) (ry : Rt K S H y dy) (q : VOk K .sh S H (cmD .notn dx dy) Q) : rIsA true x y H Q := by
  cases dy with
  | non =>
    refine .inl ⟨ry.non, ?_⟩
    have e := rx.notNon
    show Q (.bl (!decide (x = .non))) H
    rw [e]
    cases dx <;> exact VOk.bl sd q
  | bl b =>
    cases dx with
    | bl a =>
      refine .inr ⟨a, b, rx.bl, ry.bl, ?_⟩
      show Q (.bl (!decide (a = b))) H
      rw [← beq_dec]
      exact VOk.bl sd q
    | _ => exact q.no
  | _ => cases dx <;> exact q.no
theorem hk_le {K : Fg} {S : Sh} {H : Hp} {x y : V} {dx dy : D} {Q : VK} (sd : SD S H) (rx : Rt K S H x dx) (ry : Rt K S H y dy) (q : VOk K .sh S H (cmD .le dx dy) Q) : rI0 (fun i j => .bl (decide (i ≤ j))) x y H Q := by
  cases dx with
  | int i =>
    cases dy with
    | int j => exact ⟨i, j, rx.int, ry.int, VOk.bl sd q⟩
    | _ => exact q.no
  | _ => exact q.no
theorem hk_ge {K : Fg} {S : Sh} {H : Hp} {x y : V} {dx dy : D} {Q : VK} (sd : SD S H) (rx : Rt K S H x dx) (ry : Rt K S H y dy) (q : VOk K .sh S H (cmD .ge dx dy) Q) : rI0 (fun i j => .bl (decide (j ≤ i))) x y H Q := by
  cases dx with
  | int i =>
    cases dy with
    | int j => exact ⟨i, j, rx.int, ry.int, VOk.bl sd q⟩
    | _ => exact q.no
  | _ => exact q.no
theorem hk_gt {K : Fg} {S : Sh} {H : Hp} {x y : V} {dx dy : D} {Q : VK} (sd : SD S H) (rx : Rt K S H x dx) (ry : Rt K S H y dy) (q : VOk K .sh S H (cmD .gt dx dy) Q) : rI0 (fun i j => .bl (decide (j < i))) x y H Q := by
  cases dx with
  | int i =>
    cases dy with
    | int j => exact ⟨i, j, rx.int, ry.int, VOk.bl sd q⟩
    | _ => exact q.no
  | _ => exact q.no
/-- a comparison by its rule -/
def rCm (K : Fg) : Cm → R2
  | .eq => rEqM K false
  | .ne => rEqM K true
  | .lt => rLtD K
  | .le => rI0 fun i j => .bl (decide (i ≤ j))
  | .gt => rI0 fun i j => .bl (decide (j < i))
  | .ge => rI0 fun i j => .bl (decide (j ≤ i))
  | .isn => rIsA false
  | .notn => rIsA true
  | .isIn => rInA K false
  | .notIn => rInA K true
theorem op_cm (hu : X.A.units + 104 < cLine) : ∀ c : Cm, OpR X (compareOp (cmOp c)) (rCm X.K c)
  | .eq => op_eqM (by omega)
  | .ne => op_neM (by omega)
  | .lt => op_ltD hu
  | .le => op_le
  | .gt => op_gt
  | .ge => op_ge
  | .isn => op_isA
  | .notn => op_isNotA
  | .isIn => op_inA (by omega)
  | .notIn => op_notInA (by omega)
theorem hk_cm {K : Fg} {S : Sh} {H : Hp} {x y : V} {dx dy : D} {Q : VK} (c : Cm) (sd : SD S H) (rx : Rt K S H x dx) (ry : Rt K S H y dy) (q : VOk K .sh S H (cmD c dx dy) Q) : rCm K c x y H Q := by
  cases c with
  | eq => exact hk_eq sd rx ry q
  | ne => exact hk_ne sd rx ry q
  | lt => exact hk_lt sd rx ry q
  | le => exact hk_le sd rx ry q
  | gt => exact hk_gt sd rx ry q
  | ge => exact hk_ge sd rx ry q
  | isn => exact hk_is sd rx ry q
  | notn => exact hk_isNot sd rx ry q
  | isIn => exact hk_in false sd rx ry q
  | notIn => exact hk_in true sd rx ry q
theorem inD_ne (dx dy : D) (c : Nat) (p : D) : inD dx dy ≠ .err c p := by
  intro h
  cases dy <;> simp only [inD, R.when] at h <;> (repeat' (split at h)) <;> first | (cases h; done) | skip
theorem when_ne {α : Type} {b : Bool} {r : R α} {c : Nat} {p : D} (h : r ≠ .err c p) : R.when b r ≠ .err c p := by
  unfold R.when
  split
  · exact h
  · exact fun z => by cases z
theorem cm_ne (k : Cm) (dx dy : D) (c : Nat) (p : D) : cmD k dx dy ≠ .err c p := by
  cases k with
  | isIn =>
    show (inD dx dy).bind _ ≠ _
    cases h : inD dx dy with
    | ok b => exact fun z => by cases z
    | bad => exact fun z => by cases z
    | err c' p' => exact absurd h (inD_ne _ _ _ _)
  | notIn =>
    show (inD dx dy).bind _ ≠ _
    cases h : inD dx dy with
    | ok b => exact fun z => by cases z
    | bad => exact fun z => by cases z
    | err c' p' => exact absurd h (inD_ne _ _ _ _)
  | eq => exact when_ne fun z => by cases z
  | ne => exact when_ne fun z => by cases z
  | lt =>
    refine when_ne ?_
    cases D.lt dx dy <;> exact fun z => by cases z
  | _ => cases dx <;> cases dy <;> exact fun z => by cases z
theorem se_cmp {W : WX} {cl : Nat → Value} {o : List Bool} {ma mb : Md} {a b : Expr} {fa fb : Env → R D} {pos : Pos} (hu : X.A.units + 104 < cLine) (c : Cm) (ha : SE X W cl o ma a fa) (hb : SE X W cl o mb b fb) (hm : behindInMarks (cmOp c) b = false) :
    SE X W cl o .sh (.Compare a [cmOp c] [b] pos) (fun ρ => (fa ρ).bind fun x => (fb ρ).bind fun y => cmD c x y) :=
  SE.op2 ha hb (fun p q => pe_cmpR (op_cm hu c) p q hm) (fun _ _ _ _ _ _ _ _ sd rx ry q => hk_cm c sd rx ry q) (cm_ne _)
end
end PP
/-! Subscripts, slices, kinds, truth, names, displays. -/
namespace PP
open PySem PySem.Spec L2
open PySem.PyData (strOk)

section
variable {X : Cx} {W : WX} {cl : Nat → Value} {o : List Bool}
/-! ### subscripts -/
theorem ix_dict (hu : X.A.units + 1 < cLine) : IxR X (fun x y H Q => ∃ a v, x = .ref a ∧ DGetQ X.K H a y (some v) ∧ Q v H) := by
  intro value slice pins s σ H x y v u Q I rx ry h hs
  obtain ⟨a, z, rfl, g, q⟩ := h
  cases rx
  have ty : tyV X.K "dict" (.ref a) H := by
    rcases g with ⟨kvs, k, e, _⟩ | ⟨kvs, k, b, e, _⟩
    · exact .inr (.inr (.inl ⟨rfl, .inl ⟨kvs, e⟩⟩))
    · exact .inr (.inr (.inl ⟨rfl, .inr ⟨kvs, e⟩⟩))
  exact PyProof.Rows.tail_any (tyV_is I (show RelV (.ref a) (Value.ref a) from rfl) ty).1 PySem.F.slot_dict_getitem.lookup (q_item hu I g ry fun w' s' I' rw' => ⟨z, H, I', rw', q⟩) hs
def rIxA (K : Fg) : R2 := fun x y H Q => rIxL K x y H Q ∨ rIxT K x y H Q ∨ rIxS x y H Q ∨ ∃ a v, x = .ref a ∧ DGetQ K H a y (some v) ∧ Q v H
theorem ix_any (hu : X.A.units + 1 < cLine) : IxR X (rIxA X.K) := IxR.or ix_list (IxR.or ix_tup (IxR.or ix_str (ix_dict hu)))
theorem atI_at {α : Type} {xs : List α} {i : Int} {v : α} (h : atI xs i = some v) : ∃ j, ixN xs.length i = some j ∧ xs[j]? = some v := by
  unfold atI at h
  cases e : ixN xs.length i with
  | none => rw [e] at h; cases h
  | some j => rw [e] at h; exact ⟨j, rfl, h⟩
theorem atI_rel {K : Fg} {S : Sh} {H : Hp} {xs : List V} {ds : List D} {i : Int} {d : D} (r : RpA K S H xs ds) (h : atI ds i = some d) : ∃ v, atI xs i = some v ∧ Rp K S H v d := by
  obtain ⟨j, h1, h2⟩ := atI_at h
  obtain ⟨v, hv, rv⟩ := r.get h2
  refine ⟨v, ?_, rv⟩
  unfold atI
  rw [r.len, h1]
  exact hv
theorem VOk.sh {K : Fg} {S : Sh} {H : Hp} {d : D} {Q : VK} (sd : SD S H) (h : VOk K .sh S H (.ok d) Q) {v : V} (r : Rp K S H v d) : Q v H := h v S H (Gr.refl sd) r
theorem hk_ix {K : Fg} {S : Sh} {H : Hp} {x y : V} {dx dy : D} {Q : VK} (sd : SD S H) (rx : Rt K S H x dx) (ry : Rt K S H y dy) (q : VOk K .sh S H (ixD dx dy) Q) : rIxA K x y H Q := by
  have dic : ∀ dy', dGet dx dy = dy' → VOk K .sh S H (match dy' with
      | some (some v) => R.ok v
      | _ => .bad) Q → rIxA K x y H Q := fun dy' e q => by
    cases dy' with
    | none => exact q.no
    | some r =>
      cases r with
      | none => exact q.no
      | some d =>
        obtain ⟨a, rv, e1, g, hr⟩ := dGet_rel rx ry e
        cases rv with
        | none => exact False.elim hr
        | some v => exact .inr (.inr (.inr ⟨a, v, e1, g, VOk.sh sd q hr⟩))
  cases dx with
  | lst ds =>
    cases dy with
    | int i =>
      have q' : VOk K .sh S H (ofOp (atI ds i)) Q := q
      cases e : atI ds i with
      | none => rw [e] at q'; exact q'.no
      | some d =>
        rw [e] at q'
        obtain ⟨a, xs, rfl, ha, r⟩ := rx.lst
        obtain ⟨v, hv, rv⟩ := atI_rel r e
        exact .inl ⟨a, xs, i, v, rfl, ry.int, .inl (.inl ha), hv, VOk.sh sd q' rv⟩
    | _ => exact q.no
  | fl ds =>
    cases dy with
    | int i =>
      have q' : VOk K .sh S H (ofOp (atI ds i)) Q := q
      cases e : atI ds i with
      | none => rw [e] at q'; exact q'.no
      | some d =>
        rw [e] at q'
        obtain ⟨a, xs, rfl, ha, r⟩ := rx.fl
        obtain ⟨v, hv, rv⟩ := atI_rel r e
        exact .inl ⟨a, xs, i, v, rfl, ry.int, ha.sq, hv, VOk.sh sd q' rv⟩
    | _ => exact q.no
  | tup ds =>
    cases dy with
    | int i =>
      have q' : VOk K .sh S H (ofOp (atI ds i)) Q := q
      cases e : atI ds i with
      | none => rw [e] at q'; exact q'.no
      | some d =>
        rw [e] at q'
        obtain ⟨a, xs, rfl, ha, r⟩ := rx.tup
        obtain ⟨v, hv, rv⟩ := atI_rel r e
        exact .inr (.inl ⟨a, xs, i, v, rfl, ry.int, ha, hv, VOk.sh sd q' rv⟩)
    | _ => exact q.no
  | str z =>
    cases dy with
    | int i =>
      have q' : VOk K .sh S H (match atI z.cps.toList i with
        | some c => .ok (.str ⟨#[c]⟩)
        | none => .bad) Q := q
      cases e : atI z.cps.toList i with
      | none => rw [e] at q'; exact q'.no
      | some c =>
        rw [e] at q'
        have hx := rx.str.2
        obtain ⟨j, _, h2⟩ := atI_at e
        have hl : 1 ≤ z.length := by
          have := (List.getElem?_eq_some_iff.mp h2).1
          rw [len_cps] at this
          omega
        refine .inr (.inr (.inl ⟨z, i, c, rx.str.1, ry.int, sOk_len hx, e, q'.str sd ?_⟩))
        have := sOk_sub (l := [c]) hx (fun c' hc' => by
          rw [List.mem_singleton] at hc'
          rw [hc']
          exact List.mem_of_getElem? h2) hl
        exact this
    | _ => exact q.no
  | dk kds => exact dic _ rfl (by cases dy <;> exact q)
  | dt kds => exact dic _ rfl (by cases dy <;> exact q)
  | _ => cases dy <;> exact q.no
theorem ix_ne (dx dy : D) (c : Nat) (p : D) : ixD dx dy ≠ .err c p := by
  intro h
  cases dx <;> cases dy <;> simp only [ixD, ofOp] at h <;> (repeat' (split at h)) <;> first | (cases h; done) | skip
theorem se_ix {ma mb : Md} {a b : Expr} {fa fb : Env → R D} {pos : Pos} (hu : X.A.units + 1 < cLine) (ha : SE X W cl o ma a fa) (hb : SE X W cl o mb b fb) (hs : PlainIx b) :
    SE X W cl o .sh (.Subscript a b pos) (fun ρ => (fa ρ).bind fun x => (fb ρ).bind fun y => ixD x y) :=
  SE.op2 ha hb (fun p q => pe_ix (ix_any hu) p q hs) (fun _ _ _ _ _ _ _ _ sd rx ry q => hk_ix sd rx ry q) ix_ne

/-! ### slices -/
/-- a part of a slice -/
structure SO (X : Cx) (W : WX) (cl : Nat → Value) (o : List Bool) (e : Option Expr) (f : Env → R (Option Int)) : Prop where
  ex : ∃ t, PO X e t ∧ ∀ S H σ ρ Q, HSz X.K H → SD S H → StOk X.K o S H ρ σ → Pst X.K W cl σ S H (fun _ _ (a b : Option Int) => a = b) (f ρ) Q → t σ H Q
theorem so_none : SO X W cl o none (fun _ => .ok none) := ⟨_, po_none, fun S H σ ρ Q z sd st p => p none S H (Gr.refl sd) z rfl⟩
theorem so_some {m : Md} {e : Expr} {f : Env → R D} (h : SE X W cl o m e f) : SO X W cl o (some e) (fun ρ => (f ρ).bind fun d => (intD d).bind fun i => .ok (some i)) := by
  obtain ⟨t, pe, q⟩ := h.ex
  refine ⟨_, po_some pe, fun S H σ ρ Q z sd st p => ?_⟩
  refine SE.then (X := X) (W := W) (cl := cl) (o := o) q z sd st p fun d v S1 H1 g1 z1 sd1 st1 r1 p1 => ?_
  cases d with
  | int i =>
    refine ⟨i, (Res.rt r1).int, ?_⟩
    exact p1 (some i) S1 H1 g1 z1 rfl
  | _ => exact False.elim p1
def rSlAny (K : Fg) : V → Option Int → Option Int → Hp → VK → Prop := fun x lo hi H Q => rSlL K x lo hi H Q ∨ rSlA K x lo hi H Q ∨ rSlS x lo hi H Q
theorem sl_any : SlR X (rSlAny X.K) := SlR.or sl_list (SlR.or sl_tupA sl_str)
theorem RpA.cut {K : Fg} {S : Sh} {H : Hp} {xs : List V} {ds : List D} (r : RpA K S H xs ds) (lo hi : Option Int) : RpA K S H (cutV xs lo hi) (cutD ds lo hi) := by
  unfold cutV cutD
  rw [r.len]
  exact (r.drop _).take _
theorem cut_whole {α : Type} (xs : List α) (lo hi : Option Int) (h : HT.sIx xs.length 0 lo = 0 ∧ HT.sIx xs.length xs.length hi = xs.length) : cutD xs lo hi = xs := by
  unfold cutD
  rw [h.1, h.2]
  simp
theorem hk_sl {K : Fg} {S : Sh} {H : Hp} {x : V} {dx : D} {lo hi : Option Int} {Q : VK} (sd : SD S H) (rx : Rt K S H x dx) (q : VOk K .fr S H (slD dx lo hi) Q) : rSlAny K x lo hi H Q := by
  cases dx with
  | lst ds =>
    obtain ⟨a, xs, rfl, ha, r⟩ := rx.lst
    exact .inl ⟨a, xs, rfl, .inl (.inl ha), fun p hp => VOk.lst sd q (r.cut lo hi) p hp⟩
  | fl ds =>
    obtain ⟨a, xs, rfl, ha, r⟩ := rx.fl
    exact .inl ⟨a, xs, rfl, ha.sq, fun p hp => VOk.lst sd q (r.cut lo hi) p hp⟩
  | tup ds =>
    obtain ⟨a, xs, rfl, ha, r⟩ := rx.tup
    refine .inr (.inl ⟨a, xs, rfl, ha, fun hw => ?_, fun _ p hp => VOk.tup sd q (r.cut lo hi) p hp⟩)
    rw [r.len] at hw
    have q' : VOk K .fr S H (.ok (.tup (cutD ds lo hi))) Q := q
    rw [cut_whole ds lo hi hw] at q'
    refine q'.flat sd rfl ?_
    simp only [Rp]
    exact ⟨a, xs, rfl, ha, r⟩
  | str z =>
    have hx := rx.str.2
    refine .inr (.inr ⟨z, rx.str.1, sOk_len hx, ?_⟩)
    have e : cutS z lo hi = ⟨(cutD z.cps.toList lo hi).toArray⟩ := by
      unfold cutS cutD
      rw [len_cps]
    rw [e]
    refine VOk.str sd q (sOk_sub hx (fun c hc => ?_) ?_)
    · exact List.mem_of_mem_drop (List.mem_of_mem_take hc)
    · unfold cutD
      rw [List.length_take, List.length_drop, len_cps]
      omega
  | _ => exact q.no
theorem sl_ne (dx : D) (lo hi : Option Int) (c : Nat) (p : D) : slD dx lo hi ≠ .err c p := by
  cases dx <;> exact fun z => by cases z
theorem se_slc {ma : Md} {a : Expr} {fa : Env → R D} {lo hi : Option Expr} {fl fh : Env → R (Option Int)} {pos p2 : Pos} (ha : SE X W cl o ma a fa) (hl : SO X W cl o lo fl) (hh : SO X W cl o hi fh) :
    SE X W cl o .fr (.Subscript a (.Slice lo hi none p2) pos) (fun ρ => (fa ρ).bind fun x => (fl ρ).bind fun l => (fh ρ).bind fun h => slD x l h) := by
  obtain ⟨ta, pa, qa⟩ := ha.ex
  obtain ⟨tl, pl, ql⟩ := hl.ex
  obtain ⟨th, ph, qh⟩ := hh.ex
  refine ⟨_, pe_sz (pe_slice sl_any pa pl ph), fun S H σ ρ Q z sd st p => ?_⟩
  refine SE.then (X := X) (W := W) (cl := cl) (o := o) qa z sd st p fun dx x S1 H1 g1 z1 sd1 st1 r1 p1 => ?_
  refine ql S1 H1 σ ρ _ z1 sd1 st1 ((p1.rebase g1 fun S' H' b a h => (Res.back g1 h : Res X.K H S' H' .fr b a)).bind fun l b S2 H2 _ g2 z2 e2 p2 => ?_)
  subst e2
  refine qh S2 H2 σ ρ _ z2 g2.sd (st1.gr g2 sd1) ((p2.rebase g2 fun S' H' b a h => (Res.back g2 h : Res X.K H1 S' H' .fr b a)).bind fun h b' S3 H3 _ g3 z3 e3 p3 => ?_)
  subst e3
  exact hk_sl g3.sd (((Res.rt r1).gr g2 sd1).gr g3 g2.sd) (VOk.of (sl_ne dx b b') g3 p3)

/-! ### isinstance -/
def tyN : Ty → String
  | .int => "int" | .bool => "bool" | .str => "str" | .tuple => "tuple" | .list => "list" | .dict => "dict"
def dTy : D → String
  | .non => "NoneType" | .bl _ => "bool" | .int _ => "int" | .str _ => "str" | .lst _ => "list" | .fl _ => "list" | .tup _ => "tuple" | .dk _ => "dict" | .dt _ => "dict"
def tyBs : Ty → String → Bool
  | .int, s => s == "int" || s == "bool"
  | .bool, s => s == "bool"
  | .str, s => s == "str"
  | .tuple, s => s == "tuple"
  | .list, s => s == "list"
  | .dict, s => s == "dict"
theorem kit_tab : ∀ t ∈ [Ty.int, .bool, .str, .tuple, .list, .dict], ∀ s ∈ ["NoneType", "bool", "int", "str", "list", "tuple", "dict"], kitB s (tyN t) = some (tyBs t s) := by decide +kernel
theorem kit_all (t : Ty) (d : D) : kitB (dTy d) (tyN t) = some (tyB t d) := by
  have h1 : t ∈ [Ty.int, .bool, .str, .tuple, .list, .dict] := by cases t <;> simp
  have h2 : dTy d ∈ ["NoneType", "bool", "int", "str", "list", "tuple", "dict"] := by cases d <;> simp [dTy]
  have h3 : tyBs t (dTy d) = tyB t d := by cases t <;> cases d <;> rfl
  rw [← h3]
  exact kit_tab t h1 _ h2
theorem Rt.tyx {S : Sh} {H : Hp} {v : V} {d : D} (h : Rt X.K S H v d) : TyX X.K H v (.type (dTy d)) := by
  cases d with
  | non => have e := h.non; subst e; exact .base .non
  | bl b => have e := h.bl; subst e; exact .base (.bl b)
  | int b => have e := h.int; subst e; exact .base (.int b)
  | str b => have e := h.str.1; subst e; exact .base (.str b)
  | lst b => obtain ⟨a, xs, e, l, _⟩ := h.lst; subst e; exact .base (.lst l)
  | fl b =>
    obtain ⟨a, xs, e, l, _⟩ := h.fl
    subst e
    rcases l with ⟨ob, l⟩ | l
    · exact .base (.frz l)
    · rcases l with (l | ⟨ob, l⟩) | ⟨ob, its, n, hk, hc, _⟩
      · cases l
      · cases l
      · exact .kList hk hc
  | tup b =>
    obtain ⟨a, xs, e, l, _⟩ := h.tup
    subst e
    rcases l with (l | ⟨ob, l⟩) | ⟨ob, its, n, hk, hc, _⟩
    · exact .base (.tup l)
    · exact .fTuple l
    · exact .kTuple hk hc
  | dk b => obtain ⟨a, xs, e, l, _⟩ := h.dk; subst e; exact .base (.dK l)
  | dt b => obtain ⟨a, xs, e, l, _⟩ := h.dt; subst e; exact .base (.dT l)

/-! ### truth -/
theorem Rt.tru {S : Sh} {H : Hp} {v : V} {d : D} {k : Bool} (h : Rt X.K S H v d) (e : tr d = .ok k) : TruV X.K v H k := by
  have emp : ∀ {xs : List V} {ds : List D}, RpA X.K S H xs ds → xs.isEmpty = ds.isEmpty := fun {xs ds} r => by
    cases xs <;> cases ds <;> first | rfl | (simp only [RpA] at r; done)
  cases d with
  | non => have e' := h.non; subst e'; cases e; rfl
  | bl b => have e' := h.bl; subst e'; cases e; rfl
  | int b => have e' := h.int; subst e'; cases e; rfl
  | str b =>
    obtain ⟨e', hb⟩ := h.str
    subst e'
    cases e
    exact ⟨sOk_len hb, rfl⟩
  | lst b =>
    obtain ⟨a, xs, e', l, r⟩ := h.lst
    subst e'
    cases e
    exact .inl ⟨xs, .inl (.inl l), by rw [emp r]⟩
  | fl b =>
    obtain ⟨a, xs, e', l, r⟩ := h.fl
    subst e'
    cases e
    exact .inl ⟨xs, l.sq, by rw [emp r]⟩
  | tup b =>
    obtain ⟨a, xs, e', l, r⟩ := h.tup
    subst e'
    cases e
    exact .inr (.inl ⟨xs, l, by rw [emp r]⟩)
  | dk b =>
    obtain ⟨a, kvs, e', l, r⟩ := h.dk
    subst e'
    cases e
    refine .inr (.inr ⟨kvs, l, ?_⟩)
    cases kvs <;> cases b <;> first | rfl | (simp only [RpD] at r; done)
  | dt b => cases e
theorem tr_ne (d : D) (c : Nat) (p : D) : tr d ≠ .err c p := by cases d <;> exact fun z => by cases z
theorem se_not {m : Md} {a : Expr} {fa : Env → R D} {pos : Pos} (ha : SE X W cl o m a fa) : SE X W cl o .sh (.UnaryOp .Not a pos) (fun ρ => (fa ρ).bind fun x => (tr x).bind fun k => .ok (.bl (!k))) :=
  SE.op1 (r := fun x H Q => ∃ k, TruV X.K x H k ∧ Q (.bl (!k)) H) (k := fun x => (tr x).bind fun k => .ok (.bl (!k))) ha (fun p => pe_notT p) (fun S H x dx Q z sd rx q => by
    cases e : tr dx with
    | ok k => rw [e] at q; exact ⟨k, rx.tru e, VOk.bl sd q⟩
    | err c p => exact absurd e (tr_ne _ _ _)
    | bad => rw [e] at q; exact q.no) (fun dx c p => by
    cases e : tr dx with
    | ok k => exact fun z => by cases z
    | err c p => exact absurd e (tr_ne _ _ _)
    | bad => exact fun z => by cases z)
theorem se_neg {m : Md} {a : Expr} {fa : Env → R D} {pos : Pos} (ha : SE X W cl o m a fa) : SE X W cl o .sh (.UnaryOp .USub a pos) (fun ρ => (fa ρ).bind fun x => (intD x).bind fun i => .ok (.int (-i))) :=
  SE.op1 (r := rU fun i => .int (-i)) (k := fun x => (intD x).bind fun i => .ok (.int (-i))) ha (fun p => pe_un un_neg p) (fun S H x dx Q z sd rx q => by
    cases dx with
    | int i => exact ⟨i, rx.int, VOk.int sd q⟩
    | _ => exact q.no) (fun dx c p => by cases dx <;> exact fun z => by cases z)
/-- a and b, a or b: the value itself -/
theorem se_and {a b : Expr} {rest : List Expr} {fa fb : Env → R D} {pos : Pos} (ha : SE X W cl o .sh a fa) (hb : SE X W cl o .sh (.BoolOp .And (b :: rest) pos) fb) :
    SE X W cl o .sh (.BoolOp .And (a :: b :: rest) pos) (fun ρ => (fa ρ).bind fun x => (tr x).bind fun k => if k then fb ρ else .ok x) := by
  obtain ⟨ta, pa, qa⟩ := ha.ex
  obtain ⟨tb, pb, qb⟩ := hb.ex
  refine ⟨_, pe_andT pa pb, fun S H σ ρ Q z sd st p => ?_⟩
  refine SE.then (X := X) (W := W) (cl := cl) (o := o) qa z sd st p fun dx x S1 H1 g1 z1 sd1 st1 r1 p1 => ?_
  cases e : tr dx with
  | ok k =>
    rw [e] at p1
    refine ⟨k, (Res.rt r1).tru e, ?_⟩
    cases k with
    | true => exact iteT (qb S1 H1 σ ρ Q z1 sd1 st1 (Pst.rebase g1 (fun _ _ _ _ h => h) p1))
    | false => exact iteF (p1 x S1 H1 g1 z1 r1)
  | err c p => exact absurd e (tr_ne _ _ _)
  | bad => rw [e] at p1; exact False.elim p1
theorem se_or {a b : Expr} {rest : List Expr} {fa fb : Env → R D} {pos : Pos} (ha : SE X W cl o .sh a fa) (hb : SE X W cl o .sh (.BoolOp .Or (b :: rest) pos) fb) :
    SE X W cl o .sh (.BoolOp .Or (a :: b :: rest) pos) (fun ρ => (fa ρ).bind fun x => (tr x).bind fun k => if k then .ok x else fb ρ) := by
  obtain ⟨ta, pa, qa⟩ := ha.ex
  obtain ⟨tb, pb, qb⟩ := hb.ex
  refine ⟨_, pe_orT pa pb, fun S H σ ρ Q z sd st p => ?_⟩
  refine SE.then (X := X) (W := W) (cl := cl) (o := o) qa z sd st p fun dx x S1 H1 g1 z1 sd1 st1 r1 p1 => ?_
  cases e : tr dx with
  | ok k =>
    rw [e] at p1
    refine ⟨k, (Res.rt r1).tru e, ?_⟩
    cases k with
    | true => exact iteT (p1 x S1 H1 g1 z1 r1)
    | false => exact iteF (qb S1 H1 σ ρ Q z1 sd1 st1 (Pst.rebase g1 (fun _ _ _ _ h => h) p1))
  | err c p => exact absurd e (tr_ne _ _ _)
  | bad => rw [e] at p1; exact False.elim p1
theorem se_one {op : BoolOp} {m : Md} {a : Expr} {fa : Env → R D} {pos : Pos} (ha : SE X W cl o m a fa) : SE X W cl o m (.BoolOp op [a] pos) fa := by
  obtain ⟨ta, pa, qa⟩ := ha.ex
  exact ⟨ta, pe_one pa, qa⟩

/-! ### tests -/
structure ST (X : Cx) (W : WX) (cl : Nat → Value) (o : List Bool) (e : Expr) (f : Env → R Bool) : Prop where
  ex : ∃ t, PT X e t ∧ ∀ S H σ ρ Q, HSz X.K H → SD S H → StOk X.K o S H ρ σ → Pst X.K W cl σ S H (fun _ _ (a b : Bool) => a = b) (f ρ) Q → t σ H Q
/-- a test whatever its 'whole' is -/
structure SW (X : Cx) (W : WX) (cl : Nat → Value) (o : List Bool) (e : Expr) (f : Env → R Bool) : Prop where
  ex : ∃ t, PW X e t ∧ ∀ S H σ ρ Q, HSz X.K H → SD S H → StOk X.K o S H ρ σ → Pst X.K W cl σ S H (fun _ _ (a b : Bool) => a = b) (f ρ) Q → t σ H Q
theorem SW.st {e : Expr} {f : Env → R Bool} (h : SW X W cl o e f) : ST X W cl o e f := let ⟨t, p, q⟩ := h.ex; ⟨t, p.pt, q⟩
theorem ST.congr {e : Expr} {f f' : Env → R Bool} (h : ST X W cl o e f) (hf : ∀ ρ, f ρ = f' ρ) : ST X W cl o e f' := by
  obtain rfl : f = f' := funext hf
  exact h
theorem SW.congr {e : Expr} {f f' : Env → R Bool} (h : SW X W cl o e f) (hf : ∀ ρ, f ρ = f' ρ) : SW X W cl o e f' := by
  obtain rfl : f = f' := funext hf
  exact h
theorem st_plain {m : Md} {a : Expr} {fa : Env → R D} (ha : SE X W cl o m a fa) (he : ∀ whole, isTrue a X.env whole = (do let v ← whole; standAt a.pos; holding [v] (truthy v))) : ST X W cl o a (fun ρ => (fa ρ).bind tr) := by
  obtain ⟨ta, pa, qa⟩ := ha.ex
  refine ⟨_, pt_truth pa he, fun S H σ ρ Q z sd st p => ?_⟩
  refine SE.then (X := X) (W := W) (cl := cl) (o := o) qa z sd st p fun dx x S1 H1 g1 z1 sd1 st1 r1 p1 => ?_
  cases e : tr dx with
  | ok k => rw [e] at p1; exact ⟨k, (Res.rt r1).tru e, p1 k S1 H1 g1 z1 rfl⟩
  | err c p => exact absurd e (tr_ne _ _ _)
  | bad => rw [e] at p1; exact False.elim p1
theorem st_not {a : Expr} {fa : Env → R Bool} {pos : Pos} (ha : ST X W cl o a fa) : ST X W cl o (.UnaryOp .Not a pos) (fun ρ => (fa ρ).bind fun k => .ok (!k)) := by
  obtain ⟨ta, pa, qa⟩ := ha.ex
  refine ⟨_, pt_not pa, fun S H σ ρ Q z sd st p => ?_⟩
  refine qa S H σ ρ _ z sd st (p.bind fun k b S1 H1 _ g1 z1 e p1 => ?_)
  subst e
  exact p1 (!b) S1 H1 g1 z1 rfl
theorem sw_and {a b : Expr} {rest : List Expr} {fa fb : Env → R Bool} {pos : Pos} (ha : ST X W cl o a fa) (hb : SW X W cl o (.BoolOp .And (b :: rest) pos) fb) : SW X W cl o (.BoolOp .And (a :: b :: rest) pos) (fun ρ => (fa ρ).bind fun k => if k then fb ρ else .ok false) := by
  obtain ⟨ta, pa, qa⟩ := ha.ex
  obtain ⟨tb, pb, qb⟩ := hb.ex
  refine ⟨_, pw_and pa pb, fun S H σ ρ Q z sd st p => ?_⟩
  refine qa S H σ ρ _ z sd st (p.bind fun k b S1 H1 _ g1 z1 e p1 => ?_)
  subst e
  cases b with
  | true => exact iteT (qb S1 H1 σ ρ Q z1 g1.sd (st.gr g1 sd) (Pst.rebase g1 (fun _ _ _ _ h => h) p1))
  | false => exact iteF (p1 false S1 H1 g1 z1 rfl)
theorem sw_or {a b : Expr} {rest : List Expr} {fa fb : Env → R Bool} {pos : Pos} (ha : ST X W cl o a fa) (hb : SW X W cl o (.BoolOp .Or (b :: rest) pos) fb) : SW X W cl o (.BoolOp .Or (a :: b :: rest) pos) (fun ρ => (fa ρ).bind fun k => if k then .ok true else fb ρ) := by
  obtain ⟨ta, pa, qa⟩ := ha.ex
  obtain ⟨tb, pb, qb⟩ := hb.ex
  refine ⟨_, pw_or pa pb, fun S H σ ρ Q z sd st p => ?_⟩
  refine qa S H σ ρ _ z sd st (p.bind fun k b S1 H1 _ g1 z1 e p1 => ?_)
  subst e
  cases b with
  | true => exact iteT (p1 true S1 H1 g1 z1 rfl)
  | false => exact iteF (qb S1 H1 σ ρ Q z1 g1.sd (st.gr g1 sd) (Pst.rebase g1 (fun _ _ _ _ h => h) p1))
theorem sw_and1 {a : Expr} {fa : Env → R Bool} {pos : Pos} (ha : ST X W cl o a fa) : SW X W cl o (.BoolOp .And [a] pos) fa := by
  obtain ⟨ta, pa, qa⟩ := ha.ex
  exact ⟨ta, pw_and1 pa, qa⟩
theorem sw_or1 {a : Expr} {fa : Env → R Bool} {pos : Pos} (ha : ST X W cl o a fa) : SW X W cl o (.BoolOp .Or [a] pos) fa := by
  obtain ⟨ta, pa, qa⟩ := ha.ex
  exact ⟨ta, pw_or1 pa, qa⟩
theorem pt_sz {e : Expr} {t : TT} (h : PT X e t) : PT X e (fun σ H Q => t σ H fun v H' => HSz X.K H' → Q v H') := ⟨fun pins s σ H Q I hw =>
  thn (h.run pins s σ H _ I hw) fun _ _ ⟨H', I', q⟩ => ⟨H', I', q (hsz_of I')⟩⟩
theorem cm_bl {c : Cm} {dx dy d : D} (h : cmD c dx dy = .ok d) : ∃ k, d = .bl k := by
  cases c with
  | eq => simp only [cmD, R.when] at h; split at h <;> cases h; exact ⟨_, rfl⟩
  | ne => simp only [cmD, R.when] at h; split at h <;> cases h; exact ⟨_, rfl⟩
  | lt =>
    simp only [cmD, R.when] at h
    split at h
    · cases hq : D.lt dx dy <;> rw [hq] at h <;> cases h
      exact ⟨_, rfl⟩
    · cases h
  | isIn =>
    simp only [cmD] at h
    cases hq : inD dx dy <;> rw [hq] at h <;> cases h
    exact ⟨_, rfl⟩
  | notIn =>
    simp only [cmD] at h
    cases hq : inD dx dy <;> rw [hq] at h <;> cases h
    exact ⟨_, rfl⟩
  | _ => cases dx <;> cases dy <;> cases h <;> exact ⟨_, rfl⟩
theorem st_cmp {ma mb : Md} {a b : Expr} {fa fb : Env → R D} {pos : Pos} (hu : X.A.units + 104 < cLine) (c : Cm) (ha : SE X W cl o ma a fa) (hb : SE X W cl o mb b fb) (hm : behindInMarks (cmOp c) b = false) :
    ST X W cl o (.Compare a [cmOp c] [b] pos) (fun ρ => ((fa ρ).bind fun x => (fb ρ).bind fun y => cmD c x y).bind tr) := by
  obtain ⟨ta, pa, qa⟩ := ha.ex
  obtain ⟨tb, pb, qb⟩ := hb.ex
  refine ⟨_, pt_sz (pt_cmpR (op_cm hu c) pa pb hm), fun S H σ ρ Q z sd st p => ?_⟩
  have p0 : Pst X.K W cl σ S H (fun _ _ (a b : Bool) => a = b) ((fa ρ).bind fun x => ((fb ρ).bind fun y => cmD c x y).bind tr) Q := by
    cases e : fa ρ with
    | ok x => rw [e] at p; exact p
    | err c p' => rw [e] at p; exact p
    | bad => rw [e] at p; exact p
  show tOp (rCm X.K c) ta tb σ H _
  refine SE.then (X := X) (W := W) (cl := cl) (o := o) qa z sd st p0 fun dx x S1 H1 g1 z1 sd1 st1 r1 p1 => ?_
  have p2 : Pst X.K W cl σ S H (fun _ _ (a b : Bool) => a = b) ((fb ρ).bind fun y => (cmD c dx y).bind tr) Q := by
    cases e : fb ρ with
    | ok x => rw [e] at p1; exact p1
    | err c p' => rw [e] at p1; exact p1
    | bad => rw [e] at p1; exact p1
  refine SE.then (X := X) (W := W) (cl := cl) (o := o) qb z1 sd1 st1 (Pst.rebase g1 (fun _ _ _ _ h => h) p2) fun dy y S2 H2 g2 z2 sd2 st2 r2 p3 => ?_
  refine hk_cm c sd2 ((Res.rt r1).gr g2 sd1) (Res.rt r2) ?_
  cases e : cmD c dx dy with
  | ok d =>
    rw [e] at p3
    intro v S' H' g' r'
    obtain ⟨k, rfl⟩ := cm_bl e
    have ev : v = .bl k := Rt.bl (K := X.K) (S := S') (H := H') (.inl r')
    subst ev
    exact ⟨k, rfl, fun z' => p3 k S' H' (g2.trans g') z' rfl⟩
  | err c' p' => exact absurd e (cm_ne _ _ _ _ _)
  | bad => rw [e] at p3; exact p3
end
end PP
/-! Names, constants, displays, calls of defs and of built-in functions. -/
namespace PP
open PySem PySem.Spec L2
open PySem.PyData (strOk)

section
variable {X : Cx} {W : WX} {cl : Nat → Value} {o : List Bool}
/-! ### names, constants -/
theorem se_var {i : Nat} {x : Str} {pos : Pos} {m : Md} (hN : X.N[i]? = some x) (hv : Vis X.env.scope x) (hd : (x == ("__debug__" : Str)) = false) (hcd : (x == ("__classdict__" : Str)) = false)
    (hm : m = .pk ∨ (m = .sh ∧ o.getD i false = false)) : SE X W cl o m (.Name x pos) (fun ρ => ofOp (ρ[i]?.join)) := by
  refine ⟨_, pe_var hN hv hd hcd, fun S H σ ρ Q z sd st p => ?_⟩
  cases e : ρ[i]? with
  | none => rw [e] at p; exact False.elim p
  | some od =>
    cases od with
    | none => rw [e] at p; exact False.elim p
    | some d =>
      rw [e] at p
      obtain ⟨v, ev, r⟩ := st.val i d e
      refine ⟨v, ev, p v S H (Gr.refl sd) z ?_⟩
      rcases hm with rfl | ⟨rfl, ho⟩
      · split at r
        · exact Res.rt r
        · exact .inl r
      · rw [ho] at r
        exact r
theorem se_const {m : Md} {e : Expr} {v : V} {d : D} (hpe : PE X e (tC v)) (hm : isMut d = false) (r : ∀ S H, Rp X.K S H v d) : SE X W cl o m e (fun _ => .ok d) := by
  refine ⟨_, hpe, fun S H σ ρ Q z sd st p => ?_⟩
  exact p v S H (Gr.refl sd) z (by
    cases m with
    | sh => exact r S H
    | fr => exact .inl ⟨hm, r S H⟩
    | pk => exact .inl (r S H))
theorem se_int {m : Md} {i : Int} {j : Nat} {pos : Pos} : SE X W cl o m (.Constant (.int i) j pos) (fun _ => .ok (.int i)) := se_const pe_int rfl fun S H => by simp only [Rp]
theorem se_bl {m : Md} {i : Bool} {j : Nat} {pos : Pos} : SE X W cl o m (.Constant (.bool i) j pos) (fun _ => .ok (.bl i)) := se_const pe_bl rfl fun S H => by simp only [Rp]
theorem se_non {m : Md} {j : Nat} {pos : Pos} : SE X W cl o m (.Constant .none j pos) (fun _ => .ok .non) := se_const pe_non rfl fun S H => by simp only [Rp]
theorem se_str {m : Md} {x : Str} {j : Nat} {pos : Pos} (h : sOk x = true) : SE X W cl o m (.Constant (.str x) j pos) (fun _ => .ok (.str x)) := se_const pe_str rfl fun S H => by simp only [Rp]; exact ⟨trivial, h⟩
/-- a module's constant -/
theorem se_glob {m : Md} {x : Str} {v : V} {u : Value} {d : D} {pos : Pos} (hg : Gl X x) (hm : X.mg x = some u) (r : RelV v u) (hd : (x == ("__debug__" : Str)) = false) (hi : isMut d = false) (rp : ∀ S H, Rp X.K S H v d) : SE X W cl o m (.Name x pos) (fun _ => .ok d) :=
  se_const (pe_glob hg hm r hd) hi rp

/-! ### arguments -/
theorem sa_nil : SA X W cl o [] (fun _ => .ok []) := ⟨_, pa_nil, fun S H σ ρ Q z sd st p => p [] S H (Gr.refl sd) z (by simp only [RpA])⟩
theorem sa_cons {e : Expr} {es : List Expr} {f : Env → R D} {g : Env → R (List D)} (he : SE X W cl o .sh e f) (hr : SA X W cl o es g) (hs : starEach (e :: es) X.env = (false, eval e X.env) :: starEach es X.env) :
    SA X W cl o (e :: es) (fun ρ => (f ρ).bind fun d => (g ρ).bind fun ds => .ok (d :: ds)) := by
  obtain ⟨te, pe, qe⟩ := he.ex
  obtain ⟨tr, pr, qr⟩ := hr.ex
  refine ⟨_, pa_cons pe pr hs, fun S H σ ρ Q z sd st p => ?_⟩
  refine SE.then (X := X) (W := W) (cl := cl) (o := o) qe z sd st p fun d v S1 H1 g1 z1 sd1 st1 r1 p1 => ?_
  refine qr S1 H1 σ ρ _ z1 sd1 st1 ((Pst.rebase g1 (fun _ _ _ _ h => h) p1).bind fun ds vs S2 H2 _ g2 z2 r2 p2 => ?_)
  refine p2 (v :: vs) S2 H2 g2 z2 ?_
  simp only [RpA]
  exact ⟨Rp.gr g2 sd1 r1, r2⟩
/-- read now -/
def RtA (K : Fg) (S : Sh) (H : Hp) : List V → List D → Prop
  | [], [] => True
  | v :: vs, d :: ds => Rt K S H v d ∧ RtA K S H vs ds
  | _, _ => False
theorem RtA.gr {K : Fg} {S S' : Sh} {H H' : Hp} (g : Gr S H S' H') (sd : SD S H) : ∀ {vs : List V} {ds : List D}, RtA K S H vs ds → RtA K S' H' vs ds
  | [], [], _ => trivial
  | [], _ :: _, h => h
  | _ :: _, [], h => h
  | _ :: _, _ :: _, h => ⟨h.1.gr g sd, RtA.gr g sd h.2⟩
structure SP (X : Cx) (W : WX) (cl : Nat → Value) (o : List Bool) (es : List Expr) (f : Env → R (List D)) : Prop where
  ex : ∃ t, PA X es t ∧ ∀ S H σ ρ Q, HSz X.K H → SD S H → StOk X.K o S H ρ σ → Pst X.K W cl σ S H (fun S' H' vs ds => RtA X.K S' H' vs ds) (f ρ) Q → t σ H Q
theorem sp_nil : SP X W cl o [] (fun _ => .ok []) := ⟨_, pa_nil, fun S H σ ρ Q z sd st p => p [] S H (Gr.refl sd) z trivial⟩
theorem sp_cons {m : Md} {e : Expr} {es : List Expr} {f : Env → R D} {g : Env → R (List D)} (he : SE X W cl o m e f) (hr : SP X W cl o es g) (hs : starEach (e :: es) X.env = (false, eval e X.env) :: starEach es X.env) :
    SP X W cl o (e :: es) (fun ρ => (f ρ).bind fun d => (g ρ).bind fun ds => .ok (d :: ds)) := by
  obtain ⟨te, pe, qe⟩ := he.ex
  obtain ⟨tr, pr, qr⟩ := hr.ex
  refine ⟨_, pa_cons pe pr hs, fun S H σ ρ Q z sd st p => ?_⟩
  refine SE.then (X := X) (W := W) (cl := cl) (o := o) qe z sd st p fun d v S1 H1 g1 z1 sd1 st1 r1 p1 => ?_
  refine qr S1 H1 σ ρ _ z1 sd1 st1 ((Pst.rebase g1 (fun _ _ _ _ h => h) p1).bind fun ds vs S2 H2 _ g2 z2 r2 p2 => ?_)
  exact p2 (v :: vs) S2 H2 g2 z2 ⟨(Res.rt r1).gr g2 sd1, r2⟩

/-! ### displays -/
theorem se_tup {m : Md} {es : List Expr} {f : Env → R (List D)} {x1 : Nat} {pos : Pos} (h : SA X W cl o es f) (hl : ∀ ρ ds, f ρ = .ok ds → ds.length ≤ sizeLine) : SE X W cl o m (.Tuple es x1 pos) (fun ρ => (f ρ).bind fun ds => .ok (.tup ds)) := by
  obtain ⟨t, pa, q⟩ := h.ex
  refine ⟨_, pe_sz (pe_tup pa), fun S H σ ρ Q z sd st p => ?_⟩
  refine q S H σ ρ _ z sd st (p.bind fun ds vs S1 H1 ed g1 z1 r1 p1 => ?_)
  refine ⟨by rw [r1.len]; exact hl ρ ds ed, fun a ha => ?_⟩
  exact VOk.tup (m := m) g1.sd (Q := fun v H' => HSz X.K H' → Q v H') (fun v S' H' g' r' z' => p1 v S' H' (g1.trans g') z' (Res.back g1 r')) r1 a ha
theorem se_lst {es : List Expr} {f : Env → R (List D)} {pos : Pos} (h : SA X W cl o es f) (hl : ∀ ρ ds, f ρ = .ok ds → ds.length ≤ sizeLine) : SE X W cl o .fr (.List es pos) (fun ρ => (f ρ).bind fun ds => .ok (.lst ds)) := by
  obtain ⟨t, pa, q⟩ := h.ex
  refine ⟨_, pe_sz (pe_lst pa), fun S H σ ρ Q z sd st p => ?_⟩
  refine q S H σ ρ _ z sd st (p.bind fun ds vs S1 H1 ed g1 z1 r1 p1 => ?_)
  refine ⟨by rw [r1.len]; exact hl ρ ds ed, fun a ha => ?_⟩
  exact VOk.lst g1.sd (Q := fun v H' => HSz X.K H' → Q v H') (fun v S' H' g' r' z' => p1 v S' H' (g1.trans g') z' (Res.back g1 r')) r1 a ha
theorem se_dk0 {pos : Pos} : SE X W cl o .fr (.Dict [] [] pos) (fun _ => .ok (.dk [])) := by
  refine ⟨_, pe_sz pe_dnewK, fun S H σ ρ Q z sd st p a ha z' => ?_⟩
  exact p (.ref a) S _ (Gr.alloc sd ha) z' (.inr ⟨a, rfl, .dik (kvs := []) (sd.not ha) upd_same (by simp only [RpD]), ha⟩)
theorem se_dt0 {pos : Pos} : SE X W cl o .fr (.Dict [] [] pos) (fun _ => .ok (.dt [])) := by
  refine ⟨_, pe_sz pe_dnewT, fun S H σ ρ Q z sd st p a ha z' => ?_⟩
  exact p (.ref a) S _ (Gr.alloc sd ha) z' (.inr ⟨a, rfl, .dit (kvs := []) (sd.not ha) upd_same (by simp only [RpT]), ha⟩)

/-! ### a if c else b -/
theorem se_ife {m : Md} {c a b : Expr} {fc : Env → R Bool} {fa fb : Env → R D} {pos : Pos} (hc : ST X W cl o c fc) (ha : SE X W cl o m a fa) (hb : SE X W cl o m b fb) : SE X W cl o m (.IfExp c a b pos) (fun ρ => (fc ρ).bind fun k => if k then fa ρ else fb ρ) := by
  obtain ⟨tc, pc, qc⟩ := hc.ex
  obtain ⟨ta, pa, qa⟩ := ha.ex
  obtain ⟨tb, pb, qb⟩ := hb.ex
  refine ⟨_, pe_ifExp pc pa pb, fun S H σ ρ Q z sd st p => ?_⟩
  refine qc S H σ ρ _ z sd st (p.bind fun k b S1 H1 _ g1 z1 e p1 => ?_)
  subst e
  cases b with
  | true => exact iteT (qa S1 H1 σ ρ Q z1 g1.sd (st.gr g1 sd) (Pst.rebase g1 (fun S' H' v d h => Res.back g1 h) p1))
  | false => exact iteF (qb S1 H1 σ ρ Q z1 g1.sd (st.gr g1 sd) (Pst.rebase g1 (fun S' H' v d h => Res.back g1 h) p1))

/-! ### a < b < c -/
theorem op_sz {f : Value → Value → Sem Value} {r : R2} (h : OpR X f r) : OpR X f (fun x y H Q => r x y H fun v H' => HSz X.K H' → Q v H') := by
  intro pins s σ H x y v u Q I rx ry q
  exact thn (h pins s σ H x y v u _ I rx ry q) fun _ _ ⟨z, H', I', r', q'⟩ => ⟨z, H', I', r', q' (hsz_of I')⟩
theorem chain_walk {ma mb mc : Md} {fa fb fd : Env → R D} {ta tb td : TE} (c c' : Cm)
    (qa : ∀ S H σ ρ (Q : VK), HSz X.K H → SD S H → StOk X.K o S H ρ σ → Pst X.K W cl σ S H (fun S' H' v d => Res X.K H S' H' ma v d) (fa ρ) Q → ta σ H Q)
    (qb : ∀ S H σ ρ (Q : VK), HSz X.K H → SD S H → StOk X.K o S H ρ σ → Pst X.K W cl σ S H (fun S' H' v d => Res X.K H S' H' mb v d) (fb ρ) Q → tb σ H Q)
    (qd : ∀ S H σ ρ (Q : VK), HSz X.K H → SD S H → StOk X.K o S H ρ σ → Pst X.K W cl σ S H (fun S' H' v d => Res X.K H S' H' mc v d) (fd ρ) Q → td σ H Q)
    {S : Sh} {H : Hp} {σ : L2.St} {ρ : Env} {Q : VK} (z : HSz X.K H) (sd : SD S H) (st : StOk X.K o S H ρ σ)
    (p : Pst X.K W cl σ S H (fun S' H' v d => Res X.K H S' H' .sh v d) ((fa ρ).bind fun x => (fb ρ).bind fun y => (cmD c x y).bind fun k => match k with
      | .bl true => (fd ρ).bind fun z => cmD c' y z
      | .bl false => .ok (.bl false)
      | _ => .bad) Q) : tChain (fun x y H Q => rCm X.K c x y H fun v H' => HSz X.K H' → Q v H') (fun x y H Q => rCm X.K c' x y H fun v H' => HSz X.K H' → Q v H') ta tb td σ H Q := by
  refine SE.then (X := X) (W := W) (cl := cl) (o := o) qa z sd st p fun dx x S1 H1 g1 z1 sd1 st1 r1 p1 => ?_
  refine SE.then (X := X) (W := W) (cl := cl) (o := o) qb z1 sd1 st1 (Pst.rebase g1 (fun S' H' v d h => (Res.back g1 h : Res X.K H S' H' .sh v d)) p1) fun dy y S2 H2 g2 z2 sd2 st2 r2 p2 => ?_
  refine hk_cm c sd2 ((Res.rt r1).gr g2 sd1) (Res.rt r2) ?_
  cases e : cmD c dx dy with
  | ok d =>
    rw [e] at p2
    obtain ⟨k, rfl⟩ := cm_bl e
    intro v S3 H3 g3 r3 z3
    have ev : v = .bl k := Rt.bl (K := X.K) (S := S3) (H := H3) (.inl r3)
    subst ev
    refine ⟨k, rfl, ?_⟩
    cases k with
    | false => exact iteF (p2 (.bl false) S3 H3 (g2.trans g3) z3 (by show Rp _ _ _ _ _; simp only [Rp]))
    | true =>
      refine iteT ?_
      refine SE.then (X := X) (W := W) (cl := cl) (o := o) qd z3 g3.sd (st2.gr g3 sd2) (Pst.rebase (g2.trans g3) (fun S' H' v d h => (Res.back (g2.trans g3) h : Res X.K _ S' H' .sh v d)) p2) fun dw w S4 H4 g4 z4 sd4 st4 r4 p4 => ?_
      exact hk_cm c' sd4 (((Res.rt r2).gr g3 sd2).gr g4 g3.sd) (Res.rt r4) (VOk.of (cm_ne _ _ _) g4 p4)
  | err c' p' => exact absurd e (cm_ne _ _ _ _ _)
  | bad => rw [e] at p2; exact False.elim p2
theorem se_cmp2 {ma mb mc : Md} {a b d : Expr} {fa fb fd : Env → R D} {pos : Pos} (hu : X.A.units + 104 < cLine) (c c' : Cm) (ha : SE X W cl o ma a fa) (hb : SE X W cl o mb b fb) (hd : SE X W cl o mc d fd) (hm : lastMarks [cmOp c, cmOp c'] [b, d] = false) :
    SE X W cl o .sh (.Compare a [cmOp c, cmOp c'] [b, d] pos) (fun ρ => (fa ρ).bind fun x => (fb ρ).bind fun y => (cmD c x y).bind fun k => match k with
      | .bl true => (fd ρ).bind fun z => cmD c' y z
      | .bl false => .ok (.bl false)
      | _ => .bad) := by
  obtain ⟨ta, pa, qa⟩ := ha.ex
  obtain ⟨tb, pb, qb⟩ := hb.ex
  obtain ⟨td, pd, qd⟩ := hd.ex
  exact ⟨_, pe_chain (op_sz (op_cm hu c)) (op_sz (op_cm hu c')) pa pb pd hm, fun S H σ ρ Q z sd st p => chain_walk c c' qa qb qd z sd st p⟩
theorem chain_bl {c c' : Cm} {fa fb fd : R D} {d : D} (h : (fa.bind fun x => fb.bind fun y => (cmD c x y).bind fun k => match k with
      | .bl true => fd.bind fun z => cmD c' y z
      | .bl false => .ok (.bl false)
      | _ => .bad) = .ok d) : ∃ k, d = .bl k := by
  cases fa with
  | ok x =>
    cases fb with
    | ok y =>
      cases e : cmD c x y with
      | ok k =>
        simp only [R.bind, e] at h
        obtain ⟨k, rfl⟩ := cm_bl e
        cases k with
        | false => cases h; exact ⟨_, rfl⟩
        | true =>
          cases fd with
          | ok z => exact cm_bl h
          | err c p => cases h
          | bad => cases h
      | err c p => simp only [R.bind, e] at h; cases h
      | bad => simp only [R.bind, e] at h; cases h
    | err c p => cases h
    | bad => cases h
  | err c p => cases h
  | bad => cases h
theorem st_cmp2 {ma mb mc : Md} {a b d : Expr} {fa fb fd : Env → R D} {pos : Pos} (hu : X.A.units + 104 < cLine) (c c' : Cm) (ha : SE X W cl o ma a fa) (hb : SE X W cl o mb b fb) (hd : SE X W cl o mc d fd) (hm : lastMarks [cmOp c, cmOp c'] [b, d] = false) :
    ST X W cl o (.Compare a [cmOp c, cmOp c'] [b, d] pos) (fun ρ => ((fa ρ).bind fun x => (fb ρ).bind fun y => (cmD c x y).bind fun k => match k with
      | .bl true => (fd ρ).bind fun z => cmD c' y z
      | .bl false => .ok (.bl false)
      | _ => .bad).bind tr) := by
  obtain ⟨ta, pa, qa⟩ := ha.ex
  obtain ⟨tb, pb, qb⟩ := hb.ex
  obtain ⟨td, pd, qd⟩ := hd.ex
  refine ⟨_, pt_chain (op_sz (op_cm hu c)) (op_sz (op_cm hu c')) pa pb pd hm, fun S H σ ρ Q z sd st p => ?_⟩
  refine chain_walk (Q := fun x H1 => ∃ k, x = .bl k ∧ Q k H1) c c' qa qb qd z sd st ?_
  cases e : ((fa ρ).bind fun x => (fb ρ).bind fun y => (cmD c x y).bind fun k => match k with
      | .bl true => (fd ρ).bind fun z => cmD c' y z
      | .bl false => .ok (.bl false)
      | _ => .bad) with
  | ok d =>
    rw [e] at p
    obtain ⟨k, rfl⟩ := chain_bl e
    intro v S' H' g z' r
    have ev : v = .bl k := Rt.bl (K := X.K) (S := S') (H := H') (.inl r)
    exact ⟨k, ev, p k S' H' g z' rfl⟩
  | err c p' => rw [e] at p; exact p
  | bad => rw [e] at p; exact p

/-! ### calls of built-in functions -/
theorem SP.call {e : Expr} {es : List Expr} {f : Env → R (List D)} {m : Md} {r : List V → Hp → VK → Prop} {k : List D → R D} (h : SP X W cl o es f) (hpe : ∀ {t : TA}, PA X es t → PE X e (tCB r t))
    (hk : ∀ S H vs ds (Q : VK), HSz X.K H → SD S H → RtA X.K S H vs ds → VOk X.K m S H (k ds) Q → r vs H Q) (hne : ∀ ds c p, k ds ≠ .err c p) : SE X W cl o m e (fun ρ => (f ρ).bind k) := by
  obtain ⟨t, pa, q⟩ := h.ex
  refine ⟨_, pe_sz (hpe pa), fun S H σ ρ Q z sd st p => ?_⟩
  refine q S H σ ρ _ z sd st (p.bind fun ds vs S1 H1 _ g1 z1 r1 p1 => ?_)
  exact hk S1 H1 vs ds _ z1 g1.sd r1 (VOk.of (hne ds) g1 p1)
theorem RtA.one {K : Fg} {S : Sh} {H : Hp} {vs : List V} {d : D} (h : RtA K S H vs [d]) : ∃ v, vs = [v] ∧ Rt K S H v d := by
  cases vs with
  | nil => exact h.elim
  | cons v r =>
    cases r with
    | nil => exact ⟨v, rfl, h.1⟩
    | cons _ _ => exact h.2.elim
theorem RtA.two {K : Fg} {S : Sh} {H : Hp} {vs : List V} {d d' : D} (h : RtA K S H vs [d, d']) : ∃ v v', vs = [v, v'] ∧ Rt K S H v d ∧ Rt K S H v' d' := by
  cases vs with
  | nil => exact h.elim
  | cons v r =>
    obtain ⟨v', rfl, h2⟩ := RtA.one h.2
    exact ⟨v, v', rfl, h.1, h2⟩
theorem RpA.allI {K : Fg} {S : Sh} {H : Hp} : ∀ {xs : List V} {ds : List D} {ns : List Int}, RpA K S H xs ds → allI ds = some ns → xs = ns.map V.int
  | [], [], _, _, e => by cases e; rfl
  | [], _ :: _, _, h, _ => by simp only [RpA] at h
  | _ :: _, [], _, h, _ => by simp only [RpA] at h
  | v :: xs, d :: ds, ns, h, e => by
    simp only [RpA] at h
    cases d with
    | int i =>
      simp only [PP.allI, Option.map_eq_some_iff] at e
      obtain ⟨r, e1, rfl⟩ := e
      have e2 := RpA.allI h.2 e1
      have e3 : v = .int i := Rt.int (.inl h.1)
      rw [e2, e3]; rfl
    | _ => cases e
theorem RpA.allB {K : Fg} {S : Sh} {H : Hp} : ∀ {xs : List V} {ds : List D} {ns : List Bool}, RpA K S H xs ds → allB ds = some ns → xs = ns.map V.bl
  | [], [], _, _, e => by cases e; rfl
  | [], _ :: _, _, h, _ => by simp only [RpA] at h
  | _ :: _, [], _, h, _ => by simp only [RpA] at h
  | v :: xs, d :: ds, ns, h, e => by
    simp only [RpA] at h
    cases d with
    | bl i =>
      simp only [PP.allB, Option.map_eq_some_iff] at e
      obtain ⟨r, e1, rfl⟩ := e
      have e2 := RpA.allB h.2 e1
      have e3 : v = .bl i := Rt.bl (.inl h.1)
      rw [e2, e3]; rfl
    | _ => cases e
theorem maxI_spec : ∀ {ns : List Int}, 0 < ns.length → maxI ns ∈ ns ∧ ∀ y ∈ ns, y ≤ maxI ns
  | [], h => by simp at h
  | [x], _ => by simp [maxI]
  | x :: y :: r, _ => by
    obtain ⟨h1, h2⟩ := maxI_spec (ns := y :: r) (by simp)
    simp only [maxI]
    refine ⟨?_, fun z hz => ?_⟩
    · rcases Int.le_total x (maxI (y :: r)) with q | q
      · rw [Int.max_eq_right q]; exact List.mem_cons_of_mem _ h1
      · rw [Int.max_eq_left q]; exact List.mem_cons_self
    · rcases List.mem_cons.mp hz with e | hz
      · subst e; exact Int.le_max_left _ _
      · exact Int.le_trans (h2 z hz) (Int.le_max_right _ _)
theorem minI_spec : ∀ {ns : List Int}, 0 < ns.length → minI ns ∈ ns ∧ ∀ y ∈ ns, minI ns ≤ y
  | [], h => by simp at h
  | [x], _ => by simp [minI]
  | x :: y :: r, _ => by
    obtain ⟨h1, h2⟩ := minI_spec (ns := y :: r) (by simp)
    simp only [minI]
    refine ⟨?_, fun z hz => ?_⟩
    · rcases Int.le_total x (minI (y :: r)) with q | q
      · rw [Int.min_eq_left q]; exact List.mem_cons_self
      · rw [Int.min_eq_right q]; exact List.mem_cons_of_mem _ h1
    · rcases List.mem_cons.mp hz with e | hz
      · subst e; exact Int.min_le_left _ _
      · exact Int.le_trans (Int.min_le_right _ _) (h2 z hz)

def rLenA (K : Fg) : List V → Hp → VK → Prop := fun xs H Q => (∃ x n, xs = [x] ∧ LenV K x H n ∧ Q (.int n) H) ∨ (∃ a kvs, xs = [V.ref a] ∧ H a = some (.dK kvs) ∧ Q (.int kvs.length) H) ∨ rLenT xs H Q
theorem call_lenA : CallR X (.builtin "len") (rLenA X.K) := CallR.or call_len (CallR.or call_lenD call_len_dT)
theorem RpD.len {K : Fg} {S : Sh} {H : Hp} : ∀ {xs : List (Key × V)} {ds : List (Key × D)}, RpD K S H xs ds → xs.length = ds.length
  | [], [], _ => rfl
  | [], _ :: _, h => by simp only [RpD] at h
  | _ :: _, [], h => by simp only [RpD] at h
  | (_, _) :: _, (_, _) :: _, h => by
    simp only [RpD] at h
    simp only [List.length_cons, RpD.len h.2.2]
theorem RpT.len {K : Fg} {S : Sh} {H : Hp} : ∀ {xs : List (List Key × V)} {ds : List (List Key × D)}, RpT K S H xs ds → xs.length = ds.length
  | [], [], _ => rfl
  | [], _ :: _, h => by simp only [RpT] at h
  | _ :: _, [], h => by simp only [RpT] at h
  | (_, _) :: _, (_, _) :: _, h => by
    simp only [RpT] at h
    simp only [List.length_cons, RpT.len h.2.2]
theorem hk_len {K : Fg} {m : Md} {S : Sh} {H : Hp} {vs : List V} {ds : List D} {Q : VK} (sd : SD S H) (r : RtA K S H vs ds) (q : VOk K m S H (biD .len ds) Q) : rLenA K vs H Q := by
  match ds, r, q with
  | [], _, q => exact q.no
  | _ :: _ :: _, _, q => exact (show VOk K m S H .bad Q by
      rename_i a b c _
      cases a <;> exact q).no
  | [d], r, q =>
    obtain ⟨v, rfl, rv⟩ := r.one
    cases d with
    | lst ds =>
      obtain ⟨a, xs, rfl, ha, rr⟩ := rv.lst
      refine .inl ⟨_, xs.length, rfl, .inl ⟨xs, .inl (.inl ha), rfl⟩, ?_⟩
      rw [rr.len]
      exact VOk.int sd q
    | fl ds =>
      obtain ⟨a, xs, rfl, ha, rr⟩ := rv.fl
      refine .inl ⟨_, xs.length, rfl, .inl ⟨xs, ha.sq, rfl⟩, ?_⟩
      rw [rr.len]
      exact VOk.int sd q
    | tup ds =>
      obtain ⟨a, xs, rfl, ha, rr⟩ := rv.tup
      refine .inl ⟨_, xs.length, rfl, .inr ⟨xs, ha, rfl⟩, ?_⟩
      rw [rr.len]
      exact VOk.int sd q
    | str x =>
      obtain ⟨rfl, hx⟩ := rv.str
      exact .inl ⟨_, x.length, rfl, ⟨sOk_len hx, rfl⟩, VOk.int sd q⟩
    | dk kds =>
      obtain ⟨a, kvs, rfl, ha, rr⟩ := rv.dk
      refine .inr (.inl ⟨a, kvs, rfl, ha, ?_⟩)
      rw [rr.len]
      exact VOk.int sd q
    | dt kds =>
      obtain ⟨a, kvs, rfl, ha, rr⟩ := rv.dt
      refine .inr (.inr ⟨a, kvs, rfl, ha, ?_⟩)
      rw [rr.len]
      exact VOk.int sd q
    | _ => exact q.no
end
end PP
/-! Built-in functions. -/
namespace PP
open PySem PySem.Spec L2
open PySem.PyData (strOk)

section
variable {X : Cx} {W : WX} {cl : Nat → Value} {o : List Bool}
section
variable {K : Fg} {S : Sh} {H : Hp} {vs : List V} {ds : List D} {Q : VK} {m : Md}
def rAbs : List V → Hp → VK → Prop := fun xs H Q => ∃ i, xs = [.int i] ∧ Q (.int (if i < 0 then -i else i)) H
theorem hk_abs (sd : SD S H) (r : RtA K S H vs ds) (q : VOk K m S H (biD .abs ds) Q) : rAbs vs H Q := by
  unfold biD at q
  split at q <;> rename_i hb <;> first | (cases hb; done) | skip
  · obtain ⟨v, rfl, rv⟩ := r.one
    exact ⟨_, by rw [rv.int], VOk.int sd q⟩
  · exact q.no
def rInt1 : List V → Hp → VK → Prop := fun xs H Q => (∃ i, xs = [.int i] ∧ Q (.int i) H) ∨ ∃ k, xs = [.bl k] ∧ Q (.int (if k then 1 else 0)) H
theorem hk_int (sd : SD S H) (r : RtA K S H vs ds) (q : VOk K m S H (biD .int ds) Q) : rInt1 vs H Q := by
  unfold biD at q
  split at q <;> rename_i hb <;> first | (cases hb; done) | skip
  · obtain ⟨v, rfl, rv⟩ := r.one
    exact .inl ⟨_, by rw [rv.int], VOk.int sd q⟩
  · obtain ⟨v, rfl, rv⟩ := r.one
    exact .inr ⟨_, by rw [rv.bl], VOk.int sd q⟩
  · exact q.no
def rBool1 : List V → Hp → VK → Prop := fun xs H Q => (∃ i, xs = [.int i] ∧ Q (.bl (i != 0)) H) ∨ ∃ k, xs = [.bl k] ∧ Q (.bl k) H
theorem hk_bool (sd : SD S H) (r : RtA K S H vs ds) (q : VOk K m S H (biD .bool ds) Q) : rBool1 vs H Q := by
  unfold biD at q
  split at q <;> rename_i hb <;> first | (cases hb; done) | skip
  · obtain ⟨v, rfl, rv⟩ := r.one
    exact .inr ⟨_, by rw [rv.bl], VOk.bl sd q⟩
  · obtain ⟨v, rfl, rv⟩ := r.one
    exact .inl ⟨_, by rw [rv.int], VOk.bl sd q⟩
  · exact q.no
def rStrI : List V → Hp → VK → Prop := fun xs H Q => ∃ i, xs = [.int i] ∧ i.natAbs.log2 < 1920 ∧ Q (.str (toString i)) H
theorem hk_str (sd : SD S H) (r : RtA K S H vs ds) (q : VOk K m S H (biD .str ds) Q) : rStrI vs H Q := by
  unfold biD at q
  split at q <;> rename_i hb <;> first | (cases hb; done) | skip
  · obtain ⟨v, rfl, rv⟩ := r.one
    obtain ⟨h, q⟩ := q.when
    simp only [Bool.and_eq_true, decide_eq_true_eq] at h
    exact ⟨_, by rw [rv.int], h.1, VOk.str sd q h.2⟩
  · exact q.no
/-- a text's signs, one by one -/
def sgV (x : Str) : List V := x.cps.toList.map fun c => V.str ⟨#[c]⟩
theorem vals_sg {x : Str} {acc : Array Value} (h : ItemsOf (SignAt x) acc x.cps.size) : Vals (sgV x) acc.toList := by
  have e : acc.toList.length = x.cps.toList.length := by rw [Array.length_toList, h.1, Array.length_toList]
  have : sgV x = (List.range acc.toList.length).map fun i => V.str ⟨#[x.cps.toList.getD i 0]⟩ := by
    unfold sgV
    refine List.ext_getElem? fun i => ?_
    rw [List.getElem?_map, List.getElem?_map]
    by_cases hi : i < x.cps.toList.length
    · rw [List.getElem?_eq_getElem hi, List.getElem?_range (by rw [e]; exact hi)]
      have h2 : i < x.cps.size := by simpa using hi
      simp [h2]
    · rw [List.getElem?_eq_none (by omega), List.getElem?_eq_none (by rw [List.length_range, e]; omega)]
      rfl
  rw [this]
  refine vals_of_get acc.toList _ fun j u hj => ?_
  obtain ⟨c, t, hc, rfl⟩ := h.2 j u (by rw [← hj, Array.getElem?_toList])
  refine ⟨t, ?_⟩
  have : x.cps.toList.getD j 0 = c := by
    rw [List.getD, Array.getElem?_toList, hc]; rfl
  rw [this]
def rTupS : List V → Hp → VK → Prop := fun xs H Q => ∃ z, xs = [.str z] ∧ z.cps.size ≤ sizeLine ∧ ∀ l, H l = none → Q (.ref l) (upd H l (.tup (sgV z)))
theorem call_tupS {X : Cx} (hc : X.calm = true) : CallR X (.type "tuple") rTupS := by
  intro pins s σ H xs us Q I r h
  obtain ⟨z, rfl, hz, q⟩ := h
  obtain ⟨u, rfl, t, rfl⟩ := vals1 r
  refine call_tuple_str (hsz := hz) (I.ok.hd hc) z t fun h' tk acc hk hi => ?_
  have I1 : Inv X pins σ H { s with heap := h' } := I.kept (t' := s.toks) hk
  have I2 : Inv X pins σ (upd H h'.objs.size (.tup (sgV z))) { s with heap := h'.push { cls := .type "tuple", data := .seq acc }, toks := tk } :=
    I1.laid (t' := tk) (fun b o e => Heap.get?_push_of_some _ e) (Nat.le_refl _) (show ObjOk X.prog X.w _ _ _ (.tup (sgV z)) from ⟨by unfold sgV; rw [List.length_map, Array.length_toList]; exact hz, acc.toList, vals_sg hi, by
      have := PyProof.Rows.IsTup.new h' acc
      simpa using this⟩)
  exact ⟨.ref h'.objs.size, _, I2, rfl, q _ (I1.hok.fresh (Nat.le_refl _))⟩
theorem RpA.sg {K : Fg} {S : Sh} {H : Hp} {x : Str} (hx : sOk x = true) : RpA K S H (sgV x) (x.cps.toList.map fun c => .str ⟨#[c]⟩) := by
  have : ∀ l : List Nat, (∀ c ∈ l, c ∈ x.cps.toList) → RpA K S H (l.map fun c => V.str ⟨#[c]⟩) (l.map fun c => D.str ⟨#[c]⟩) := by
    intro l
    induction l with
    | nil => intro _; simp only [List.map_nil, RpA]
    | cons c l ih =>
      intro hl
      simp only [List.map_cons, RpA, Rp]
      refine ⟨⟨trivial, ?_⟩, ih fun d hd => hl d (List.mem_cons_of_mem _ hd)⟩
      have hm := hl c List.mem_cons_self
      have h1 : 1 ≤ x.length := by
        rw [← len_cps]
        exact List.length_pos_of_mem hm
      exact sOk_sub (l := [c]) hx (fun c' hc' => by
        rw [List.mem_singleton] at hc'
        rw [hc']
        exact hm) h1
  exact this _ fun _ h => h
def rTupOf (K : Fg) : List V → Hp → VK → Prop := fun xs H Q => ∃ p ys, xs = [.ref p] ∧ ((SqL K H p ys ∧ ∀ l, H l = none → Q (.ref l) (upd H l (.tup ys))) ∨ (SqT K H p ys ∧ Q (.ref p) H))
theorem hk_tuple (sd : SD S H) (r : RtA K S H vs ds) (q : VOk K m S H (biD .tuple ds) Q) : rTupOf K vs H Q ∨ rTupS vs H Q := by
  unfold biD at q
  split at q <;> rename_i hb <;> first | (cases hb; done) | skip
  · obtain ⟨v, rfl, rv⟩ := r.one
    obtain ⟨a, xs, rfl, ha, rr⟩ := rv.lst
    exact .inl ⟨a, xs, rfl, .inl ⟨.inl (.inl ha), VOk.tup sd q rr⟩⟩
  · obtain ⟨v, rfl, rv⟩ := r.one
    obtain ⟨a, xs, rfl, ha, rr⟩ := rv.fl
    exact .inl ⟨a, xs, rfl, .inl ⟨ha.sq, VOk.tup sd q rr⟩⟩
  · obtain ⟨v, rfl, rv⟩ := r.one
    obtain ⟨a, xs, rfl, ha, rr⟩ := rv.tup
    refine .inl ⟨a, xs, rfl, .inr ⟨ha, q.flat sd rfl ?_⟩⟩
    simp only [Rp]
    exact ⟨a, xs, rfl, ha, rr⟩
  · obtain ⟨v, rfl, rv⟩ := r.one
    obtain ⟨rfl, hx⟩ := rv.str
    exact .inr ⟨_, rfl, sOk_len hx, VOk.tup sd q (RpA.sg hx)⟩
  · exact q.no
def rListOf (K : Fg) : List V → Hp → VK → Prop := fun xs H Q => ∃ p ys, xs = [.ref p] ∧ (SqL K H p ys ∨ SqT K H p ys) ∧ ∀ l, H l = none → Q (.ref l) (upd H l (.lst ys))
theorem hk_list (sd : SD S H) (r : RtA K S H vs ds) (q : VOk K .fr S H (biD .list ds) Q) : rListOf K vs H Q := by
  unfold biD at q
  split at q <;> rename_i hb <;> first | (cases hb; done) | skip
  · obtain ⟨v, rfl, rv⟩ := r.one
    obtain ⟨a, xs, rfl, ha, rr⟩ := rv.lst
    exact ⟨a, xs, rfl, .inl (.inl (.inl ha)), VOk.lst sd q rr⟩
  · obtain ⟨v, rfl, rv⟩ := r.one
    obtain ⟨a, xs, rfl, ha, rr⟩ := rv.fl
    exact ⟨a, xs, rfl, .inl ha.sq, VOk.lst sd q rr⟩
  · obtain ⟨v, rfl, rv⟩ := r.one
    obtain ⟨a, xs, rfl, ha, rr⟩ := rv.tup
    exact ⟨a, xs, rfl, .inr (ha), VOk.lst sd q rr⟩
  · exact q.no
theorem hk_all (sd : SD S H) (r : RtA K S H vs ds) (q : VOk K m S H (biD .all ds) Q) : rAll K vs H Q := by
  unfold biD at q
  split at q <;> rename_i hb <;> first | (cases hb; done) | skip
  · obtain ⟨v, rfl, rv⟩ := r.one
    obtain ⟨a, xs, rfl, ha, rr⟩ := rv.lst
    split at q
    · rename_i bs e
      refine ⟨a, bs, rfl, .inl (.inl ?_), VOk.bl sd q⟩
      rw [← rr.allB e]
      exact ha
    · exact q.no
  · exact q.no
theorem hk_any (sd : SD S H) (r : RtA K S H vs ds) (q : VOk K m S H (biD .any ds) Q) : rAny K vs H Q := by
  unfold biD at q
  split at q <;> rename_i hb <;> first | (cases hb; done) | skip
  · obtain ⟨v, rfl, rv⟩ := r.one
    obtain ⟨a, xs, rfl, ha, rr⟩ := rv.lst
    split at q
    · rename_i bs e
      refine ⟨a, bs, rfl, .inl (.inl ?_), VOk.bl sd q⟩
      rw [← rr.allB e]
      exact ha
    · exact q.no
  · exact q.no
theorem hk_sum (sd : SD S H) (r : RtA K S H vs ds) (q : VOk K m S H (biD .sum ds) Q) : rSum K vs H Q := by
  unfold biD at q
  split at q <;> rename_i hb <;> first | (cases hb; done) | skip
  · obtain ⟨v, rfl, rv⟩ := r.one
    obtain ⟨a, xs, rfl, ha, rr⟩ := rv.lst
    split at q
    · rename_i bs e
      refine ⟨a, bs, rfl, .inl (.inl ?_), VOk.int sd q⟩
      rw [← rr.allI e]
      exact ha
    · exact q.no
  · exact q.no
def rMax2I : List V → Hp → VK → Prop := fun xs H Q => ∃ i j, xs = [.int i, .int j] ∧ Q (.int (if j > i then j else i)) H
def rMin2I : List V → Hp → VK → Prop := fun xs H Q => ∃ i j, xs = [.int i, .int j] ∧ Q (.int (if j < i then j else i)) H
def rMaxA (K : Fg) : List V → Hp → VK → Prop := fun xs H Q => rMax K xs H Q ∨ rMax2I xs H Q
def rMinA (K : Fg) : List V → Hp → VK → Prop := fun xs H Q => rMin K xs H Q ∨ rMin2I xs H Q
theorem hk_max (sd : SD S H) (r : RtA K S H vs ds) (q : VOk K m S H (biD .max ds) Q) : rMaxA K vs H Q := by
  unfold biD at q
  split at q <;> rename_i hb <;> first | (cases hb; done) | skip
  · obtain ⟨v, rfl, rv⟩ := r.one
    obtain ⟨a, xs, rfl, ha, rr⟩ := rv.lst
    split at q
    · rename_i bs e
      obtain ⟨h, q⟩ := q.when
      simp only [decide_eq_true_eq] at h
      refine .inl ⟨a, bs, rfl, .inl (.inl ?_), h, fun k hk hle => ?_⟩
      · rw [← rr.allI e]
        exact ha
      · obtain ⟨h1, h2⟩ := maxI_spec h
        have : k = maxI bs := Int.le_antisymm (h2 k hk) (hle _ h1)
        rw [this]
        exact VOk.int sd q
    · exact q.no
  · obtain ⟨v, v', rfl, rv, rv'⟩ := r.two
    exact .inr ⟨_, _, by rw [rv.int, rv'.int], VOk.int sd q⟩
  · exact q.no
theorem hk_min (sd : SD S H) (r : RtA K S H vs ds) (q : VOk K m S H (biD .min ds) Q) : rMinA K vs H Q := by
  unfold biD at q
  split at q <;> rename_i hb <;> first | (cases hb; done) | skip
  · obtain ⟨v, rfl, rv⟩ := r.one
    obtain ⟨a, xs, rfl, ha, rr⟩ := rv.lst
    split at q
    · rename_i bs e
      obtain ⟨h, q⟩ := q.when
      simp only [decide_eq_true_eq] at h
      refine .inl ⟨a, bs, rfl, .inl (.inl ?_), h, fun k hk hle => ?_⟩
      · rw [← rr.allI e]
        exact ha
      · obtain ⟨h1, h2⟩ := minI_spec h
        have : k = minI bs := Int.le_antisymm (hle _ h1) (h2 k hk)
        rw [this]
        exact VOk.int sd q
    · exact q.no
  · obtain ⟨v, v', rfl, rv, rv'⟩ := r.two
    exact .inr ⟨_, _, by rw [rv.int, rv'.int], VOk.int sd q⟩
  · exact q.no
end
theorem bi_ne (b : Bi) (ds : List D) (c : Nat) (p : D) : biD b ds ≠ .err c p := by
  intro h
  unfold biD at h
  (repeat' (split at h)) <;> first | (cases h; done) | (unfold R.when at h; split at h <;> cases h)
def biN : Bi → Str
  | .len => "len" | .abs => "abs" | .int => "int" | .str => "str" | .tuple => "tuple" | .list => "list" | .sorted => "sorted" | .all => "all" | .any => "any" | .sum => "sum" | .min => "min" | .max => "max" | .bool => "bool"
/-- the name's own builtin is seen in the def -/
structure Bn (X : Cx) (x : Str) : Prop where
  g : Gl X x
  m : X.mg x = none
theorem se_bi {b : Bi} {e : Expr} {es : List Expr} {f : Env → R (List D)} {p pos : Pos} (hb : b ≠ .sorted) (hc : X.calm = true) (n : Bn X (biN b)) (h : SP X W cl o (e :: es) f)
    (he : starEach (e :: es) X.env = (false, eval e X.env) :: starEach es X.env) (hpl : (backTo pos (starEach es X.env)).any (·.1) = false) : SE X W cl o .fr (.Call (.Name (biN b) p) (e :: es) [] pos) (fun ρ => (f ρ).bind (biD b)) := by
  cases b with
  | sorted => exact absurd rfl hb
  | len => exact h.call (fun ha => pe_callB (id := "len") call_lenA n.g n.m PySem.boot_len ha (by decide) (by decide) he hpl) (fun _ _ _ _ _ _ sd r q => hk_len sd r q) (bi_ne _)
  | abs => exact h.call (fun ha => pe_callB (id := "abs") (r := rAbs) call_abs n.g n.m PyProof.Rows.boot_abs ha (by decide) (by decide) he hpl) (fun _ _ _ _ _ _ sd r q => hk_abs sd r q) (bi_ne _)
  | int => exact h.call (fun ha => pe_callTy (T := "int") (r := rInt1) call_int1 n.g n.m PyProof.Rows.boot_int ha (by decide) (by decide) he hpl) (fun _ _ _ _ _ _ sd r q => hk_int sd r q) (bi_ne _)
  | bool => exact h.call (fun ha => pe_callTy (T := "bool") (r := rBool1) call_bool1 n.g n.m PyProof.Rows.boot_bool ha (by decide) (by decide) he hpl) (fun _ _ _ _ _ _ sd r q => hk_bool sd r q) (bi_ne _)
  | str => exact h.call (fun ha => pe_callTy (T := "str") (r := rStrI) call_str_int n.g n.m PyProof.Rows.boot_str ha (by decide) (by decide) he hpl) (fun _ _ _ _ _ _ sd r q => hk_str sd r q) (bi_ne _)
  | tuple => exact h.call (fun ha => pe_callTy (T := "tuple") (CallR.or call_tuple_of (call_tupS hc)) n.g n.m PyProof.Rows.boot_tuple ha (by decide) (by decide) he hpl) (fun _ _ _ _ _ _ sd r q => hk_tuple sd r q) (bi_ne _)
  | list => exact h.call (fun ha => pe_callTy (T := "list") (r := rListOf X.K) call_list_of n.g n.m PyProof.Rows.boot_list ha (by decide) (by decide) he hpl) (fun _ _ _ _ _ _ sd r q => hk_list sd r q) (bi_ne _)
  | all => exact h.call (fun ha => pe_callB (id := "all") (cr_all hc) n.g n.m PyProof.Rows.boot_all ha (by decide) (by decide) he hpl) (fun _ _ _ _ _ _ sd r q => hk_all sd r q) (bi_ne _)
  | any => exact h.call (fun ha => pe_callB (id := "any") (cr_any hc) n.g n.m PyProof.Rows.boot_any ha (by decide) (by decide) he hpl) (fun _ _ _ _ _ _ sd r q => hk_any sd r q) (bi_ne _)
  | sum => exact h.call (fun ha => pe_callB (id := "sum") (cr_sum hc) n.g n.m PyProof.Rows.boot_sum ha (by decide) (by decide) he hpl) (fun _ _ _ _ _ _ sd r q => hk_sum sd r q) (bi_ne _)
  | max => exact h.call (fun ha => pe_callB (id := "max") (CallR.or (cr_max hc) (call_max2 hc)) n.g n.m PyProof.Rows.boot_max ha (by decide) (by decide) he hpl) (fun _ _ _ _ _ _ sd r q => hk_max sd r q) (bi_ne _)
  | min => exact h.call (fun ha => pe_callB (id := "min") (CallR.or (cr_min hc) (call_min2 hc)) n.g n.m PyProof.Rows.boot_min ha (by decide) (by decide) he hpl) (fun _ _ _ _ _ _ sd r q => hk_min sd r q) (bi_ne _)
end
end PP
/-! isinstance, xs[::-1], methods, calls of defs. -/
namespace PP
open PySem PySem.Spec L2
open PySem.PyData (strOk)

section
variable {X : Cx} {W : WX} {cl : Nat → Value} {o : List Bool}
theorem boot_ty (t : Ty) : bootBuiltins (Str.ofString (tyN t)) = some (.type (tyN t)) := by
  cases t with
  | int => exact PyProof.Rows.boot_int
  | bool => exact PyProof.Rows.boot_bool
  | str => exact PyProof.Rows.boot_str
  | tuple => exact PyProof.Rows.boot_tuple
  | list => exact PyProof.Rows.boot_list
  | dict => exact PyProof.Rows.boot_dict
theorem ty_names (t : Ty) : Str.ofString (tyN t) ≠ "__name__" ∧ (Str.ofString (tyN t) == ("__debug__" : Str)) = false := by cases t <;> exact ⟨by decide, by decide⟩
theorem se_isi {m : Md} {a : Expr} {t : Ty} {fa : Env → R D} {p p1 pos : Pos} (n : Bn X "isinstance") (nt : Bn X (Str.ofString (tyN t))) (ha : SE X W cl o m a fa)
    (h1 : starEach [a, .Name (Str.ofString (tyN t)) p1] X.env = (false, eval a X.env) :: starEach [.Name (Str.ofString (tyN t)) p1] X.env)
    (h2 : starEach [.Name (Str.ofString (tyN t)) p1] X.env = (false, eval (.Name (Str.ofString (tyN t)) p1) X.env) :: starEach [] X.env)
    (hpl : (backTo pos (starEach [.Name (Str.ofString (tyN t)) p1] X.env)).any (·.1) = false) :
    SE X W cl o .sh (.Call (.Name "isinstance" p) [a, .Name (Str.ofString (tyN t)) p1] [] pos) (fun ρ => (fa ρ).bind fun x => .ok (.bl (tyB t x))) := by
  obtain ⟨ta, pa, qa⟩ := ha.ex
  obtain ⟨t1, t2⟩ := ty_names t
  have pn : PE X (.Name (Str.ofString (tyN t)) p1) (tC (.ty (tyN t))) := pe_bltn nt.g nt.m (boot_ty t) rfl t1 t2
  refine ⟨_, pe_sz (pe_callB (id := "isinstance") call_isi n.g n.m PyProof.Rows.boot_isinstance (pa_cons pa (pa_cons pn pa_nil h2) h1) (by decide) (by decide) h1 hpl), fun S H σ ρ Q z sd st p => ?_⟩
  refine SE.then (X := X) (W := W) (cl := cl) (o := o) qa z sd st p fun dx x S1 H1 g1 z1 sd1 st1 r1 p1 => ?_
  refine ⟨x, .ty (tyN t), .type (dTy dx), .type (tyN t), tyB t dx, rfl, .ty _, (Res.rt r1).tyx, kit_ty (kit_all t dx), fun z' => ?_⟩
  exact p1 (.bl (tyB t dx)) S1 H1 g1 z' (by show Rp _ _ _ _ _; simp only [Rp])

/-! ### xs[::-1] -/
/-! ### methods -/
def rGetQ (K : Fg) : V → List V → Hp → VK → Prop := fun x xs H Q => ∃ a y o, x = .ref a ∧ DGetQ K H a y o ∧ ((xs = [y] ∧ Q (o.getD .non) H) ∨ ∃ z, xs = [y, z] ∧ Q (o.getD z) H)
theorem mt_getQ (hu : X.A.units + 1 < cLine) : MtR X "dict.get" (rGetQ X.K) := by
  intro pins s σ H x xs v us Q I rx rxs h
  obtain ⟨a, y, o', rfl, g, h⟩ := h
  cases rx
  rcases h with ⟨rfl, q⟩ | ⟨z, rfl, q⟩
  · obtain ⟨u, rfl, ry⟩ := vals1 rxs
    rcases g with ⟨kvs, k, e, ey, l⟩ | ⟨kvs, k, b, e, ey, eb, l⟩
    · exact d_get1 hu I (.inl ⟨kvs, k, .inl e, ey, l⟩) ry fun w' s' I' r' => ⟨_, H, I', r', q⟩
    · subst ey
      cases (show u = Value.ref b from ry)
      obtain ⟨z, hd, ys, rel, dd⟩ := dt_rd I.hok (.inl e)
      refine call_meetsIn PySem.F.slot_dict_get dd.typeIs PySem.F.entry_dict_get (PySem.F.args_dict_get_2 _ _) (meetsH_dict_get (tupleKind (mixKind X.prog X.w)) a b hd) ⟨room_k hu, k, ys, key_sq I eb, dd, ⟨_, H, I.tok _, ?_, q⟩⟩
      rw [l]
      exact (rel.val k).getD rfl
  · obtain ⟨u, u2, rfl, ry, rz⟩ := vals2 rxs
    rcases g with ⟨kvs, k, e, ey, l⟩ | ⟨kvs, k, b, e, ey, eb, l⟩
    · exact d_get2 hu I (.inl ⟨kvs, k, .inl e, ey, l⟩) ry rz fun w' s' I' r' => ⟨_, H, I', r', q⟩
    · subst ey
      cases (show u = Value.ref b from ry)
      obtain ⟨z, hd, ys, rel, dd⟩ := dt_rd I.hok (.inl e)
      refine call_meetsIn PySem.F.slot_dict_get dd.typeIs PySem.F.entry_dict_get (PySem.F.args_dict_get_3 _ _ _) (meetsH_dict_get_default (tupleKind (mixKind X.prog X.w)) a b hd u2) ⟨room_k hu, k, ys, key_sq I eb, dd, ⟨_, H, I.tok _, ?_, q⟩⟩
      rw [l]
      exact (rel.val k).getD rz
theorem hk_get {K : Fg} {S : Sh} {H : Hp} {x : V} {vs : List V} {dx : D} {ds : List D} {Q : VK} (sd : SD S H) (rx : Rt K S H x dx) (r : RpA K S H vs ds) (q : VOk K .sh S H (mtD .get dx ds) Q) : rGetQ K x vs H Q := by
  match ds, r, q with
  | [], _, q => exact (show VOk K .sh S H .bad Q by cases dx <;> exact q).no
  | [dy], r, q =>
    have q : VOk K .sh S H (match dGet dx dy with
      | some o => .ok (o.getD .non)
      | none => .bad) Q := q
    cases e : dGet dx dy with
    | none => rw [e] at q; exact q.no
    | some od =>
      rw [e] at q
      cases vs with
      | nil => simp only [RpA] at r
      | cons y vs =>
        simp only [RpA] at r
        cases vs with
        | cons _ _ => simp only [RpA] at r; exact r.2.elim
        | nil =>
          obtain ⟨a, rv, e1, g, hr⟩ := dGet_rel rx (.inl r.1) e
          refine ⟨a, y, rv, e1, g, .inl ⟨rfl, VOk.sh sd q ?_⟩⟩
          cases rv <;> cases od <;> first | exact hr.elim | exact hr | (show Rp K S H .non .non; simp only [Rp])
  | [dy, dz], r, q =>
    have q : VOk K .sh S H (match dGet dx dy with
      | some o => .ok (o.getD dz)
      | none => .bad) Q := q
    cases e : dGet dx dy with
    | none => rw [e] at q; exact q.no
    | some od =>
      rw [e] at q
      cases vs with
      | nil => simp only [RpA] at r
      | cons y vs =>
        simp only [RpA] at r
        cases vs with
        | nil => simp only [RpA] at r; exact r.2.elim
        | cons w vs =>
          simp only [RpA] at r
          cases vs with
          | cons _ _ => simp only [RpA] at r; exact r.2.2.elim
          | nil =>
            obtain ⟨a, rv, e1, g, hr⟩ := dGet_rel rx (.inl r.1) e
            refine ⟨a, y, rv, e1, g, .inr ⟨w, rfl, VOk.sh sd q ?_⟩⟩
            cases rv <;> cases od <;> first | exact hr.elim | exact hr | exact r.2.1
  | _ :: _ :: _ :: _, _, q => exact (show VOk K .sh S H .bad Q by cases dx <;> exact q).no
theorem DpAll.of_lst {K : Fg} {H : Hp} {a : Addr} {xs : List V} {ds : List PyData} (h : H a = some (.lst xs)) (r : DpAll K H xs ds) : Dp K H (.ref a) (.list ds) := .lst (.inl (.inl h)) r
theorem pyA_get : ∀ {xs : List D} {j : Nat} {z : D}, xs[j]? = some z → (D.pyA xs)[j]? = some z.py
  | [], _, _, h => by simp at h
  | x :: xs, 0, z, h => by simp at h; subst h; rfl
  | x :: xs, j + 1, z, h => by
    have := pyA_get (xs := xs) (j := j) (z := z) (by simpa using h)
    simpa [D.pyA] using this
theorem pyA_len : ∀ xs : List D, (D.pyA xs).length = xs.length
  | [] => rfl
  | x :: xs => by simp only [D.pyA, List.length_cons, pyA_len xs]
theorem nd_get : ∀ {xs : List D} {j : Nat} {z : D}, D.nd.ndA xs = true → xs[j]? = some z → z.nd = true
  | [], _, _, _, h => by simp at h
  | x :: xs, 0, z, n, h => by
    simp at h; subst h
    simp only [D.nd.ndA, Bool.and_eq_true] at n
    exact n.1
  | x :: xs, j + 1, z, n, h => by
    simp only [D.nd.ndA, Bool.and_eq_true] at n
    exact nd_get (xs := xs) (j := j) n.2 (by simpa using h)
theorem hk_index {K : Fg} {S : Sh} {H : Hp} {x : V} {vs : List V} {dx : D} {ds : List D} {Q : VK} (sd : SD S H) (rx : Rt K S H x dx) (r : RpA K S H vs ds) (q : VOk K .sh S H (mtD .index dx ds) Q) : rIndexD K x vs H Q := by
  unfold mtD at q
  split at q <;> rename_i hb <;> first | (cases hb; done) | skip
  · rename_i xs dy
    obtain ⟨hok, q⟩ := q.when
    simp only [Bool.and_eq_true, decide_eq_true_eq] at hok
    obtain ⟨h1, h2⟩ := hok
    obtain ⟨n1, n2, n3⟩ := seqOk_iff.mp h1
    split at q
    · rename_i i ei
      obtain ⟨a, ws, rfl, ha, rr⟩ := rx.lst
      cases vs with
      | nil => simp only [RpA] at r
      | cons y vs =>
        simp only [RpA] at r
        cases vs with
        | cons _ _ => simp only [RpA] at r; exact r.2.elim
        | nil =>
          obtain ⟨dp, c1⟩ := Rp.dp _ _ r.1 n1
          obtain ⟨dps, c2⟩ := RpA.dp _ _ rr n2
          obtain ⟨hi, hp, hno⟩ := List.findIdx?_eq_some_iff_getElem.mp ei
          have hz : xs[i]? = some xs[i] := List.getElem?_eq_getElem hi
          refine ⟨a, y, dy.py, D.pyA xs, i, xs[i].py, rfl, rfl, DpAll.of_lst ha dps, dp, ?_, ?_, pyA_get hz, ?_, fun m z' hm hz' => ?_, VOk.int sd q⟩
          · have hnd : (D.lst xs).nd = true := n2
            have := py_depth (D.lst xs) hnd
            have e2 : (D.lst xs).py = PyData.list (D.pyA xs) := rfl
            rw [e2] at this
            unfold SeqAt.shaped
            rw [lay_list c2, this, decide_eq_true h2]; rfl
          · unfold SeqAt.shaped
            rw [c1, py_depth _ n1, decide_eq_true (by omega)]; rfl
          · rw [← py_eq _ _ (nd_get n2 hz) n1]
            exact hp
          · have hmx : m < xs.length := by omega
            have hz2 : xs[m]? = some xs[m] := List.getElem?_eq_getElem hmx
            rw [pyA_get hz2] at hz'
            cases hz'
            rw [← py_eq _ _ (nd_get n2 hz2) n1]
            have := hno m hm
            simpa using this
    · exact q.no
  · exact q.no
def mtN : Mt → Str
  | .index => "index" | .count => "count" | .get => "get" | .join => "join" | .split => "split" | .upper => "upper" | .replace => "replace" | .find => "find" | .rev => "reverse"
theorem SE.mt {m : Md} {a : Expr} {es : List Expr} {fa : Env → R D} {f : Env → R (List D)} {e' : Expr} {ty : D → Bool} {T : String} {r : V → List V → Hp → VK → Prop} {k : D → List D → R D}
    (ha : SE X W cl o m a fa) (hs : SA X W cl o es f) (hpe : ∀ {ta t}, PE X a ta → PA X es t → PE X e' (tBM X.K T r ta t)) (hty : ∀ S H x dx, Rt X.K S H x dx → ty dx = true → tyV X.K T x H)
    (hk : ∀ S H x vs dx ds (Q : VK), SD S H → Rt X.K S H x dx → RpA X.K S H vs ds → VOk X.K .sh S H (k dx ds) Q → r x vs H Q) (hne : ∀ dx ds c p, k dx ds ≠ .err c p) :
    SE X W cl o .sh e' (fun ρ => (fa ρ).bind fun x => .when (ty x) ((f ρ).bind fun ds => k x ds)) := by
  obtain ⟨ta, pa, qa⟩ := ha.ex
  obtain ⟨t, ps, q⟩ := hs.ex
  refine ⟨_, pe_sz (hpe pa ps), fun S H σ ρ Q z sd st p => ?_⟩
  refine SE.then (X := X) (W := W) (cl := cl) (o := o) qa z sd st p fun dx x S1 H1 g1 z1 sd1 st1 r1 p1 => ?_
  cases hd : ty dx with
  | false => rw [hd] at p1; exact False.elim p1
  | true =>
    rw [hd] at p1
    refine ⟨hty S1 H1 x dx (Res.rt r1) hd, ?_⟩
    have p1 : Pst X.K W cl σ S H _ ((f ρ).bind fun ds => k dx ds) Q := p1
    refine q S1 H1 σ ρ _ z1 sd1 st1 ((Pst.rebase g1 (fun _ _ _ _ h => h) p1).bind fun ds vs S2 H2 _ g2 z2 r2 p2 => ?_)
    exact hk S2 H2 x vs dx ds _ g2.sd ((Res.rt r1).gr g2 sd1) r2 (VOk.of (m := .sh) (hne dx ds) g2 p2)
theorem mt_ne (m : Mt) (dx : D) (ds : List D) (c : Nat) (p : D) : mtD m dx ds ≠ .err c p := by
  intro h
  unfold mtD at h
  (repeat' (split at h)) <;> first | (cases h; done) | (unfold R.when at h; (repeat' (split at h)) <;> cases h)
theorem se_index {m : Md} {a e : Expr} {fa : Env → R D} {f : Env → R (List D)} {apos cpos : Pos} (hu : X.A.units + 104 < cLine) (ha : SE X W cl o m a fa) (hs : SA X W cl o [e] f)
    (hbase : attributeBase a "index" X.env (eval a X.env) = eval a X.env) (hfew : ((backTo cpos (starEach [e] X.env)).all (fun x => !x.1) && (backToKw cpos (keywordEach [] X.env)).all (fun x => x.1.isSome)
      && decide ([e].length + ([] : List Keyword).length + (if ([] : List Keyword).isEmpty then 0 else 1) < 30)) = true)
    (hline : (apos.endLine == cpos.line) = true) (h1 : starEach [e] X.env = (false, eval e X.env) :: starEach [] X.env) (hpl : (backTo cpos (starEach [] X.env)).any (·.1) = false) :
    SE X W cl o .sh (.Call (.Attribute a "index" apos) [e] [] cpos) (fun ρ => (fa ρ).bind fun x => .when (mtTy .index x) ((f ρ).bind fun ds => mtD .index x ds)) :=
  ha.mt (T := "list") hs (fun pa ps => pe_bm PySem.F.plainAttrs_list PySem.F.slot_list_index PySem.F.type_list_index (mt_indexD (by omega)) pa ps hbase hfew hline h1 hpl)
    (fun S H x dx rx h => by
      cases dx with
      | lst ds =>
        obtain ⟨a, xs, rfl, ha, _⟩ := rx.lst
        exact .inl ⟨rfl, xs, .inl (.inl ha)⟩
      | _ => cases h) (fun S H x vs dx ds Q sd rx r q => hk_index sd rx r q) (mt_ne _)
theorem se_get {m : Md} {a e : Expr} {es : List Expr} {fa : Env → R D} {f : Env → R (List D)} {apos cpos : Pos} (hu : X.A.units + 104 < cLine) (ha : SE X W cl o m a fa) (hs : SA X W cl o (e :: es) f)
    (hbase : attributeBase a "get" X.env (eval a X.env) = eval a X.env) (hfew : ((backTo cpos (starEach (e :: es) X.env)).all (fun x => !x.1) && (backToKw cpos (keywordEach [] X.env)).all (fun x => x.1.isSome)
      && decide ((e :: es).length + ([] : List Keyword).length + (if ([] : List Keyword).isEmpty then 0 else 1) < 30)) = true)
    (hline : (apos.endLine == cpos.line) = true) (h1 : starEach (e :: es) X.env = (false, eval e X.env) :: starEach es X.env) (hpl : (backTo cpos (starEach es X.env)).any (·.1) = false) :
    SE X W cl o .sh (.Call (.Attribute a "get" apos) (e :: es) [] cpos) (fun ρ => (fa ρ).bind fun x => .when (mtTy .get x) ((f ρ).bind fun ds => mtD .get x ds)) :=
  ha.mt (T := "dict") hs (fun pa ps => pe_bm PySem.F.plainAttrs_dict PySem.F.slot_dict_get PySem.F.type_dict_get (mt_getQ (by omega)) pa ps hbase hfew hline h1 hpl)
    (fun S H x dx rx h => by
      cases dx with
      | dk ds =>
        obtain ⟨a, xs, rfl, ha, _⟩ := rx.dk
        exact .inr (.inr (.inl ⟨rfl, .inl ⟨xs, ha⟩⟩))
      | dt ds =>
        obtain ⟨a, xs, rfl, ha, _⟩ := rx.dt
        exact .inr (.inr (.inl ⟨rfl, .inr ⟨xs, ha⟩⟩))
      | _ => cases h) (fun S H x vs dx ds Q sd rx r q => hk_get sd rx r q) (mt_ne _)

/-! ### calls of defs -/
def mdF (fresh : Bool) : Md := if fresh then .fr else .sh
/-- what a def promises -/
def spF (K : Fg) (cl : Nat → Value) (np : Nat) (fresh : Bool) (g : List D → R D) : Sp := fun vs H Q E => vs.length = np ∧ ∃ S ds, SD S H ∧ RpA K S H vs ds ∧ Pst K (fun c d _ H => E c d H) cl [] S H (fun S' H' v d => Res K H S' H' (mdF fresh) v d) (g ds) Q
theorem se_call {e : Expr} {es : List Expr} {f' : Env → R (List D)} {k np : Nat} {f : Addr} {fd : FuncData} {ps : List Str} {fresh : Bool} {g : List D → R D} {x : Str} {p pos : Pos}
    (F : FnOk X.prog X.w X.K X.mg X.base (L2.CX X.prog X.w) k f fd ps (spF X.K cl np fresh g)) (hlen : ∀ ds, g ds ≠ .bad → ds.length = np) (hr : Room k X.A) (hg : Gl X x) (hm : X.mg x = some (.ref f)) (hk : PySem.W.keepIn X.K (.ref f) = true)
    (hb : Binds X.K fd ps []) (tk : Takes X W) (h : SA X W cl o (e :: es) f') (hdb : (x == ("__debug__" : Str)) = false) (he : starEach (e :: es) X.env = (false, eval e X.env) :: starEach es X.env) (hpl : (backTo pos (starEach es X.env)).any (·.1) = false) :
    SE X W cl o (mdF fresh) (.Call (.Name x p) (e :: es) [] pos) (fun ρ => (f' ρ).bind g) := by
  obtain ⟨t, pa, q⟩ := h.ex
  refine ⟨_, pe_callS (E := WE W) F hr hg hm hk hb (passAt tk) pa hdb he hpl, fun S H σ ρ Q z sd st p => ?_⟩
  refine q S H σ ρ _ z sd st (p.bind fun ds vs S1 H1 _ g1 z1 r1 p1 => ?_)
  have hb' : g ds ≠ .bad := fun e => by rw [e] at p1; exact p1
  refine ⟨by rw [r1.len]; exact hlen ds hb', S1, ds, g1.sd, r1, ?_⟩
  have p2 := Pst.rebase (RG' := fun S' H' v d => Res X.K H1 S' H' (mdF fresh) v d) g1 (fun S' H' b a h => Res.back g1 h) p1
  cases hg' : g ds with
  | ok d => rw [hg'] at p2; exact p2
  | err c p' => rw [hg'] at p2; exact p2
  | bad => exact absurd hg' hb'
theorem se_call0 {k np : Nat} {f : Addr} {fd : FuncData} {ps : List Str} {fresh : Bool} {g : List D → R D} {x : Str} {p pos : Pos}
    (F : FnOk X.prog X.w X.K X.mg X.base (L2.CX X.prog X.w) k f fd ps (spF X.K cl np fresh g)) (hlen : ∀ ds, g ds ≠ .bad → ds.length = np) (hr : Room k X.A) (hg : Gl X x) (hm : X.mg x = some (.ref f)) (hk : PySem.W.keepIn X.K (.ref f) = true)
    (hb : Binds X.K fd ps []) (tk : Takes X W) (hdb : (x == ("__debug__" : Str)) = false) :
    SE X W cl o (mdF fresh) (.Call (.Name x p) [] [] pos) (fun _ => g []) := by
  have pe : PE X (.Call (.Name x p) [] [] pos) (fun σ H Q => spF X.K cl np fresh g [] H Q (WE W σ)) := ⟨fun pins s σ H Q I h => by
    refine wpAny_Call_Name_kw (ld_glob I hg hm ?_ hdb)
    exact PySem.W.callWith_K0 I.kIn hk (run_fnS (us := []) F hr hb (passAt tk σ) I .nil h)⟩
  refine ⟨_, pe_sz pe, fun S H σ ρ Q z sd st p => ?_⟩
  have hb' : g [] ≠ .bad := fun e => by rw [e] at p; exact p
  refine ⟨hlen [] hb', S, [], sd, by simp only [RpA], ?_⟩
  cases hg' : g [] with
  | ok d => rw [hg'] at p; exact fun b S' H' g' z' r _ => p b S' H' g' z' r
  | err c p' => rw [hg'] at p; exact p
  | bad => exact absurd hg' hb'
end
end PP
/-! t[::-1] of a tuple. -/
namespace PP
open PySem PySem.Spec PyProof.Rows HT
section
variable {prog : Program} {w : World} {A : Around} {E : Value → Shared → Prop} {s : Shared}
theorem adjust_rev (n : Nat) : Builtin.Slice.sliceAdjust none none (-1) (n : Int) = ((n : Int) - 1, -1) := by
  unfold Builtin.Slice.sliceAdjust
  simp
theorem places_rev (n : Nat) : Builtin.Slice.slicePlaces ((n : Int) - 1) (-1) (-1) = n := by
  unfold Builtin.Slice.slicePlaces
  simp
  split <;> omega
theorem pick_rev (xs : Array Value) : ((List.range xs.size).filterMap fun (m : Nat) => xs[(((xs.size : Int) - 1) + (m : Int) * (-1)).toNat]?).toArray = xs.toList.reverse.toArray := by
  have e : ((List.range xs.size).filterMap fun (m : Nat) => xs[(((xs.size : Int) - 1) + (m : Int) * (-1)).toNat]?) = ((List.range xs.size).map fun k => xs.size - 1 - k).filterMap (xs[·]?) := by
    have gen : ∀ l : List Nat, (∀ m ∈ l, m < xs.size) → (l.filterMap fun (m : Nat) => xs[(((xs.size : Int) - 1) + (m : Int) * (-1)).toNat]?) = (l.map fun k => xs.size - 1 - k).filterMap (xs[·]?) := fun l => by
      induction l with
      | nil => intro _; rfl
      | cons m l ih =>
        intro hm
        have h1 := hm m List.mem_cons_self
        have e2 : (((xs.size : Int) - 1) + (m : Int) * (-1)).toNat = xs.size - 1 - m := by omega
        rw [List.map_cons, List.filterMap_cons, List.filterMap_cons, ih fun k hk => hm k (List.mem_cons_of_mem _ hk), e2]
    exact gen _ fun m hm => List.mem_range.mp hm
  rw [e, PySem.W.krv_range, List.filterMap_reverse, PySem.W.krv_all]
theorem getItem_tuple_rev {t sl : Addr} {items : Array Value} {vl vu vs : Value} {Q : Value → Shared → Prop} (ht : IsTup s.heap t items) (hs : s.heap.IsSliceOf sl vl vu vs) (pl : IsPart vl none) (pu : IsPart vu none) (ps : IsPart vs (some (-1)))
    (h : Q (.ref s.heap.objs.size) { s with heap := s.heap.push { cls := .type "tuple", data := .seq items.toList.reverse.toArray } })
    (hsz : items.size ≤ sizeLine) : wpAny (model prog w) A (getItem (.ref t) (.ref sl)) Q E s := by
  have htake : sizeOk (.seq items.toList.reverse.toArray) := by
    show items.toList.reverse.toArray.size ≤ sizeLine
    simpa using hsz
  obtain ⟨os, hos, hcs, hds⟩ := id hs
  have hTs : s.TypeIs (.ref sl) "slice" := ⟨os, hos, hcs⟩
  unfold getItem
  try with_reducible refine wpAny_holding ?_
  first | refine wpAny_bind (wpAny_pure ?_) | skip
  refine wpAny_bind (wpAny_sequenceKey ht.typeIs (by decide) ?_)
  refine wpAny_bind (wpAny_callSpecial?_slot (name := Str.ofString "__getitem__") ht.typeIs PyProof.Rows.slot_tuple_getitem
    (wpAny_call_entry PyProof.Rows.slot_tuple_getitem ht.typeIs entry_tuple_getitem ?_ (args_tuple_getitem _ _)))
  show wpAny _ _ (Builtin.Tuple.tupleItemsOf (.ref t) >>= _) _ _ s
  refine wpAny_bind (tupleItemsOf_ ht ?_)
  refine wpAny_bind (wpAny_typeOf hTs ?_)
  rw [if_pos (by decide)]
  have hsa : ∀ {A : Around} {E : Value → Shared → Prop} {Q : Int × Int × Nat → Shared → Prop}, Q (((items.size : Int) - 1), -1, items.size) s → wpAny (model prog w) A (Builtin.Slice.sliceApplied (.ref sl) (pure (items.size : Int))) Q E s := fun {A E Q} hq => by
    unfold Builtin.Slice.sliceApplied Builtin.Slice.sliceFields
    refine wpAny_bind (wpAny_bind (wpAny_field hos hds (x := vl) rfl (wpAny_bind (wpAny_field hos hds (x := vu) rfl (wpAny_bind (wpAny_field hos hds (x := vs) rfl (wpAny_pure ?_)))))))
    refine wpAny_bind (slicePart_ ps ?_)
    show wpAny _ _ (if ((-1 : Int) == 0) = true then _ else _) _ _ s
    rw [if_neg (by decide)]
    refine wpAny_bind (slicePart_ pl (wpAny_bind (slicePart_ pu (wpAny_bind (wpAny_pure ?_)))))
    show wpAny _ _ (match Builtin.Slice.sliceAdjust none none (-1) (items.size : Int) with | (lo, hi) => pure (lo, (-1 : Int), Builtin.Slice.slicePlaces lo hi (-1))) _ _ s
    rw [adjust_rev]
    show wpAny _ _ (pure (((items.size : Int) - 1), (-1 : Int), Builtin.Slice.slicePlaces ((items.size : Int) - 1) (-1) (-1))) _ _ s
    rw [places_rev]
    exact wpAny_pure hq
  refine wpAny_bind (hsa ?_)
  show wpAny _ _ (if (((items.size : Int) - 1) == 0 && (-1 : Int) == 1 && items.size == items.size) = true then _ else _) _ _ s
  rw [if_neg (by
    have : ((-1 : Int) == 1) = false := by decide
    rw [this]; simp), pick_rev]
  first
    | exact wpAny_bind (m := Builtin.Tuple.tupleExact _) (wpAny_newObj_type (wpAny_pure ⟨_, rfl, wpAny_pure h⟩) htake)
    | exact wpAny_bind (m := Builtin.Tuple.tupleExact _) (wpAny_newObj_type (wpAny_bind (wpAny_pure (wpAny_pure ⟨_, rfl, wpAny_pure h⟩))) htake)
    | exact wpAny_bind (wpAny_bind (m := Builtin.Tuple.tupleExact _) (wpAny_newObj_type (wpAny_pure (wpAny_pure ⟨_, rfl, wpAny_pure h⟩)) htake))
    | exact wpAny_bind (wpAny_bind (m := Builtin.Tuple.tupleExact _) (wpAny_newObj_type (wpAny_pure ⟨_, rfl, wpAny_pure h⟩) htake))
end
end PP
namespace PP
open PySem PySem.Spec L2
section
variable {X : Cx} {W : WX} {cl : Nat → Value} {o : List Bool}
def tRevT (K : Fg) (te : TE) : TE := fun σ H Q => te σ H fun x H1 => ∃ a xs, x = .ref a ∧ SqT K H1 a xs ∧ ∀ p, H1 p = none → Q (.ref p) (upd H1 p (.tup xs.reverse))
theorem pe_revT {e : Expr} {te : TE} {k : Nat} {p1 p2 p3 pos : Pos} (he : PE X e te) : PE X (.Subscript e (.Slice none none (some (.UnaryOp .USub (.Constant (.int 1) k p1) p2)) p3) pos) (tRevT X.K te) := by
  refine ⟨fun pins s σ H Q I h => ?_⟩
  refine PyProof.Rows.Subscript_ (thn (he.run pins s σ H _ I h) fun v s1 ⟨x, H1, I1, r1, q1⟩ => ?_)
  obtain ⟨a, xs, ex, hx, q⟩ := q1
  subst ex
  cases r1
  have hst : PO X (some (.UnaryOp .USub (.Constant (.int 1) k p1) p2)) (tPart (tUn (rU fun i => .int (-i)) (tC (.int 1)))) := po_some (pe_un un_neg pe_int)
  refine wpAny_Slice (thn (po_none.run pins s1 σ H1 (fun o H2 => o = none ∧ H2 = H1) I1 ⟨rfl, rfl⟩) fun vl s2 ⟨l, H2, I2, pl, el, e2⟩ => ?_)
  subst el e2
  refine thn (po_none.run pins s2 σ H2 (fun o H3 => o = none ∧ H3 = H2) I2 ⟨rfl, rfl⟩) fun vu s3 ⟨u, H3, I3, pu, eu, e3⟩ => ?_
  subst eu e3
  refine thn (hst.run pins s3 σ H3 (fun o H4 => o = some (-1) ∧ H4 = H3) I3 ⟨1, rfl, -1, rfl, rfl, rfl⟩) fun vs s4 ⟨o, H4, I4, ps, eo, e4⟩ => ?_
  subst eo e4
  have I5 : Inv X pins σ H4 { s4 with heap := s4.heap.push { cls := .type "slice", data := .fields #[vl, vu, vs] } } := I4.kept (t' := s4.toks) fun b ob q => Heap.get?_push_of_some _ q
  obtain ⟨its, r, ht, hz⟩ := I5.tuple hx
  have hlen := r.length
  show wpAny (model X.prog X.w) X.A (PyProof.Rows.subscriptTail e (.Slice none none (some (.UnaryOp .USub (.Constant (.int 1) k p1) p2)) p3) (.ref a) (.ref s4.heap.objs.size)) (EP X pins σ Q) X.xe { s4 with heap := s4.heap.push { cls := .type "slice", data := .fields #[vl, vu, vs] } }
  refine PyProof.Rows.tail_any (ops := [.ref a, .ref s4.heap.objs.size]) ht.typeIs (PyProof.Rows.slot_tuple_getitem.lookup) ?_ (by with_unfolding_all rfl)
  refine getItem_tuple_rev ht (Heap.IsSliceOf.new _ vl vu vs) pl pu ps ?_ (by rw [List.size_toArray]; omega)
  refine ⟨.ref _, _, I5.laid (t' := s4.toks) (o := .tup xs.reverse) (fun b ob q => Heap.get?_push_of_some _ q) (Nat.le_refl _) ?_, rfl, q _ (I5.hok.fresh (Nat.le_refl _))⟩
  exact ⟨by rw [List.length_reverse]; exact hz, _, r.reverse, PyProof.Rows.IsTup.new _ _⟩
theorem se_rev {m : Md} {a : Expr} {fa : Env → R D} {j : Nat} {p1 p2 p3 pos : Pos} (ha : SE X W cl o m a fa) : SE X W cl o .fr (.Subscript a (.Slice none none (some (.UnaryOp .USub (.Constant (.int 1) j p1) p2)) p3) pos) (fun ρ => (fa ρ).bind revD) := by
  obtain ⟨t, pa, q⟩ := ha.ex
  have P1 := pe_revL (k := j) (p1 := p1) (p2 := p2) (p3 := p3) (pos := pos) pa
  have P2 := pe_revT (k := j) (p1 := p1) (p2 := p2) (p3 := p3) (pos := pos) pa
  refine ⟨_, pe_sz (t := fun σ H Q => tRevL X.K t σ H Q ∨ tRevT X.K t σ H Q) ⟨fun pins s σ H Q I h => h.elim (P1.run pins s σ H Q I) (P2.run pins s σ H Q I)⟩, fun S H σ ρ Q z sd st p => ?_⟩
  cases e1 : fa ρ with
  | err c p' =>
    refine .inl (q S H σ ρ _ z sd st ?_)
    rw [e1] at p ⊢
    exact p
  | bad => rw [e1] at p; exact False.elim p
  | ok d =>
    rw [e1] at p
    have p : Pst X.K W cl σ S H (fun S' H' v d => Res X.K H S' H' .fr v d) (revD d) Q := p
    cases d with
    | lst ds =>
      refine .inl (q S H σ ρ _ z sd st ?_)
      rw [e1]
      intro v S1 H1 g1 z1 r1
      obtain ⟨a, xs, rfl, ha, r⟩ := (Res.rt r1).lst
      exact ⟨a, xs, rfl, .inl (.inl ha), VOk.lst g1.sd (Q := fun v H' => HSz X.K H' → Q v H') (fun v S' H' g' r' z' => p v S' H' (g1.trans g') z' (Res.back g1 r')) r.rev⟩
    | fl ds =>
      refine .inl (q S H σ ρ _ z sd st ?_)
      rw [e1]
      intro v S1 H1 g1 z1 r1
      obtain ⟨a, xs, rfl, ha, r⟩ := (Res.rt r1).fl
      exact ⟨a, xs, rfl, ha.sq, VOk.lst g1.sd (Q := fun v H' => HSz X.K H' → Q v H') (fun v S' H' g' r' z' => p v S' H' (g1.trans g') z' (Res.back g1 r')) r.rev⟩
    | tup ds =>
      refine .inr (q S H σ ρ _ z sd st ?_)
      rw [e1]
      intro v S1 H1 g1 z1 r1
      obtain ⟨a, xs, rfl, ha, r⟩ := (Res.rt r1).tup
      exact ⟨a, xs, rfl, ha, VOk.tup (m := .fr) g1.sd (Q := fun v H' => HSz X.K H' → Q v H') (fun v S' H' g' r' z' => p v S' H' (g1.trans g') z' (Res.back g1 r')) r.rev⟩
    | _ => exact False.elim p
end
end PP
/-! sorted(..) of lists of data, the empty tuple among them. -/
namespace PP
open PySem PySem.Spec PyProof.Rows PySem.W PySem.SeqAt

section
variable {prog : Program} {w : World} {A : Around} {E : Value → Shared → Prop} {s : Shared}
theorem oneLt_tuple {f : Bool} {xs ys : List PyData} {a b : Value} {as bs : List Addr} {Q : Bool → Shared → Prop} (ra : Reads s.heap a (.tuple xs) as) (rb : Reads s.heap b (.tuple ys) bs) (h : alike (.tuple xs) (.tuple ys) = true)
    (hu : A.units + min (PyData.tuple xs).depth (PyData.tuple ys).depth < cLine) (hq : Q (dataLt (.tuple xs) (.tuple ys)) s) : wpAny (model prog w) A (oneLt' f a b) Q E s := by
  cases f with
  | false => exact oneLt_alike (f := false) (fun z => by cases z) ra rb h (fun z => by cases z) hu hq
  | true =>
    have hal : alikeAll xs ys = true := by simpa [alike] using h
    cases ra with
    | @tuple l o vs n _ as₁ h1 h2 h3 h4 =>
      cases rb with
      | @tuple l' o' vs' n' _ bs₁ k1 k2 k3 k4 =>
        have n1 : vs.size = xs.length := by simpa using SeqAt.ReadsAll.length _ _ _ h4
        have n2 : vs'.size = ys.length := by simpa using SeqAt.ReadsAll.length _ _ _ k4
        rw [dataLt_tuple, ← firstLt_toks xs ys hal, ← n1, ← n2] at hq
        rw [oneLt'_eq]
        simp only [if_true]
        refine wpAny_bind (wpAny_cRoomFor (SeqAt.room_here hu) ?_)
        obtain ⟨cls, dd, data, sl⟩ := o
        obtain ⟨cls2, dd2, data2, sl2⟩ := o'
        simp only at h2 h3 k2 k3
        subst h2 h3 k2 k3
        refine wpAny_bind (wpAny_callSpecialIfBound?_slot (T := "tuple") ⟨_, h1, rfl⟩ PySem.F.slot_tuple_lt (call_meets PySem.F.slot_tuple_lt ⟨_, h1, rfl⟩ PySem.F.entry_tuple_lt (PySem.F.args_tuple_lt_2 _ _)
          (PySem.SeqAt.tuple_ltAt l l' vs vs' n n' dd dd2 sl sl2 (pairEq xs ys) (fun j => dataLt (xs.getD j .none) (ys.getD j .none))) ⟨h1, k1, fun j j1 j2 => ?_, fun j j1 j2 hj => ?_, ?_⟩))
        · have := eqAt_alikeAll xs ys A.in1 s vs.toList vs'.toList _ _ h4 k4 hal (SeqAt.room_in hu) j (by simpa using j1) (by simpa using j2)
          simpa using this
        · have := rcLt_alikeAll xs ys A.in1 s vs.toList vs'.toList _ _ h4 k4 hal (SeqAt.room_in hu) j (by simpa using j1) (by simpa using j2) hj
          simpa using this
        · exact wpAny_truthy_bool hq
/-- the first item, of any tuple -/
theorem first_tuple {xs : List PyData} {v : Value} {as : List Addr} {Q : Option Value → Shared → Prop} {M : Model} (r : Reads s.heap v (.tuple xs) as) (h : ∀ o, (o = none ↔ xs = []) → Q o s) : wpAny M A (firstOfTuple' v) Q E s := by
  cases r with
  | @tuple a o vs n _ _ ho hc hd hr =>
    rw [kas_first_eq]
    refine wpAny_bind (Looks.here (show Looks M s.heap (typeOf (.ref a)) o.cls from (Looks.ld ho).andThen .now) ?_)
    rw [hc, if_neg (by first | decide | simp)]
    refine wpAny_bind (listItems_at ho hd (wpAny_pure (h _ ?_)))
    have hl : vs.size = xs.length := by simpa using SeqAt.ReadsAll.length _ _ _ hr
    constructor
    · intro e
      have : vs.size = 0 := by
        rcases Nat.eq_zero_or_pos vs.size with q | q
        · exact q
        · rw [Array.getElem?_eq_getElem q] at e; cases e
      rw [hl] at this
      exact List.length_eq_zero_iff.mp this
    · intro e
      subst e
      rw [Array.getElem?_eq_none (by rw [hl]; exact Nat.le_refl _)]
theorem firsts_any {M : Model} : ∀ {vs : List Value} {ds : List PyData} {Q : List (Option Value) → Shared → Prop}, EachIs (fun v d => ∃ as, Reads s.heap v d as) vs ds → (∀ d ∈ ds, ∃ xs, d = .tuple xs) →
    (∀ os : List (Option Value), os.length = ds.length → (∀ (i : Nat) o d, os[i]? = some o → ds[i]? = some d → (o = none ↔ d = .tuple [])) → Q os s) → wpAny M A (vs.mapM firstOfTuple') Q E s
  | _, _, Q, .nil, _, h => by rw [List.mapM_nil]; exact wpAny_pure (h [] rfl fun i o d e => by simp at e)
  | _, _, Q, .cons (b := d) (bs := ds) ⟨as, r⟩ t, ht, h => by
    obtain ⟨xs, rfl⟩ := ht d (List.mem_cons_self ..)
    rw [List.mapM_cons]
    refine wpAny_bind (first_tuple r fun o ho => ?_)
    refine wpAny_bind (firsts_any (Q := fun bs s' => wpAny M A (pure (o :: bs)) Q E s') t (fun d hd => ht d (List.mem_cons_of_mem _ hd)) fun os hl hos => wpAny_pure (h _ (by simp [hl]) fun i o' d' e1 e2 => ?_))
    cases i with
    | zero =>
      simp at e1 e2
      subst e1; subst e2
      rw [ho]
      simp
    | succ i => exact hos i o' d' (by simpa using e1) (by simpa using e2)
def isE : PyData → Bool
  | .tuple [] => true
  | _ => false
theorem isE_no {d : PyData} (h : ¬ d = .tuple []) : isE d = false := by
  unfold isE
  split
  · exact absurd rfl h
  · rfl
/-- tuples, an empty one among them -/
theorem sortsAt_tups {vs : List Value} {ds : List PyData} (e : EachIs (fun v d => ∃ as, Reads s.heap v d as) vs ds) (hal : AllAlike ds) (ht : ∀ d ∈ ds, ∃ xs, d = .tuple xs) (he : .tuple [] ∈ ds) (hu : ∀ d, d ∈ ds → A.units + d.depth < cLine) : SortsAt prog w A s (dataKind s.heap ds) vs := by
  have room : ∀ {d d' : PyData}, d ∈ ds → A.units + min d.depth d'.depth < cLine := fun {d d'} hd => Nat.lt_of_le_of_lt (Nat.add_le_add_left (Nat.min_le_left _ _) _) (hu d hd)
  have lt : ∀ f : Bool, H.LtAt prog w A s (dataKind s.heap ds) (if f then oneType' else general') := fun f => by
    intro E x y a b Q ha hb hq
    obtain ⟨d, as, hd, ra, rfl⟩ := dataKind_inv ha
    obtain ⟨d', as', hd', rb, rfl⟩ := dataKind_inv hb
    obtain ⟨xs, rfl⟩ := ht d hd
    obtain ⟨ys, rfl⟩ := ht d' hd'
    cases f with
    | true => exact oneLt_tuple (f := true) ra rb (hal _ hd _ hd') (room hd) hq
    | false => exact oneLt_tuple (f := false) ra rb (hal _ hd _ hd') (room hd) hq
  have hlen : vs.length = ds.length := e.length
  refine ⟨fun v hv => ?_, ?_⟩
  · obtain ⟨d, hd, as, r⟩ := e.left v hv
    exact ⟨_, dataKind_some hal hd r⟩
  · have hne : ∃ d0 r, ds = d0 :: r := by
      cases ds with
      | nil => cases he
      | cons d0 r => exact ⟨d0, r, rfl⟩
    obtain ⟨d0, r0, hds⟩ := hne
    refine ⟨if isE d0 then oneType' else general', lt _, fun h2 E Q hq => ?_⟩
    rw [kat_kind_eq, List.mapM_toArray, map_eq_pure_bind]
    refine wpAny_bind (wpAny_bind (firsts_any e ht fun os hl hos => wpAny_pure ?_))
    obtain ⟨i, hi⟩ := List.mem_iff_getElem?.mp he
    have hio : os[i]? = some none := by
      have hlt : i < os.length := by rw [hl]; exact (List.getElem?_eq_some_iff.mp hi).1
      have := (hos i os[i] _ (List.getElem?_eq_getElem hlt) hi).mpr rfl
      rw [List.getElem?_eq_getElem hlt, this]
    have hnall : ¬ (os.toArray.all fun x => x.isSome) = true := by
      simp only [List.all_toArray, List.all_eq_true, Classical.not_forall]
      exact ⟨none, List.mem_of_getElem? hio, by simp⟩
    rw [if_neg hnall]
    have h0 : ∃ o0, os[0]? = some o0 := by
      have : 0 < os.length := by rw [hl, hds]; simp
      exact ⟨os[0], List.getElem?_eq_getElem this⟩
    obtain ⟨o0, h0⟩ := h0
    have h0' : o0 = none ↔ d0 = .tuple [] := hos 0 o0 d0 h0 (by rw [hds]; rfl)
    have e0 : (os.toArray[0]?.bind id).isSome = o0.isSome := by
      rw [List.getElem?_toArray, h0]; rfl
    rw [e0]
    cases o0 with
    | some f =>
      rw [if_pos (show (some f).isSome = true from rfl)]
      have : ¬ d0 = .tuple [] := fun z => by have := h0'.mpr z; cases this
      rw [isE_no this] at hq
      exact wpAny_pure hq
    | none =>
      rw [if_neg (by simp)]
      rw [h0'.mp rfl] at hq
      rw [oneTypeOnly'_eq, List.mapM_toArray, map_eq_pure_bind]
      refine wpAny_bind (wpAny_bind (wpAny_bind (kas_mapM (r := Value.type "tuple") _ (fun v hv Q' hq => ?_) (wpAny_pure ?_))))
      · obtain ⟨d, hd, as, rr⟩ := e.left v hv
        obtain ⟨xs, rfl⟩ := ht d hd
        exact (looks_reads rr).here hq
      · obtain ⟨v1, vr, rfl⟩ : ∃ v1 vr, vs = v1 :: vr := by
          match vs, h2 with
          | v1 :: vr, _ => exact ⟨v1, vr, rfl⟩
        have hall : ((List.map (fun _ => Value.type "tuple") (v1 :: vr)).toArray.all fun x => x == Value.type "tuple") = true := by
          simp only [List.all_toArray, List.all_map, List.all_eq_true]
          intro _ _
          show (Value.type "tuple" == Value.type "tuple") = true
          decide
        have hq0 : (List.map (fun _ => Value.type "tuple") (v1 :: vr)).toArray[0]? = some (Value.type "tuple") := by simp
        rw [hq0]
        simp only [hall, if_true]
        exact wpAny_pure (wpAny_pure hq)
end
end PP
/-! sorted(..). -/
namespace PP
open PySem PySem.Spec L2

section
variable {X : Cx} {W : WX} {cl : Nat → Value} {o : List Bool}
theorem each_zip {K : Fg} {S : Sh} {H : Hp} : ∀ {xs : List V} {us : List Value} {ds : List D}, Vals xs us → RpA K S H xs ds → PySem.W.EachIs (fun u (p : V × D) => RelV p.1 u ∧ Rp K S H p.1 p.2) us (xs.zip ds)
  | [], _, [], .nil, _ => .nil
  | [], _, _ :: _, _, r => by simp only [RpA] at r
  | _ :: _, _, [], _, r => by simp only [RpA] at r
  | x :: xs, _, d :: ds, .cons h t, r => by
    simp only [RpA] at r
    exact .cons ⟨h, r.1⟩ (each_zip t r.2)
theorem each_back {K : Fg} {S : Sh} {H : Hp} : ∀ {us : List Value} {ps : List (V × D)}, PySem.W.EachIs (fun u (p : V × D) => RelV p.1 u ∧ Rp K S H p.1 p.2) us ps → Vals (ps.map (·.1)) us ∧ RpA K S H (ps.map (·.1)) (ps.map (·.2))
  | _, _, .nil => ⟨.nil, by simp only [List.map_nil, RpA]⟩
  | _, _, .cons h t => by
    obtain ⟨h1, h2⟩ := each_back t
    exact ⟨.cons h.1 h1, by simp only [List.map_cons, RpA]; exact ⟨h.2, h2⟩⟩
theorem zip_snd {K : Fg} {S : Sh} {H : Hp} : ∀ {xs : List V} {ds : List D}, RpA K S H xs ds → (xs.zip ds).map (·.2) = ds
  | [], [], _ => rfl
  | [], _ :: _, r => by simp only [RpA] at r
  | _ :: _, [], r => by simp only [RpA] at r
  | x :: xs, d :: ds, r => by
    simp only [RpA] at r
    simp only [List.zip_cons_cons, List.map_cons, zip_snd r.2]
theorem nd_mem {xs : List D} {d : D} (h : D.nd.ndA xs = true) (m : d ∈ xs) : d.nd = true := by
  obtain ⟨i, hi⟩ := List.mem_iff_getElem?.mp m
  exact nd_get h hi
theorem dep_le {xs : List D} {d : D} (m : d ∈ xs) : d.dep ≤ D.dep.depA xs := by
  induction xs with
  | nil => cases m
  | cons x xs ih =>
    rcases List.mem_cons.mp m with rfl | m
    · exact Nat.le_max_left _ _
    · exact Nat.le_trans (ih m) (Nat.le_max_right _ _)
theorem sort_facts {pins : List (Addr × Obj)} {σ : L2.St} {H : Hp} {s s' : Shared} {S : Sh} {xs : List V} {us : List Value} {ds : List D} {A : Around} (I : Inv X pins σ H s) (rv : Vals xs us) (r : RpA X.K S H xs ds) (ok : sortOk ds = true)
    (keep : ∀ b q, s.heap.get? b = some q → s'.heap.get? b = some q) (hu : A.units + 60 < cLine) :
    PySem.W.SortsAt X.prog X.w A s' (PySem.W.dataKind s'.heap (ds.map D.py)) us ∧ ∃ ys, RpA X.K S H ys (sortD ds) ∧ Vals ys (PySem.W.sortVals (PySem.W.dataKind s'.heap (ds.map D.py)) false us us) := by
  simp only [sortOk, Bool.and_eq_true, decide_eq_true_eq, List.all_eq_true] at ok
  obtain ⟨⟨⟨h1, h2⟩, h3⟩, h4⟩ := ok
  have ez := each_zip rv r
  have hpy : (xs.zip ds).map (fun p => D.py p.2) = ds.map D.py := by
    rw [← zip_snd r, List.map_map]
    rw [zip_snd r]; rfl
  have er : PySem.W.EachIs (fun u (p : V × D) => ∃ as, Reads s'.heap u (D.py p.2) as) us (xs.zip ds) := by
    refine (PySem.W.each_mem ez).mono fun u p ⟨⟨q1, q2⟩, hm⟩ => ?_
    have hd : p.2 ∈ ds := by
      rw [← zip_snd r]
      exact List.mem_map.mpr ⟨p, hm, rfl⟩
    obtain ⟨dp, _⟩ := Rp.dp _ _ q2 (nd_mem h1 hd)
    obtain ⟨as, rd⟩ := Dp.reads I p.2.py p.1 u dp q1
    exact ⟨as, PyProof.Rows.Reads.keeps keep rd⟩
  have hal : PySem.W.AllAlike ((xs.zip ds).map fun p => D.py p.2) := by
    rw [hpy]
    intro d hd d' hd'
    obtain ⟨x, hx, rfl⟩ := List.mem_map.mp hd
    obtain ⟨y, hy, rfl⟩ := List.mem_map.mp hd'
    exact h3 x hx y hy
  have hdep : ∀ d ∈ ds.map D.py, A.units + d.depth < cLine := by
    intro d hd
    obtain ⟨x, hx, rfl⟩ := List.mem_map.mp hd
    rw [py_depth x (nd_mem h1 hx)]
    have := dep_le hx
    omega
  refine ⟨?_, ?_⟩
  · have e : PySem.W.EachIs (fun v d => ∃ as, Reads s'.heap v d as) us (ds.map D.py) := by
      rw [← hpy]
      exact PySem.W.each_map (R := fun v d => ∃ as, Reads s'.heap v d as) (fun p : V × D => D.py p.2) er
    rw [hpy] at hal
    simp only [Bool.or_eq_true, List.all_eq_true, Bool.and_eq_true, Bool.not_eq_true'] at h4
    rcases h4 with h4 | h4
    · have ht : ∀ d ∈ ds.map D.py, ∃ xs, d = .tuple xs := by
        intro d hd
        obtain ⟨x, hx, rfl⟩ := List.mem_map.mp hd
        have := h4 x hx
        cases x with
        | tup zs => exact ⟨_, rfl⟩
        | _ => cases this
      by_cases he : PyData.tuple [] ∈ ds.map D.py
      · exact sortsAt_tups e hal ht he hdep
      · refine PySem.W.SortsAt.data e hal (.inl fun d hd => ?_) hdep
        obtain ⟨zs, rfl⟩ := ht d hd
        cases zs with
        | nil => exact absurd hd he
        | cons z zs => exact ⟨z, zs, rfl⟩
    · refine PySem.W.SortsAt.data e hal (.inr fun d hd => ?_) hdep
      obtain ⟨x, hx, rfl⟩ := List.mem_map.mp hd
      obtain ⟨q1, q2⟩ := h4 x hx
      cases x with
      | tup zs => cases q1
      | non => cases q2
      | dk _ => exact absurd (nd_mem h1 hx) (by simp [D.nd])
      | dt _ => exact absurd (nd_mem h1 hx) (by simp [D.nd])
      | _ => exact ⟨(fun z => by simp only [D.py] at z; cases z), (fun _ z => by simp only [D.py] at z; cases z)⟩
  · have out := PySem.W.sortVals_data (h' := s'.heap) (enc := fun p : V × D => D.py p.2) false ez er hal
    rw [hpy] at out
    obtain ⟨b1, b2⟩ := each_back out
    refine ⟨_, ?_, b1⟩
    have e : ((xs.zip ds).mergeSort (PySem.W.dataLe false fun p : V × D => D.py p.2)).map (·.2) = sortD ds := by
      unfold sortD
      conv => rhs; rw [← zip_snd r]
      exact List.map_mergeSort fun _ _ _ _ => rfl
    rw [e] at b2
    exact b2
/-- sorted(a list) -/
def rSortL (X : Cx) : List V → Hp → VK → Prop := fun vs H Q => ∃ (a : Addr) (xs : List V) (ds : List D) (S : Sh), vs = [.ref a] ∧ SqL X.K H a xs ∧ RpA X.K S H xs ds ∧ sortOk ds = true ∧ ∀ ys p, RpA X.K S H ys (sortD ds) → H p = none → Q (.ref p) (upd H p (.lst ys))
theorem cr_sortL (hu : X.A.units + 104 < cLine) : CallR X (.builtin "sorted") (rSortL X) := by
  intro pins s σ H vs us Q I r h
  obtain ⟨a, xs, ds, S, rfl, hs, rr, ok, q⟩ := h
  obtain ⟨its, rv, hl, hz⟩ := I.list hs
  rw [Vals.ref1 r]
  obtain ⟨S1, ys, ry, vy⟩ := sort_facts (s' := { s with heap := PySem.W.sortingHeap (PySem.W.copyHeap s.heap its) (s.heap.objs.size + 1) its }) (A := X.A.in1.in1) I rv rr ok (fun b q e => PySem.W.sorting_copy_old e) (by show X.A.units + 1 + 1 + 60 < cLine; omega)
  have hlen := rv.length
  refine PySem.W.sorted_vals hl.isList S1 (by omega) ?_
  obtain ⟨ep, he'⟩ := PyProof.Rows.sortedAll_at s.heap its (PySem.W.sortVals (PySem.W.dataKind (PySem.W.sortingHeap (PySem.W.copyHeap s.heap its) (s.heap.objs.size + 1) its) (ds.map D.py)) false its its).toArray
  have hyl : ys.length ≤ sizeLine := by
    rw [ry.len]
    unfold sortD
    rw [List.length_mergeSort, ← rr.len]
    exact hz
  exact ⟨.ref _, upd H (s.heap.objs.size + 1) (.lst ys), I.laid (t' := s.toks) (fun _ _ => PyProof.Rows.sortedAll_old) (Nat.le_succ _) ⟨hyl, _, ep, vy, he'⟩, rfl, q _ _ ry (I.hok.fresh (Nat.le_succ _))⟩
/-- sorted(a dict): its keys -/
def rSortK (X : Cx) : List V → Hp → VK → Prop := fun vs H Q => ∃ (a : Addr) (S : Sh) (ds : List D), vs = [.ref a] ∧ sortOk ds = true ∧ ((∃ kvs kds, H a = some (.dK kvs) ∧ RpD X.K S H kvs kds ∧ ds = kds.map fun p => keyD p.1) ∨ ∃ kvs kds, H a = some (.dT kvs) ∧ RpT X.K S H kvs kds ∧ ds = kds.map fun p => .tup (p.1.map keyD)) ∧
  ∀ ys p, RpA X.K S H ys (sortD ds) → H p = none → Q (.ref p) (upd H p (.lst ys))
theorem keyRp {K : Fg} {S : Sh} {H : Hp} {k : Key} (h : kOk k = true) : Rp K S H (kV k) (keyD k) := by
  cases k with
  | inl i => simp only [keyD, Rp]; rfl
  | inr x => simp only [keyD, Rp]; exact ⟨rfl, h⟩
theorem keysRp {K : Fg} {S : Sh} {H : Hp} : ∀ {ks : List Key}, ks.all kOk = true → RpA K S H (ks.map kV) (ks.map keyD)
  | [], _ => by simp only [List.map_nil, RpA]
  | k :: ks, h => by
    simp only [List.all_cons, Bool.and_eq_true] at h
    simp only [List.map_cons, RpA]
    exact ⟨keyRp h.1, keysRp h.2⟩
theorem keysD {K : Fg} {S : Sh} {H : Hp} : ∀ {kvs : List (Key × V)} {kds : List (Key × D)}, RpD K S H kvs kds → RpA K S H (kvs.map fun p => kV p.1) (kds.map fun p => keyD p.1)
  | [], [], _ => by simp only [List.map_nil, RpA]
  | [], _ :: _, h => by simp only [RpD] at h
  | _ :: _, [], h => by simp only [RpD] at h
  | (k, v) :: r, (e, d) :: s, h => by
    simp only [RpD] at h
    simp only [List.map_cons, RpA]
    obtain ⟨⟨rfl, hk⟩, _, h3⟩ := h
    exact ⟨keyRp hk, keysD h3⟩
theorem keysT {K : Fg} {S : Sh} {H : Hp} : ∀ {kvs : List (List Key × V)} {kds : List (List Key × D)} {bs : List Addr}, RpT K S H kvs kds → IsKeys H kvs bs → RpA K S H (bs.map V.ref) (kds.map fun p => .tup (p.1.map keyD))
  | [], [], bs, _, h => by cases h; simp only [List.map_nil, RpA]
  | [], _ :: _, _, h, _ => by simp only [RpT] at h
  | _ :: _, [], _, h, _ => by simp only [RpT] at h
  | (k, v) :: r, (e, d) :: s, bs, h, hb => by
    simp only [RpT] at h
    obtain ⟨⟨rfl, hk⟩, _, h3⟩ := h
    cases hb with
    | cons h1 h2 =>
      rename_i b bs
      simp only [List.map_cons, RpA]
      refine ⟨?_, keysT h3 h2⟩
      simp only [Rp]
      exact ⟨b, e.map kV, rfl, SqT.of h1, keysRp hk⟩
theorem pairs_vals {prog : Program} {w : World} : ∀ {es : List DictEntry} {vs : List (Key × Value)}, Pairs (mixKind prog w) es vs → Vals (vs.map fun p => kV p.1) (es.map (·.key))
  | _, _, .nil => .nil
  | _, _, .cons h _ t => .cons (keyIs_rel h) (pairs_vals t)
/-- the dict's own object, and its keys in a row -/
theorem raw_keys {pins : List (Addr × Obj)} {σ : L2.St} {H : Hp} {s : Shared} {S : Sh} {a : Addr} {ds : List D} (I : Inv X pins σ H s)
    (h : (∃ kvs kds, H a = some (.dK kvs) ∧ RpD X.K S H kvs kds ∧ ds = kds.map fun p => keyD p.1) ∨ ∃ kvs kds, H a = some (.dT kvs) ∧ RpT X.K S H kvs kds ∧ ds = kds.map fun p => .tup (p.1.map keyD)) :
    ∃ (o : Obj) (es : Array DictEntry) (ep : Nat) (xs : List V), (a == sysModules) = false ∧ s.heap.get? a = some o ∧ o.ExactDict ∧ o.data = .dict es ep ∧ es.size = xs.length ∧ xs.length ≤ sizeLine ∧ RpA X.K S H xs ds ∧
      ∀ us : List Value, us.length = es.size → (∀ (j : Nat) (v : Value), us[j]? = some v → ∃ en : DictEntry, es[j]? = some en ∧ v = en.key) → Vals xs us := by
  rcases h with ⟨kvs, kds, ha, rr, rfl⟩ | ⟨kvs, kds, ha, rr, rfl⟩
  · obtain ⟨z, hsys, vs, rel, dof⟩ := dk_of I.hok ha
    obtain ⟨ep, dat⟩ := dof.dictAt
    obtain ⟨ob, es, ho, hex, hdat, hko, hpr, hnd⟩ := id dat
    have hl : es.size = vs.length := by have := hpr.length; simpa using this
    have hkl : kvs.length = vs.length := rel.length
    refine ⟨ob, es, ep, kvs.map fun p => kV p.1, hsys, ho, hex, hdat, by rw [List.length_map, hkl, hl], by rw [List.length_map]; exact z, keysD rr, fun us hus hat => ?_⟩
    have ea : us = es.toList.map (·.key) := by
      apply List.ext_getElem?
      intro j
      rw [List.getElem?_map]
      cases hj : us[j]? with
      | none =>
        have h1 := List.getElem?_eq_none_iff.mp hj
        rw [List.getElem?_eq_none (by simpa using (by omega : es.size ≤ j))]
        rfl
      | some v =>
        obtain ⟨en, hen, hv⟩ := hat j v hj
        have : es.toList[j]? = some en := by simpa using hen
        rw [this, hv]; rfl
    have e1 : (kvs.map fun p => kV p.1) = (vs.map fun p => kV p.1) := by
      have e3 : (kvs.map fun kv => kV kv.1) = (kvs.map (·.1)).map kV := by rw [List.map_map] <;> rfl
      have e4 : (vs.map fun kv => kV kv.1) = (vs.map (·.1)).map kV := by rw [List.map_map] <;> rfl
      rw [e3, e4, KV.keys rel]
    rw [e1, ea]
    exact pairs_vals hpr
  · obtain ⟨z, hs, ks, pr, o, es, ep, ho, hx, hdt, he, hn⟩ := (show ObjOk X.prog X.w H s.heap a (.dT kvs) from I.hok a _ ha)
    have l1 : es.size = ks.length := size_of_entries he
    have l2 : kvs.length = ks.length := Paired.length pr
    refine ⟨o, es, ep, (ks.map fun x => x.2.1).map V.ref, hs, ho, hx, hdt, by simp [l1], by simp; omega, keysT rr (isKeys_of pr), fun us hus hat => ?_⟩
    have ea : us = ks.map fun x => Value.ref x.2.1 := by
      apply List.ext_getElem?
      intro j
      rw [List.getElem?_map]
      cases hj : us[j]? with
      | none =>
        have h1 := List.getElem?_eq_none_iff.mp hj
        rw [List.getElem?_eq_none (by omega)]
        all_goals rfl
      | some v =>
        obtain ⟨en, hen, hv⟩ := hat j v hj
        have qe := entry_at he j
        rw [hen] at qe
        cases hb : ks[j]? with
        | none =>
          rw [hb] at qe
          exact nomatch (show some en = none from qe)
        | some b =>
          rw [hb] at qe
          have e2 : en = entryOfKey (tupleKind (mixKind X.prog X.w)) b := Option.some.inj qe
          rw [hv, e2]
          all_goals rfl
    have eb : us = (ks.map fun x => x.2.1).map Value.ref := by rw [ea, List.map_map]; all_goals rfl
    rw [eb]
    exact vals_refs _
theorem cr_sortK (hc : X.calm = true) (hu : X.A.units + 104 < cLine) : CallR X (.builtin "sorted") (rSortK X) := by
  intro pins s σ H vs us Q I r h
  obtain ⟨a, S, ds, rfl, ok, hk, q⟩ := h
  obtain ⟨o, es, ep, xs, lo, ho, hx, hdt, hsz, hz, rr, hv⟩ := raw_keys I hk
  rw [Vals.ref1 r]
  refine Calls.call_function_entry PyProof.Rows.kind_sorted PyProof.Rows.plain_sorted PyProof.Rows.entry_sorted (PyProof.Rows.args_sorted1 _) ?_
  unfold Builtin.«sorted»
  refine wpAny_bind (m := checkCount "sorted" 1 1 _) (wpAny_pure ?_)
  refine wpAny_bind (PySem.W.kdu_collect (A := X.A.in1) (kdl_raw lo hx hdt) (I.ok.hd hc) ho (by omega) fun h' tk acc hkp hacc => ?_)
  have hal : acc.toList.length = es.size := by rw [Array.length_toList, hacc.1]
  have rv : Vals xs acc.toList := hv _ hal fun j v e => hacc.2 j v (by rw [← Array.getElem?_toList]; exact e)
  have I1 : Inv X pins σ H { s with heap := h', toks := tk } := I.kept hkp
  refine wpAny_bind (wpAny_newList ?_ (by omega))
  have hoL : (h'.push (PyProof.Rows.seqObj "list" acc.toList.toArray 0)).get? h'.objs.size = some (PyProof.Rows.seqObj "list" acc.toList.toArray 0) := Heap.get?_push_size _ rfl
  show wpAny _ _ _ _ _ { s with heap := h'.push (PyProof.Rows.seqObj "list" acc.toList.toArray 0), toks := tk }
  obtain ⟨S1, ys, ry, vy⟩ := sort_facts (s' := { s with heap := PySem.W.sortingHeap (h'.push (PyProof.Rows.seqObj "list" acc.toList.toArray 0)) h'.objs.size acc.toList, toks := tk }) (A := X.A.in1.in1) I1 rv rr ok (fun b q e => by
    have hb : b < h'.objs.size := Heap.lt_size e
    exact PySem.W.sortingHeap_old (Nat.ne_of_lt hb) (Heap.get?_push_of_some _ e)) (by show X.A.units + 1 + 1 + 60 < cLine; omega)
  refine wpAny_bind (wpAny_holding (wpAny_call_entry PyProof.Rows.slot_list_sort ⟨_, hoL, rfl⟩ PyProof.Rows.entry_list_sort
    (PySem.W.list_sort_vals (s := { s with heap := h'.push (PyProof.Rows.seqObj "list" acc.toList.toArray 0), toks := tk }) hoL S1 (by omega) ⟨_, rfl, ?_⟩) (PyProof.Rows.args_list_sort _)))
  obtain ⟨e', he'⟩ := PyProof.Rows.sortedHeap_at (vs := acc.toList) (out := (PySem.W.sortVals (PySem.W.dataKind (PySem.W.sortingHeap (h'.push (PyProof.Rows.seqObj "list" acc.toList.toArray 0)) h'.objs.size acc.toList) (ds.map D.py)) false acc.toList acc.toList).toArray) hoL
  have hlen : ys.length ≤ sizeLine := by
    rw [ry.len]
    unfold sortD
    rw [List.length_mergeSort, ← rr.len]
    exact hz
  refine wpAny_pure ⟨_, rfl, .ref h'.objs.size, upd H h'.objs.size (.lst ys), I1.laid (t' := tk) (fun b u e => ?_) (Nat.le_refl _)
    (show ObjOk X.prog X.w _ _ _ (.lst ys) from ⟨hlen, _, e', vy, he'⟩), rfl, q ys _ ry (I1.hok.fresh (Nat.le_refl _))⟩
  have hb : b < h'.objs.size := Heap.lt_size e
  rw [PyProof.Rows.sortedHeap_old (Nat.ne_of_lt hb) (by rw [PyProof.Rows.size_push']; exact Nat.lt_succ_of_lt hb)]
  exact Heap.get?_push_of_some _ e
def rSortA (X : Cx) : List V → Hp → VK → Prop := fun xs H Q => rSortL X xs H Q ∨ rSortK X xs H Q
theorem hk_sort {S : Sh} {H : Hp} {vs : List V} {ds : List D} {Q : VK} (sd : SD S H) (r : RtA X.K S H vs ds) (q : VOk X.K .fr S H (biD .sorted ds) Q) : rSortA X vs H Q := by
  unfold biD at q
  split at q <;> rename_i hb <;> first | (cases hb; done) | skip
  · obtain ⟨v, rfl, rv⟩ := r.one
    obtain ⟨h, q⟩ := q.when
    obtain ⟨a, xs, rfl, ha, rr⟩ := rv.lst
    exact .inl ⟨a, xs, _, S, rfl, .inl (.inl ha), rr, h, fun ys p ry hp => VOk.lst sd q ry p hp⟩
  · obtain ⟨v, rfl, rv⟩ := r.one
    obtain ⟨h, q⟩ := q.when
    obtain ⟨a, xs, rfl, ha, rr⟩ := rv.fl
    exact .inl ⟨a, xs, _, S, rfl, ha.sq, rr, h, fun ys p ry hp => VOk.lst sd q ry p hp⟩
  · obtain ⟨v, rfl, rv⟩ := r.one
    obtain ⟨h, q⟩ := q.when
    obtain ⟨a, xs, rfl, ha, rr⟩ := rv.dk
    exact .inr ⟨a, S, _, rfl, h, .inl ⟨xs, _, ha, rr, rfl⟩, fun ys p ry hp => VOk.lst sd q ry p hp⟩
  · obtain ⟨v, rfl, rv⟩ := r.one
    obtain ⟨h, q⟩ := q.when
    obtain ⟨a, xs, rfl, ha, rr⟩ := rv.dt
    exact .inr ⟨a, S, _, rfl, h, .inr ⟨xs, _, ha, rr, rfl⟩, fun ys p ry hp => VOk.lst sd q ry p hp⟩
  · exact q.no
theorem se_sorted {e : Expr} {es : List Expr} {f : Env → R (List D)} {p pos : Pos} (hc : X.calm = true) (hu : X.A.units + 104 < cLine) (n : Bn X (biN .sorted)) (h : PP.SP X W cl o (e :: es) f)
    (he : starEach (e :: es) X.env = (false, eval e X.env) :: starEach es X.env) (hpl : (backTo pos (starEach es X.env)).any (·.1) = false) : SE X W cl o .fr (.Call (.Name (biN .sorted) p) (e :: es) [] pos) (fun ρ => (f ρ).bind (biD .sorted)) :=
  h.call (fun ha => pe_callB (id := "sorted") (CallR.or (cr_sortL hu) (cr_sortK hc hu)) n.g n.m PyProof.Rows.boot_sorted ha (by decide) (by decide) he hpl) (fun _ _ _ _ _ _ sd r q => hk_sort sd r q) (bi_ne _)
end
end PP
/-! Targets, iterators, comprehensions. -/
namespace PP
open PySem PySem.Spec L2
open PySem.PyData (strOk)

section
variable {X : Cx} {W : WX} {cl : Nat → Value} {o : List Bool}
/-! ### one reading for all contexts -/
def tE (K : Fg) (W : WX) (cl : Nat → Value) (o : List Bool) (m : Md) (f : Env → R D) : TE := fun σ H Q => ∃ S ρ, HSz K H ∧ SD S H ∧ StOk K o S H ρ σ ∧ Pst K W cl σ S H (fun S' H' v d => Res K H S' H' m v d) (f ρ) Q
theorem SE.pe {m : Md} {e : Expr} {f : Env → R D} (h : SE X W cl o m e f) : PE X e (tE X.K W cl o m f) := by
  obtain ⟨t, pe, q⟩ := h.ex
  exact ⟨fun pins s σ H Q I ⟨S, ρ, z, sd, st, p⟩ => pe.run pins s σ H Q I (q S H σ ρ Q z sd st p)⟩
def tT (K : Fg) (W : WX) (cl : Nat → Value) (o : List Bool) (f : Env → R Bool) : TT := fun σ H Q => ∃ S ρ, HSz K H ∧ SD S H ∧ StOk K o S H ρ σ ∧ Pst K W cl σ S H (fun _ _ (a b : Bool) => a = b) (f ρ) Q
/-- the tests of a comprehension -/
structure SF (X : Cx) (W : WX) (cl : Nat → Value) (o : List Bool) (es : List Expr) (f : Env → R Bool) : Prop where
  ex : ∃ t, PTs X es t ∧ ∀ S H σ ρ Q, HSz X.K H → SD S H → StOk X.K o S H ρ σ → Pst X.K W cl σ S H (fun _ _ (a b : Bool) => a = b) (f ρ) Q → t σ H Q
theorem SF.pt {es : List Expr} {f : Env → R Bool} (h : SF X W cl o es f) : PTs X es (tT X.K W cl o f) := by
  obtain ⟨t, pe, q⟩ := h.ex
  exact ⟨fun pins s σ H Q I ⟨S, ρ, z, sd, st, p⟩ => pe.run pins s σ H Q I (q S H σ ρ Q z sd st p)⟩
theorem sf_nil : SF X W cl o [] (fun _ => .ok true) := ⟨_, pts_nil, fun S H σ ρ Q z sd st p => p true S H (Gr.refl sd) z rfl⟩
theorem sf_one {e : Expr} {f : Env → R Bool} (h : ST X W cl o e f) : SF X W cl o [e] f := by
  obtain ⟨t, pe, q⟩ := h.ex
  exact ⟨t, pts_one pe, q⟩
theorem SF.congr {es : List Expr} {f f' : Env → R Bool} (h : SF X W cl o es f) (hf : ∀ ρ, f ρ = f' ρ) : SF X W cl o es f' := by
  obtain rfl : f = f' := funext hf
  exact h

/-! ### targets -/
def clr : List Bool → List Nat → List Bool
  | o, [] => o
  | o, i :: is => clr (o.set i false) is
mutual
def Tg.slots : Tg → List Nat
  | .one i => [i]
  | .tup ts => slotsA ts
def slotsA : List Tg → List Nat
  | [] => []
  | t :: ts => t.slots ++ slotsA ts
end
theorem clr_app (o : List Bool) : ∀ is js : List Nat, clr o (is ++ js) = clr (clr o is) js
  | [], js => rfl
  | i :: is, js => clr_app (o.set i false) is js
theorem getD_set_false {o : List Bool} {i j : Nat} (h : (o.set i false).getD j false = true) : o.getD j false = true ∧ j ≠ i := by
  by_cases e : j = i
  · subst e
    exfalso
    by_cases hl : j < o.length
    · simp [List.getD, List.getElem?_set_self hl] at h
    · simp [List.getD, hl] at h
  · refine ⟨?_, e⟩
    rw [List.getD, List.getElem?_set_ne (Ne.symm e)] at h
    exact h
theorem StOk.set_sh {K : Fg} {S : Sh} {H : Hp} {ρ : Env} {σ : L2.St} {i : Nat} {v : V} {d : D} (st : StOk K o S H ρ σ) (r : Rp K S H v d) (hi : i < ρ.length) : StOk K (o.set i false) S H (ρ.set i (some d)) (σ.set i (some v)) := by
  have hs : i < σ.length := by rw [st.len]; exact hi
  refine ⟨by simp [st.len], fun j dj e => ?_, fun j k a dj dk hne oj ok ej ek mj mk sj sk => ?_⟩
  · by_cases hj : i = j
    · subst hj
      rw [List.getElem?_set_self hi] at e
      cases e
      refine ⟨v, List.getElem?_set_self hs, ?_⟩
      split
      · rename_i c
        exact absurd rfl (getD_set_false c).2
      · exact r
    · rw [List.getElem?_set_ne hj] at e
      obtain ⟨w, ew, rw'⟩ := st.val j dj e
      refine ⟨w, by rw [List.getElem?_set_ne hj]; exact ew, ?_⟩
      have : (o.set i false).getD j false = o.getD j false := by
        rw [List.getD, List.getElem?_set_ne hj]; rfl
      rw [this]
      exact rw'
  · obtain ⟨oj, nj⟩ := getD_set_false oj
    obtain ⟨ok, nk⟩ := getD_set_false ok
    rw [List.getElem?_set_ne (Ne.symm nj)] at ej sj
    rw [List.getElem?_set_ne (Ne.symm nk)] at ek sk
    exact st.sep j k a dj dk hne oj ok ej ek mj mk sj sk
/-- slots within vs alone are changed -/
def Wst (vs : List Nat) (σ σ' : L2.St) : Prop := σ'.length = σ.length ∧ ∀ j, j ∉ vs → σ'[j]? = σ[j]?
theorem wipe_get : ∀ (vs : List Nat) (σ : L2.St) (j : Nat), (wipe σ vs)[j]? = if j ∈ vs then (if j < σ.length then some none else none) else σ[j]?
  | [], σ, j => by simp [wipe]
  | v :: vs, σ, j => by
    have ih := wipe_get vs σ j
    have hl := wipe_length σ vs
    unfold wipe
    by_cases hv : v = j
    · subst hv
      by_cases hj : v < σ.length
      · rw [List.getElem?_set_self (by rw [hl]; exact hj)]
        simp [hj]
      · rw [List.getElem?_eq_none (by simpa [hl] using hj)]
        simp [hj]
    · rw [List.getElem?_set_ne hv, ih]
      have : (j ∈ v :: vs) = (j ∈ vs) := by simp [Ne.symm hv]
      simp only [this]
theorem Wst.wipe {vs : List Nat} {σ σ' : L2.St} (h : Wst vs (wipe σ vs) σ') : L2.wipe σ' vs = L2.wipe σ vs := by
  apply List.ext_getElem?
  intro j
  rw [wipe_get, wipe_get]
  by_cases hj : j ∈ vs
  · simp only [hj, if_true]
    rw [h.1, wipe_length]
  · simp only [hj, if_false]
    rw [h.2 j hj, wipe_get]
    simp [hj]
theorem wipeE_get : ∀ (vs : List Nat) (σ : Env) (j : Nat), (wipeE σ vs)[j]? = if j ∈ vs then (if j < σ.length then some none else none) else σ[j]?
  | [], σ, j => by simp [wipeE]
  | v :: vs, σ, j => by
    have ih := wipeE_get vs σ j
    have hl : (wipeE σ vs).length = σ.length := by
      clear ih
      induction vs with
      | nil => rfl
      | cons w ws ih => unfold wipeE; rw [List.length_set]; exact ih
    unfold wipeE
    by_cases hv : v = j
    · subst hv
      by_cases hj : v < σ.length
      · rw [List.getElem?_set_self (by rw [hl]; exact hj)]
        simp [hj]
      · rw [List.getElem?_eq_none (by simpa [hl] using hj)]
        simp [hj]
    · rw [List.getElem?_set_ne hv, ih]
      have : (j ∈ v :: vs) = (j ∈ vs) := by simp [Ne.symm hv]
      simp only [this]
theorem wipeE_length : ∀ (vs : List Nat) (σ : Env), (wipeE σ vs).length = σ.length
  | [], _ => rfl
  | v :: vs, σ => by unfold wipeE; rw [List.length_set]; exact wipeE_length vs σ
theorem StOk.wipe {K : Fg} {S : Sh} {H : Hp} {ρ : Env} {σ : L2.St} (st : StOk K o S H ρ σ) (vs : List Nat) : StOk K o S H (wipeE ρ vs) (L2.wipe σ vs) := by
  have low : ∀ {j : Nat} {d : D}, (wipeE ρ vs)[j]? = some (some d) → ρ[j]? = some (some d) ∧ j ∉ vs := fun {j d} e => by
    rw [wipeE_get] at e
    by_cases hj : j ∈ vs
    · rw [if_pos hj] at e
      split at e <;> cases e
    · rw [if_neg hj] at e
      exact ⟨e, hj⟩
  refine ⟨by rw [wipe_length, wipeE_length, st.len], fun j d e => ?_, fun j k a dj dk hne oj ok ej ek mj mk sj sk => ?_⟩
  · obtain ⟨e, hj⟩ := low e
    obtain ⟨v, ev, r⟩ := st.val j d e
    exact ⟨v, by rw [wipe_get, if_neg hj]; exact ev, r⟩
  · obtain ⟨ej, hj⟩ := low ej
    obtain ⟨ek, hk⟩ := low ek
    rw [wipe_get, if_neg hj] at sj
    rw [wipe_get, if_neg hk] at sk
    exact st.sep j k a dj dk hne oj ok ej ek mj mk sj sk
/-- a target -/
structure SG (X : Cx) (tg : Expr) (t : Tg) : Prop where
  ex : ∃ g, PG X tg g ∧ ∀ S H σ ρ ρ' v d o Q, StOk X.K o S H ρ σ → Rp X.K S H v d → asg t d ρ = some ρ' → (∀ σ', StOk X.K (clr o t.slots) S H ρ' σ' → Wst t.slots σ σ' → Q σ' H) → g v σ H Q
structure SGs (X : Cx) (tg : List Expr) (t : List Tg) : Prop where
  ex : ∃ g, PGs X tg g ∧ ∀ S H σ ρ ρ' vs ds o Q, StOk X.K o S H ρ σ → RpA X.K S H vs ds → asgs t ds ρ = some ρ' → (∀ σ', StOk X.K (clr o (slotsA t)) S H ρ' σ' → Wst (slotsA t) σ σ' → Q σ' H) → g vs σ H Q
theorem sg_one {i : Nat} {x : Str} {pos : Pos} (hN : X.N.Nodup) (hi : X.N[i]? = some x) (hx : Loc X.env.scope x) (hf : X.fn x = true ∨ X.env.scope.names.lookup x = some .local) : SG X (.Name x pos) (.one i) := by
  refine ⟨_, pg_name hN hi hx hf, fun S H σ ρ ρ' v d o Q st r e q => ?_⟩
  unfold asg at e
  split at e
  · rename_i hl
    cases e
    refine q _ (st.set_sh r hl) ⟨by simp, fun j hj => ?_⟩
    rw [List.getElem?_set_ne (fun z => hj (by simp [Tg.slots, z]))]
  · cases e
theorem sgs_nil : SGs X [] [] := ⟨_, pgs_nil, fun S H σ ρ ρ' vs ds o Q st r e q => by
  cases ds with
  | nil =>
    cases vs with
    | nil => simp only [asgs] at e; cases e; exact ⟨rfl, q σ st ⟨rfl, fun _ _ => rfl⟩⟩
    | cons _ _ => simp only [RpA] at r
  | cons _ _ => simp only [asgs] at e; cases e⟩
theorem sgs_cons {e : Expr} {es : List Expr} {t : Tg} {ts : List Tg} (h1 : SG X e t) (h2 : SGs X es ts) (hs : (assignEach (e :: es) X.env).map (·.2) = assign e X.env :: (assignEach es X.env).map (·.2)) : SGs X (e :: es) (t :: ts) := by
  obtain ⟨g, pg, q1⟩ := h1.ex
  obtain ⟨gs, pgs, q2⟩ := h2.ex
  refine ⟨_, pgs_cons pg pgs hs, fun S H σ ρ ρ' vs ds o Q st r e q => ?_⟩
  cases ds with
  | nil => simp only [asgs] at e; cases e
  | cons d ds =>
    cases vs with
    | nil => simp only [RpA] at r
    | cons v vs =>
      simp only [RpA] at r
      simp only [asgs] at e
      split at e
      · rename_i ρ1 e1
        refine ⟨v, vs, rfl, q1 S H σ ρ ρ1 v d o _ st r.1 e1 fun σ1 st1 w1 => ?_⟩
        refine q2 S H σ1 ρ1 ρ' vs ds _ _ st1 r.2 e fun σ2 st2 w2 => ?_
        refine q σ2 (by simp only [slotsA]; rw [clr_app]; exact st2) ⟨w2.1.trans w1.1, fun j hj => ?_⟩
        simp only [slotsA, List.mem_append, not_or] at hj
        rw [w2.2 j hj.2, w1.2 j hj.1]
      · cases e
theorem asgs_len : ∀ {ts : List Tg} {ds : List D} {ρ ρ' : Env}, asgs ts ds ρ = some ρ' → ds.length = ts.length
  | [], [], _, _, _ => rfl
  | [], _ :: _, _, _, e => by simp only [asgs] at e; cases e
  | _ :: _, [], _, _, e => by simp only [asgs] at e; cases e
  | t :: ts, d :: ds, ρ, ρ', e => by
    simp only [asgs] at e
    split at e
    · simp only [List.length_cons, asgs_len e]
    · cases e
theorem sg_tup {es : List Expr} {ts : List Tg} {k : Nat} {pos : Pos} (hc : X.calm = true) (h : SGs X es ts) (hn : (assignEach es X.env).length = ts.length) (hst : (assignEach es X.env).findIdx? (·.1) = none) : SG X (.Tuple es k pos) (.tup ts) := by
  obtain ⟨g, pg, q1⟩ := h.ex
  refine ⟨_, pg_tup hc pg hn hst, fun S H σ ρ ρ' v d o Q st r e q => ?_⟩
  cases d with
  | tup ds =>
    simp only [asg] at e
    simp only [Rp] at r
    obtain ⟨a, xs, rfl, ha, rr⟩ := r
    refine ⟨a, xs, rfl, ha, by rw [rr.len]; exact asgs_len e, ?_⟩
    exact q1 S H σ ρ ρ' xs ds o Q st rr e q
  | _ => simp only [asg] at e; cases e
def tG (K : Fg) (t : Tg) : TG := fun v σ H Q => ∃ S ρ ρ' d o, StOk K o S H ρ σ ∧ Rp K S H v d ∧ asg t d ρ = some ρ' ∧ ∀ σ', StOk K (clr o t.slots) S H ρ' σ' → Wst t.slots σ σ' → Q σ' H
theorem SG.pg {tg : Expr} {t : Tg} (h : SG X tg t) : PG X tg (tG X.K t) := by
  obtain ⟨g, pg, q⟩ := h.ex
  exact ⟨fun pins s σ H v u Q I r ⟨S, ρ, ρ', d, o, st, rr, e, qq⟩ => pg.run pins s σ H v u Q I r (q S H σ ρ ρ' v d o Q st rr e qq)⟩
end
end PP
/-! Iterators. -/
namespace PP
open PySem PySem.Spec L2
open PySem.PyData (strOk)

section
variable {X : Cx} {W : WX} {cl : Nat → Value} {o : List Bool}
/-- the iterator serves ds while P holds -/
structure Sv (K : Fg) (J : It) (ds : List D) (P : Sh → Hp → Prop) : Prop where
  go : ∀ S H i, P S H → i < ds.length → J.go i H
  stop : ∀ S H i, P S H → ds.length ≤ i → J.stop i H
  yld : ∀ S H i x H', SD S H → HSz K H → P S H → i < ds.length → J.yld i H x H' → ∃ d, ds[i]? = some d ∧ Gr S H S H' ∧ HSz K H' ∧ Rp K S H' x d
def Stab (pk : Bool) (P : Sh → Hp → Prop) : Prop := if pk = true then (∀ S H S' H', SD S H → Gr S H S' H' → P S H → P S' H') else ∀ S H S' H', Gs S H S' H' → P S H → P S' H'
def SvR (K : Fg) (pk : Bool) (S : Sh) (H : Hp) (J : It) (ds : List D) : Prop := ∃ P, Sv K J ds P ∧ Stab pk P ∧ P S H
structure SI (X : Cx) (W : WX) (cl : Nat → Value) (o : List Bool) (pk : Bool) (tg it : Expr) (f : Env → R (List D)) : Prop where
  ex : ∃ wi, PI X tg it wi ∧ ∀ S H σ ρ R, HSz X.K H → SD S H → StOk X.K o S H ρ σ → Pst X.K W cl σ S H (fun S' H' J ds => SvR X.K pk S' H' J ds) (f ρ) R → wi σ H R
theorem pi_or {tg it : Expr} {w1 w2 : TI} (h1 : PI X tg it w1) (h2 : PI X tg it w2) : PI X tg it (fun σ H R => w1 σ H R ∨ w2 σ H R) := ⟨fun pins s σ H R I h => h.elim (h1.run pins s σ H R I) (h2.run pins s σ H R I)⟩
theorem pi_sz {tg it : Expr} {wi : TI} (h : PI X tg it wi) : PI X tg it (fun σ H R => wi σ H fun J H' => HSz X.K H' → R J H') := ⟨fun pins s σ H R I hw =>
  thn (h.run pins s σ H _ I hw) fun _ _ hx => thn hx fun _ _ ⟨it, fp, tn, J, H', e, I', T, st, ok, q⟩ => ⟨it, fp, tn, J, H', e, I', T, st, ok, q (hsz_of I')⟩⟩
theorem RpA.get' {K : Fg} {S : Sh} {H : Hp} : ∀ {xs : List V} {ds : List D} {i : Nat} {v : V}, RpA K S H xs ds → xs[i]? = some v → ∃ d, ds[i]? = some d ∧ Rp K S H v d
  | [], [], _, _, _, h => by simp at h
  | [], _ :: _, _, _, h, _ => by simp only [RpA] at h
  | _ :: _, [], _, _, h, _ => by simp only [RpA] at h
  | v :: xs, d :: ds, 0, e, h, h' => by
    simp only [RpA] at h
    simp at h'
    subst h'
    exact ⟨d, rfl, h.1⟩
  | v :: xs, d :: ds, i + 1, e, h, h' => by
    simp only [RpA] at h
    obtain ⟨w, q1, q2⟩ := RpA.get' (i := i) (v := e) h.2 (by simpa using h')
    exact ⟨w, by simpa using q1, q2⟩
theorem sv_list {K : Fg} {a : Addr} {xs : List V} {ds : List D} {P : Sh → Hp → Prop} (h : ∀ S H, P S H → SqL K H a xs ∧ RpA K S H xs ds) : Sv K (Itl K a) ds P := by
  refine ⟨fun S H i p hi => ?_, fun S H i p hi => ?_, fun S H i x H' sd z p _ y => ?_⟩
  · obtain ⟨h1, h2⟩ := h S H p
    have hx : i < xs.length := by rw [h2.len]; exact hi
    exact ⟨xs, xs[i], h1, by simp [hx]⟩
  · obtain ⟨h1, h2⟩ := h S H p
    exact ⟨xs, h1, by rw [h2.len]; exact hi⟩
  · obtain ⟨h1, h2⟩ := h S H p
    obtain ⟨rfl, y⟩ := y
    obtain ⟨d, e, r⟩ := h2.get' (y xs h1)
    exact ⟨d, e, Gr.refl sd, z, r⟩
theorem sv_tup {K : Fg} {a : Addr} {xs : List V} {ds : List D} {P : Sh → Hp → Prop} (h : ∀ S H, P S H → SqT K H a xs ∧ RpA K S H xs ds) : Sv K (Itt K a) ds P := by
  refine ⟨fun S H i p hi => ?_, fun S H i p hi => ?_, fun S H i x H' sd z p _ y => ?_⟩
  · obtain ⟨h1, h2⟩ := h S H p
    have hx : i < xs.length := by rw [h2.len]; exact hi
    exact ⟨xs, xs[i], h1, by simp [hx]⟩
  · obtain ⟨h1, h2⟩ := h S H p
    exact ⟨xs, h1, by rw [h2.len]; exact hi⟩
  · obtain ⟨h1, h2⟩ := h S H p
    obtain ⟨rfl, y⟩ := y
    obtain ⟨d, e, r⟩ := h2.get' (y xs h1)
    exact ⟨d, e, Gr.refl sd, z, r⟩
theorem sv_str {K : Fg} {x : Str} (hx : sOk x = true) {P : Sh → Hp → Prop} : Sv K (Its x) (x.cps.toList.map fun c => .str ⟨#[c]⟩) P := by
  refine ⟨fun S H i p hi => ?_, fun S H i p hi => ?_, fun S H i v H' sd z p _ y => ?_⟩
  · rw [List.length_map] at hi
    simpa [Its] using hi
  · rw [List.length_map] at hi
    simpa [Its] using hi
  · obtain ⟨rfl, c, hc, rfl⟩ := y
    refine ⟨.str ⟨#[c]⟩, by rw [List.getElem?_map]; simp [hc], Gr.refl sd, z, ?_⟩
    simp only [Rp]
    refine ⟨trivial, ?_⟩
    have hmem : c ∈ x.cps.toList := by
      have : x.cps.toList[i]? = some c := by simpa using hc
      exact List.mem_of_getElem? this
    have hl : 1 ≤ x.length := by
      rw [← len_cps]
      exact List.length_pos_of_mem hmem
    have := sOk_sub (l := [c]) hx (fun c' hc' => by
      rw [List.mem_singleton] at hc'
      rw [hc']
      exact hmem) hl
    exact this
theorem sv_rng {K : Fg} {lo : Int} {n : Nat} {P : Sh → Hp → Prop} : Sv K (Itr lo n) (rngL lo n) P := by
  have hl : (rngL lo n).length = n := by simp [rngL]
  refine ⟨fun S H i p hi => by rw [hl] at hi; exact hi, fun S H i p hi => by rw [hl] at hi; exact hi, fun S H i v H' sd z p hi y => ?_⟩
  rw [hl] at hi
  obtain ⟨rfl, rfl⟩ := y
  refine ⟨.int (lo + (i : Nat)), by simp [rngL, hi], Gr.refl sd, z, by simp only [Rp]⟩
theorem HSz.upd {K : Fg} {H : Hp} {p : Addr} {o : HO} (z : HSz K H) (h1 : ∀ xs, (o = .lst xs ∨ ∃ ob, o = .frz ob (.lst xs)) → xs.length ≤ sizeLine) (h2 : ∀ xs, (o = .tup xs ∨ ∃ ob, o = .frz ob (.tup xs)) → xs.length ≤ sizeLine) (h3 : ∀ kvs, o = .dK kvs → kvs.length ≤ sizeLine) (h4 : ∀ kvs, o = .dT kvs → kvs.length ≤ sizeLine) : HSz K (upd H p o) := by
  obtain ⟨z1, z2, z3, z4⟩ := z
  refine ⟨fun a xs h => ?_, fun a xs h => ?_, fun a kvs h => ?_, fun a kvs h => ?_⟩
  · by_cases e : a = p
    · subst e
      rcases h with (h | ⟨ob, h⟩) | h
      · rw [upd_same] at h; exact h1 xs (.inl (by injection h))
      · rw [upd_same] at h; exact h1 xs (.inr ⟨ob, by injection h⟩)
      · exact z1 a xs (.inr h)
    · refine z1 a xs ?_
      rcases h with (h | ⟨ob, h⟩) | h
      · rw [upd_ne e] at h; exact .inl (.inl h)
      · rw [upd_ne e] at h; exact .inl (.inr ⟨ob, h⟩)
      · exact .inr h
  · by_cases e : a = p
    · subst e
      rcases h with (h | ⟨ob, h⟩) | h
      · rw [upd_same] at h; exact h2 xs (.inl (by injection h))
      · rw [upd_same] at h; exact h2 xs (.inr ⟨ob, by injection h⟩)
      · exact z2 a xs (.inr h)
    · refine z2 a xs ?_
      rcases h with (h | ⟨ob, h⟩) | h
      · rw [upd_ne e] at h; exact .inl (.inl h)
      · rw [upd_ne e] at h; exact .inl (.inr ⟨ob, h⟩)
      · exact .inr h
  · by_cases e : a = p
    · subst e; rw [upd_same] at h; exact h3 kvs (by injection h)
    · rw [upd_ne e] at h; exact z3 a kvs h
  · by_cases e : a = p
    · subst e; rw [upd_same] at h; exact h4 kvs (by injection h)
    · rw [upd_ne e] at h; exact z4 a kvs h
theorem HSz.lst {K : Fg} {H : Hp} {p : Addr} {xs : List V} (z : HSz K H) (h : xs.length ≤ sizeLine) : HSz K (L2.upd H p (.lst xs)) :=
  z.upd (fun ys e => by
    rcases e with e | ⟨ob, e⟩
    · cases e; exact h
    · cases e) (fun ys e => by
    rcases e with e | ⟨ob, e⟩ <;> cases e) (fun _ e => by cases e) (fun _ e => by cases e)
theorem HSz.tup {K : Fg} {H : Hp} {p : Addr} {xs : List V} (z : HSz K H) (h : xs.length ≤ sizeLine) : HSz K (L2.upd H p (.tup xs)) :=
  z.upd (fun ys e => by
    rcases e with e | ⟨ob, e⟩ <;> cases e) (fun ys e => by
    rcases e with e | ⟨ob, e⟩
    · cases e; exact h
    · cases e) (fun _ e => by cases e) (fun _ e => by cases e)
theorem two_fit {x y : V} : [x, y].length ≤ sizeLine := by rw [sizeLine_eq]; show 2 ≤ 16777216; omega
theorem zip_get {α β γ : Type} (f : α → β → γ) : ∀ {xs : List α} {ys : List β} {i : Nat} {x : α} {y : β}, xs[i]? = some x → ys[i]? = some y → (xs.zipWith f ys)[i]? = some (f x y) := by
  intro xs ys i x y h1 h2
  rw [List.getElem?_zipWith, h1, h2]
theorem sv_enum {K : Fg} {a : Addr} {xs : List V} {ds : List D} {P : Sh → Hp → Prop} (h : ∀ S H, P S H → SqL K H a xs ∧ RpA K S H xs ds) : Sv K (Ite K a) (enumD ds) P := by
  have hl : (enumD ds).length = ds.length := by simp [enumD]
  refine ⟨fun S H i p hi => ?_, fun S H i p hi => ?_, fun S H i v H' sd z p hi y => ?_⟩
  · obtain ⟨h1, h2⟩ := h S H p
    have hx : i < xs.length := by rw [h2.len, ← hl]; exact hi
    exact ⟨xs, xs[i], h1, by simp [hx]⟩
  · obtain ⟨h1, h2⟩ := h S H p
    exact ⟨xs, h1, by rw [h2.len, ← hl]; exact hi⟩
  · obtain ⟨h1, h2⟩ := h S H p
    obtain ⟨T, x, rfl, hT, rfl, y⟩ := y
    rw [hl] at hi
    obtain ⟨d, e, r⟩ := h2.get' (y xs h1)
    have g := Gr.alloc (o := .tup [.int (i : Nat), x]) sd hT
    refine ⟨.tup [.int (i : Nat), d], ?_, g, z.tup two_fit, ?_⟩
    · exact zip_get (fun (k : Nat) x => D.tup [.int (k : Nat), x]) (by simp [hi]) e
    · simp only [Rp]
      refine ⟨T, [.int (i : Nat), x], rfl, SqT.of upd_same, ?_⟩
      simp only [RpA]
      exact ⟨by simp only [Rp], r.gr g sd, trivial⟩
theorem sv_zip {K : Fg} {a b : Addr} {xs ys : List V} {ds es : List D} {P : Sh → Hp → Prop} (h : ∀ S H, P S H → (SqL K H a xs ∧ RpA K S H xs ds) ∧ SqL K H b ys ∧ RpA K S H ys es) : Sv K (Itz K a b) (ds.zipWith (fun x y => .tup [x, y]) es) P := by
  have hl : (ds.zipWith (fun x y => D.tup [x, y]) es).length = min ds.length es.length := by simp
  refine ⟨fun S H i p hi => ?_, fun S H i p hi => ?_, fun S H i v H' sd z p hi y => ?_⟩
  · obtain ⟨⟨h1, h2⟩, h3, h4⟩ := h S H p
    rw [hl] at hi
    have hx : i < xs.length := by rw [h2.len]; omega
    have hy : i < ys.length := by rw [h4.len]; omega
    exact ⟨xs, ys, xs[i], ys[i], h1, h3, by simp [hx], by simp [hy]⟩
  · obtain ⟨⟨h1, h2⟩, h3, h4⟩ := h S H p
    rw [hl] at hi
    exact ⟨xs, ys, h1, h3, by rw [h2.len, h4.len]; omega⟩
  · obtain ⟨⟨h1, h2⟩, h3, h4⟩ := h S H p
    obtain ⟨T, x, y', rfl, hT, rfl, y1, y2⟩ := y
    obtain ⟨d, e, r⟩ := h2.get' (y1 xs h1)
    obtain ⟨d', e', r'⟩ := h4.get' (y2 ys h3)
    have g := Gr.alloc (o := .tup [x, y']) sd hT
    refine ⟨.tup [d, d'], zip_get (fun x y => D.tup [x, y]) e e', g, z.tup two_fit, ?_⟩
    simp only [Rp]
    refine ⟨T, [x, y'], rfl, SqT.of upd_same, ?_⟩
    simp only [RpA]
    exact ⟨r.gr g sd, r'.gr g sd, trivial⟩
theorem sv_zipT {K : Fg} {a b : Addr} {xs ys : List V} {ds es : List D} {P : Sh → Hp → Prop} (h : ∀ S H, P S H → (SqT K H a xs ∧ RpA K S H xs ds) ∧ SqT K H b ys ∧ RpA K S H ys es) : Sv K (RZ.ItzT K a b) (ds.zipWith (fun x y => .tup [x, y]) es) P := by
  have hl : (ds.zipWith (fun x y => D.tup [x, y]) es).length = min ds.length es.length := by simp
  refine ⟨fun S H i p hi => ?_, fun S H i p hi => ?_, fun S H i v H' sd z p hi y => ?_⟩
  · obtain ⟨⟨h1, h2⟩, h3, h4⟩ := h S H p
    rw [hl] at hi
    have hx : i < xs.length := by rw [h2.len]; omega
    have hy : i < ys.length := by rw [h4.len]; omega
    exact ⟨xs, ys, xs[i], ys[i], h1, h3, by simp [hx], by simp [hy]⟩
  · obtain ⟨⟨h1, h2⟩, h3, h4⟩ := h S H p
    rw [hl] at hi
    exact ⟨xs, ys, h1, h3, by rw [h2.len, h4.len]; omega⟩
  · obtain ⟨⟨h1, h2⟩, h3, h4⟩ := h S H p
    obtain ⟨T, x, y', rfl, hT, rfl, y1, y2⟩ := y
    obtain ⟨d, e, r⟩ := h2.get' (y1 xs h1)
    obtain ⟨d', e', r'⟩ := h4.get' (y2 ys h3)
    have g := Gr.alloc (o := .tup [x, y']) sd hT
    refine ⟨.tup [d, d'], zip_get (fun x y => D.tup [x, y]) e e', g, z.tup two_fit, ?_⟩
    simp only [Rp]
    refine ⟨T, [x, y'], rfl, SqT.of upd_same, ?_⟩
    simp only [RpA]
    exact ⟨r.gr g sd, r'.gr g sd, trivial⟩

/-- a list or tuple as it is seen, and that it stays -/
def mdI (pk : Bool) : Md := if pk then .pk else .sh
theorem hold_list {K : Fg} {pk : Bool} {S : Sh} {H H0 : Hp} {v : V} {d : D} {ds : List D} (r : Res K H0 S H (mdI pk) v d) (e : lstR d = .ok ds) : ∃ a xs P, v = .ref a ∧ Stab pk P ∧ P S H ∧ ∀ S H, P S H → SqL K H a xs ∧ RpA K S H xs ds := by
  cases d with
  | lst ys =>
    cases e
    cases pk with
    | true =>
      obtain ⟨a, xs, rfl, ha, rr⟩ := Rt.lst (Res.rt r)
      exact ⟨a, xs, fun S H => H a = some (.lst xs) ∧ RpA K S H xs ds, rfl, fun S H S' H' sd g ⟨p1, p2⟩ => ⟨g.same a _ p1, p2.gr g sd⟩, ⟨ha, rr⟩, fun S H ⟨p1, p2⟩ => ⟨.inl (.inl p1), p2⟩⟩
    | false =>
      have r : Rp K S H v (.lst ds) := r
      simp only [Rp] at r
      obtain ⟨a, xs, rfl, ⟨hs, ha⟩, rr⟩ := r
      exact ⟨a, xs, fun S H => (S a ∧ H a = some (.lst xs)) ∧ RpA K S H xs ds, rfl, fun S H S' H' g ⟨⟨p0, p1⟩, p2⟩ => ⟨⟨g.sub a p0, (g.keep a p0).trans p1⟩, RpA.mono g _ _ p2⟩, ⟨⟨hs, ha⟩, rr⟩, fun S H ⟨⟨_, p1⟩, p2⟩ => ⟨.inl (.inl p1), p2⟩⟩
  | fl ys =>
    cases e
    obtain ⟨a, xs, rfl, ha, rr⟩ := Rt.fl (Res.rt r)
    refine ⟨a, xs, fun S H => LsF K H a xs ∧ RpA K S H xs ds, rfl, ?_, ⟨ha, rr⟩, fun S H ⟨p1, p2⟩ => ⟨p1.sq, p2⟩⟩
    cases pk with
    | true => exact fun S H S' H' sd g ⟨p1, p2⟩ => ⟨p1.mono (g.gs sd), p2.gr g sd⟩
    | false => exact fun S H S' H' g ⟨p1, p2⟩ => ⟨p1.mono g, RpA.mono g _ _ p2⟩
  | _ => cases e
theorem hold_tup {K : Fg} {pk : Bool} {S : Sh} {H : Hp} {v : V} {ds : List D} (r : Rt K S H v (.tup ds)) : ∃ a xs P, v = .ref a ∧ Stab pk P ∧ P S H ∧ ∀ S H, P S H → SqT K H a xs ∧ RpA K S H xs ds := by
  obtain ⟨a, xs, rfl, ha, rr⟩ := r.tup
  refine ⟨a, xs, fun S H => SqT K H a xs ∧ RpA K S H xs ds, rfl, ?_, ⟨ha, rr⟩, fun S H p => p⟩
  cases pk with
  | true => exact fun S H S' H' sd g ⟨p1, p2⟩ => ⟨(g.gs sd).sqT p1, p2.gr g sd⟩
  | false => exact fun S H S' H' g ⟨p1, p2⟩ => ⟨g.sqT p1, RpA.mono g _ _ p2⟩
theorem Stab.and {pk : Bool} {P P' : Sh → Hp → Prop} (h : Stab pk P) (h' : Stab pk P') : Stab pk (fun S H => P S H ∧ P' S H) := by
  cases pk with
  | true => exact fun S H S' H' sd g p => ⟨h S H S' H' sd g p.1, h' S H S' H' sd g p.2⟩
  | false => exact fun S H S' H' g p => ⟨h S H S' H' g p.1, h' S H S' H' g p.2⟩
theorem stab_true {pk : Bool} : Stab pk (fun _ _ => True) := by
  cases pk with
  | true => exact fun _ _ _ _ _ _ _ => trivial
  | false => exact fun _ _ _ _ _ _ => trivial
theorem Stab.gr {pk : Bool} {P : Sh → Hp → Prop} (h : Stab pk P) {S S' : Sh} {H H' : Hp} (sd : SD S H) (g : Gr S H S' H') (p : P S H) : P S' H' := by
  cases pk with
  | true => exact h S H S' H' sd g p
  | false => exact h S H S' H' (g.gs sd) p

theorem si_seq {pk : Bool} {tg e : Expr} {fe : Env → R D} (he : SE X W cl o (mdI pk) e fe) : SI X W cl o pk tg e (fun ρ => (fe ρ).bind itemsD) := by
  obtain ⟨t, pe, q⟩ := he.ex
  refine ⟨_, pi_sz (pi_or (pi_list pe) (pi_or (pi_tup pe) (pi_str pe))), fun S H σ ρ R z sd st p => ?_⟩
  have main : ∀ (ds : List D) (d : D), fe ρ = .ok d → lstR d = .ok ds → itemsD d = .ok ds → iList X.K t σ H fun J H' => HSz X.K H' → R J H' := fun ds d e1 e2 e3 => by
    rw [e1] at p
    refine q S H σ ρ _ z sd st ?_
    rw [e1]
    intro v S1 H1 g1 z1 r1
    have p' : Pst X.K W cl σ S H (fun S' H' J ds => SvR X.K pk S' H' J ds) (itemsD d) R := p
    rw [e3] at p'
    obtain ⟨a, xs, P, rfl, sb, p0, hp⟩ := hold_list r1 e2
    exact ⟨a, rfl, ⟨xs, (hp _ _ p0).1⟩, fun z' => p' _ S1 H1 g1 z' ⟨P, sv_list hp, sb, p0⟩⟩
  cases e1 : fe ρ with
  | err c p' =>
    refine .inl (q S H σ ρ _ z sd st ?_)
    rw [e1] at p ⊢
    exact p
  | bad => rw [e1] at p; exact False.elim p
  | ok d =>
    cases d with
    | lst ds => exact .inl (main ds _ e1 rfl rfl)
    | fl ds => exact .inl (main ds _ e1 rfl rfl)
    | tup ds =>
      refine .inr (.inl (q S H σ ρ _ z sd st ?_))
      rw [e1] at p ⊢
      intro v S1 H1 g1 z1 r1
      have p' : ∀ b S' H', Gr S H S' H' → HSz X.K H' → SvR X.K pk S' H' b ds → R b H' := p
      obtain ⟨a, xs, P, rfl, sb, p0, hp⟩ := hold_tup (pk := pk) (Res.rt r1)
      exact ⟨a, rfl, ⟨xs, (hp _ _ p0).1⟩, fun z' => p' _ S1 H1 g1 z' ⟨P, sv_tup hp, sb, p0⟩⟩
    | str x =>
      refine .inr (.inr (q S H σ ρ _ z sd st ?_))
      rw [e1] at p ⊢
      intro v S1 H1 g1 z1 r1
      obtain ⟨rfl, hx⟩ := (Res.rt r1).str
      exact ⟨x, rfl, fun z' => p _ S1 H1 g1 z' ⟨fun _ _ => True, sv_str hx, stab_true, trivial⟩⟩
    | _ => rw [e1] at p; exact False.elim p
theorem sm62_iff {i : Int} : sm62 i = true ↔ -(2 ^ 62) ≤ i ∧ i < 2 ^ 62 := by simp only [sm62, Bool.and_eq_true, decide_eq_true_eq]
theorem si_rng1 {pk : Bool} {m : Md} {tg a : Expr} {fa : Env → R D} {p pos : Pos} (n : Bn X "range") (ha : SE X W cl o m a fa) (hs : starEach [a] X.env = [(false, eval a X.env)]) :
    SI X W cl o pk tg (.Call (.Name "range" p) [a] [] pos) (fun ρ => (fa ρ).bind fun x => (intD x).bind fun j => .when (sm62 j) (.ok (rngL 0 j.toNat))) := by
  obtain ⟨t, pa, q⟩ := ha.ex
  refine ⟨_, pi_sz (pi_range1 n.g n.m (pa_cons pa pa_nil hs) hs), fun S H σ ρ R z sd st p => ?_⟩
  refine SE.then (X := X) (W := W) (cl := cl) (o := o) q z sd st p fun d v S1 H1 g1 z1 sd1 st1 r1 p1 => ?_
  cases d with
  | int j =>
    have p2 : Pst X.K W cl σ S H (fun S' H' J ds => SvR X.K pk S' H' J ds) (PP.R.when (sm62 j) (.ok (rngL 0 j.toNat))) R := p1
    cases hj : sm62 j with
    | false => rw [hj] at p2; exact False.elim p2
    | true =>
      rw [hj] at p2
      obtain ⟨h1, h2⟩ := sm62_iff.mp hj
      exact ⟨j, by rw [(Res.rt r1).int], h1, h2, fun z' => p2 _ S1 H1 g1 z' ⟨fun _ _ => True, sv_rng, stab_true, trivial⟩⟩
  | _ => exact False.elim p1
theorem si_rng2 {pk : Bool} {m m' : Md} {tg a b : Expr} {fa fb : Env → R D} {p pos : Pos} (n : Bn X "range") (ha : SE X W cl o m a fa) (hb : SE X W cl o m' b fb) (hs : starEach [a, b] X.env = [(false, eval a X.env), (false, eval b X.env)]) (hs2 : starEach [b] X.env = [(false, eval b X.env)]) :
    SI X W cl o pk tg (.Call (.Name "range" p) [a, b] [] pos) (fun ρ => (fa ρ).bind fun x => (fb ρ).bind fun y => (intD x).bind fun i => (intD y).bind fun j => .when (sm62 i && sm62 j) (.ok (rngL i (j - i).toNat))) := by
  obtain ⟨t, pa, q⟩ := ha.ex
  obtain ⟨t2, pb, q2⟩ := hb.ex
  refine ⟨_, pi_sz (pi_range2 n.g n.m (pa_cons pa (pa_cons pb pa_nil hs2) (by rw [hs, hs2])) hs hs2), fun S H σ ρ R z sd st p => ?_⟩
  refine SE.then (X := X) (W := W) (cl := cl) (o := o) q z sd st p fun d v S1 H1 g1 z1 sd1 st1 r1 p1 => ?_
  refine SE.then (X := X) (W := W) (cl := cl) (o := o) q2 z1 sd1 st1 (Pst.rebase g1 (fun _ _ _ _ h => h) p1) fun d' v' S2 H2 g2 z2 sd2 st2 r2 p2 => ?_
  cases d with
  | int i =>
    cases d' with
    | int j =>
      have p3 : Pst X.K W cl σ S1 H1 (fun S' H' J ds => SvR X.K pk S' H' J ds) (PP.R.when (sm62 i && sm62 j) (.ok (rngL i (j - i).toNat))) R := p2
      cases hj : (sm62 i && sm62 j) with
      | false => rw [hj] at p3; exact False.elim p3
      | true =>
        rw [hj] at p3
        simp only [Bool.and_eq_true] at hj
        obtain ⟨h1, h2⟩ := sm62_iff.mp hj.1
        obtain ⟨h3, h4⟩ := sm62_iff.mp hj.2
        exact ⟨i, j, by rw [(Res.rt r1).int, (Res.rt r2).int], ⟨h1, h2, h3, h4⟩, fun z' => p3 _ S2 H2 g2 z' ⟨fun _ _ => True, sv_rng, stab_true, trivial⟩⟩
    | _ => exact False.elim p2
  | _ =>
    cases d' <;> exact False.elim p2
theorem si_enum {pk : Bool} {a : Expr} {fa : Env → R D} {p pos tpos : Pos} {elts : List Expr} {kk : Nat} (n : Bn X "enumerate") (ha : SE X W cl o (mdI pk) a fa) (hs : starEach [a] X.env = [(false, eval a X.env)]) :
    SI X W cl o pk (.Tuple elts kk tpos) (.Call (.Name "enumerate" p) [a] [] pos) (fun ρ => (fa ρ).bind fun x => (lstR x).bind fun xs => .ok (enumD xs)) := by
  obtain ⟨t, pa, q⟩ := ha.ex
  refine ⟨_, pi_sz (pi_enum n.g n.m (pa_cons pa pa_nil hs) hs), fun S H σ ρ R z sd st p => ?_⟩
  refine SE.then (X := X) (W := W) (cl := cl) (o := o) q z sd st p fun d v S1 H1 g1 z1 sd1 st1 r1 p1 => ?_
  cases e : lstR d with
  | ok ds =>
    rw [e] at p1
    obtain ⟨a, xs, P, rfl, sb, p0, hp⟩ := hold_list r1 e
    exact ⟨a, xs, rfl, (hp _ _ p0).1, fun z' => p1 _ S1 H1 g1 z' ⟨P, sv_enum hp, sb, p0⟩⟩
  | err c p' => cases d <;> cases e
  | bad => rw [e] at p1; exact False.elim p1
theorem Res.mdI_gr {K : Fg} {pk : Bool} {H0 : Hp} {S S' : Sh} {H H' : Hp} {v : V} {d : D} (g : Gr S H S' H') (sd : SD S H) (r : Res K H0 S H (mdI pk) v d) : Res K H S' H' (mdI pk) v d := by
  cases pk with
  | true => exact Rt.gr g sd r
  | false => exact Rp.gr g sd r
theorem si_zip2 {pk : Bool} {a b : Expr} {fa fb : Env → R D} {p pos tpos : Pos} {elts : List Expr} {kk : Nat} (n : Bn X "zip") (ha : SE X W cl o (mdI pk) a fa) (hb : SE X W cl o (mdI pk) b fb) (hs : starEach [a, b] X.env = (false, eval a X.env) :: starEach [b] X.env) (hs2 : starEach [b] X.env = (false, eval b X.env) :: starEach [] X.env)
    (hpl : (backTo pos (starEach [b] X.env)).any (·.1) = false) : SI X W cl o pk (.Tuple elts kk tpos) (.Call (.Name "zip" p) [a, b] [] pos) (fun ρ => (fa ρ).bind fun x => (fb ρ).bind fun y => zip2D x y) := by
  obtain ⟨t, pa, q⟩ := ha.ex
  obtain ⟨t2, pb, q2⟩ := hb.ex
  refine ⟨_, pi_sz (RZ.pi_zipA n.g n.m (pa_cons pa (pa_cons pb pa_nil hs2) hs) hs hpl), fun S H σ ρ R z sd st p => ?_⟩
  refine SE.then (X := X) (W := W) (cl := cl) (o := o) q z sd st p fun d v S1 H1 g1 z1 sd1 st1 r1 p1 => ?_
  refine SE.then (X := X) (W := W) (cl := cl) (o := o) q2 z1 sd1 st1 (Pst.rebase g1 (fun _ _ _ _ h => h) p1) fun d' v' S2 H2 g2 z2 sd2 st2 r2 p2 => ?_
  have r1' := Res.mdI_gr g2 sd1 r1
  have two : ∀ ds es, lstR d = .ok ds → lstR d' = .ok es → zip2D d d' = .ok (ds.zipWith (fun x y => .tup [x, y]) es) →
      ∃ a b xs ys, [v, v'] = [V.ref a, .ref b] ∧ ((SqL X.K H2 a xs ∧ SqL X.K H2 b ys ∧ (HSz X.K H2 → R (Itz X.K a b) H2)) ∨ (SqT X.K H2 a xs ∧ SqT X.K H2 b ys ∧ (HSz X.K H2 → R (RZ.ItzT X.K a b) H2))) := fun ds es e1 e2 e3 => by
    rw [e3] at p2
    obtain ⟨a, xs, P, rfl, sb, p0, hp⟩ := hold_list r1' e1
    obtain ⟨b, ys, P', rfl, sb', p0', hp'⟩ := hold_list r2 e2
    exact ⟨a, b, xs, ys, rfl, .inl ⟨(hp _ _ p0).1, (hp' _ _ p0').1, fun z' => p2 _ S2 H2 g2 z' ⟨_, sv_zip (P := fun S H => P S H ∧ P' S H) (fun S H p => ⟨hp S H p.1, hp' S H p.2⟩), sb.and sb', p0, p0'⟩⟩⟩
  have done : ∃ a b xs ys, [v, v'] = [V.ref a, .ref b] ∧ ((SqL X.K H2 a xs ∧ SqL X.K H2 b ys ∧ (HSz X.K H2 → R (Itz X.K a b) H2)) ∨ (SqT X.K H2 a xs ∧ SqT X.K H2 b ys ∧ (HSz X.K H2 → R (RZ.ItzT X.K a b) H2))) := by
    cases d with
    | lst ds => cases d' with
      | lst es => exact two ds es rfl rfl rfl
      | fl es => exact two ds es rfl rfl rfl
      | _ => exact False.elim p2
    | fl ds => cases d' with
      | lst es => exact two ds es rfl rfl rfl
      | fl es => exact two ds es rfl rfl rfl
      | _ => exact False.elim p2
    | tup ds => cases d' with
      | tup es =>
        obtain ⟨a, xs, P, rfl, sb, p0, hp⟩ := hold_tup (pk := pk) (Res.rt r1')
        obtain ⟨b, ys, P', rfl, sb', p0', hp'⟩ := hold_tup (pk := pk) (Res.rt r2)
        have p3 : ∀ J S' H', Gr S1 H1 S' H' → HSz X.K H' → SvR X.K pk S' H' J (ds.zipWith (fun x y => D.tup [x, y]) es) → R J H' := p2
        exact ⟨a, b, xs, ys, rfl, .inr ⟨(hp _ _ p0).1, (hp' _ _ p0').1, fun z' => p3 _ S2 H2 g2 z' ⟨_, sv_zipT (P := fun S H => P S H ∧ P' S H) (fun S H p => ⟨hp S H p.1, hp' S H p.2⟩), sb.and sb', p0, p0'⟩⟩⟩
      | _ => exact False.elim p2
    | _ => cases d' <;> exact False.elim p2
  exact done
end
end PP
/-! Comprehensions. -/
namespace PP
open PySem PySem.Spec L2
open PySem.PyData (strOk)

theorem mapR_ok {α β : Type} {f : α → R (Option β)} : ∀ {xs : List α} {ys : List β}, mapR f xs = .ok ys → ∀ (i : Nat) (x : α), xs[i]? = some x → ∃ oy, f x = .ok oy
  | [], _, _, i, x, h => by simp at h
  | z :: xs, ys, e, i, x, h => by
    simp only [mapR] at e
    cases e1 : f z with
    | ok oz =>
      rw [e1] at e
      cases e2 : mapR f xs with
      | ok r =>
        cases i with
        | zero => simp at h; subst h; exact ⟨oz, e1⟩
        | succ i => exact mapR_ok e2 i x (by simpa using h)
      | err c p => simp only [R.bind, e2] at e; cases e
      | bad => simp only [R.bind, e2] at e; cases e
    | err c p => rw [e1] at e; cases e
    | bad => rw [e1] at e; cases e
theorem mapR_snoc {α β : Type} {f : α → R (Option β)} {x : α} {oy : Option β} (h : f x = .ok oy) : ∀ {xs : List α} {ys : List β}, mapR f xs = .ok ys → mapR f (xs ++ [x]) = .ok (ys ++ oy.toList)
  | [], ys, e => by
    simp only [mapR] at e
    cases e
    cases oy <;> simp [mapR, h, R.bind]
  | z :: xs, ys, e => by
    simp only [mapR, List.cons_append] at e ⊢
    cases e1 : f z with
    | ok oz =>
      rw [e1] at e
      cases e2 : mapR f xs with
      | ok r =>
        simp only [R.bind, e2] at e
        cases e
        simp only [R.bind, mapR_snoc h e2]
        cases oz <;> rfl
      | err c p => simp only [R.bind, e2] at e; cases e
      | bad => simp only [R.bind, e2] at e; cases e
    | err c p => rw [e1] at e; cases e
    | bad => rw [e1] at e; cases e
theorem take_snoc {α : Type} {xs : List α} {i : Nat} {x : α} (h : xs[i]? = some x) : xs.take (i + 1) = xs.take i ++ [x] := by
  rw [List.take_add_one, h]; rfl

section
variable {X : Cx} {W : WX} {cl : Nat → Value} {o : List Bool}
abbrev W0 : WX := fun _ _ _ _ => False
theorem Gr.upd_own {S S' : Sh} {H H' : Hp} {D : Addr} {ob : HO} (g : Gr S H S' H') (hD : H D = none) : Gr S H S' (L2.upd H' D ob) :=
  ⟨fun a q e => by
    have hne : a ≠ D := fun z => by subst z; rw [hD] at e; cases e
    rw [upd_ne hne]
    exact g.same a q e, g.sub, g.new, g.sd.upd⟩
theorem Gs.upd_lst {S : Sh} {H : Hp} {D : Addr} {xs : List V} {ob : HO} (hn : ¬ S D) (hD : H D = some (.lst xs)) : Gs S H S (L2.upd H D ob) :=
  ⟨fun _ s => s, fun a s => upd_ne fun z => hn (by rw [← z]; exact s), fun a ys e => by
    have hne : a ≠ D := fun z => by subst z; rw [hD] at e; cases e
    rw [upd_ne hne]; exact e, fun a q u e => by
    have hne : a ≠ D := fun z => by subst z; rw [hD] at e; cases e
    rw [upd_ne hne]; exact e⟩
/-- one item of a comprehension -/
def lcF (tgt : Tg) (own : List Nat) (ft : Env → R Bool) (fe : Env → R D) (ρ : Env) (x : D) : R (Option D) := (ofE (asg tgt x (wipeE ρ own))).bind fun ρ1 => (ft ρ1).bind fun k => if k then (fe ρ1).bind fun d => .ok (some d) else .ok none
theorem lc_walk {pk : Bool} {wi : TI} {own : List (Str × Nat)} {tgt : Tg} {fi : Env → R (List D)} {ft : Env → R Bool} {fe : Env → R D} (hsub : ∀ j ∈ tgt.slots, j ∈ own.map (·.2))
    (qi : ∀ S H σ ρ R, HSz X.K H → SD S H → StOk X.K o S H ρ σ → Pst X.K W cl σ S H (fun S' H' J ds => SvR X.K pk S' H' J ds) (fi ρ) R → wi σ H R)
    {S : Sh} {H : Hp} {σ : L2.St} {ρ : Env} {Q : VK} (z : HSz X.K H) (sd : SD S H) (st : StOk X.K o S H ρ σ)
    (p : Pst X.K W cl σ S H (fun S' H' v d => Res X.K H S' H' .fr v d) ((fi ρ).bind fun items => .when (fits items.length) <| ((mapR (lcF tgt (own.map (·.2)) ft fe ρ) items).calm).bind fun ds => .ok (.lst ds)) Q) :
    tLc wi (tG X.K tgt) (tT X.K W0 cl (clr o tgt.slots) ft) (tE X.K W0 cl (clr o tgt.slots) .sh fe) (own.map (·.2)) σ H Q := by
  refine qi S H σ ρ _ z sd st (p.bind fun items J S1 H1 _ g1 z1 sv p1 => ?_)
  cases hfit : fits items.length with
  | false => rw [hfit] at p1; exact False.elim p1
  | true =>
    rw [hfit] at p1
    have hlen : items.length ≤ sizeLine := of_decide_eq_true hfit
    cases em : mapR (lcF tgt (own.map (·.2)) ft fe ρ) items with
    | err c p' => rw [em] at p1; exact False.elim p1
    | bad => rw [em] at p1; exact False.elim p1
    | ok ds =>
      rw [em] at p1
      have p1 : ∀ v S' H', Gr S H S' H' → HSz X.K H' → Res X.K H S' H' .fr v (.lst ds) → Q v H' := p1
      obtain ⟨P, sv, sb, p0⟩ := sv
      intro D hD
      refine ⟨fun i m H' => m = items.length - i ∧ i ≤ items.length ∧ ∃ S' acc pre, mapR (lcF tgt (own.map (·.2)) ft fe ρ) (items.take i) = .ok pre ∧ Gr S1 H1 S' H' ∧ ¬ S' D ∧ H' D = some (.lst acc) ∧ acc.length ≤ i ∧ RpA X.K S' H' acc pre ∧ HSz X.K H', ⟨items.length, ?_⟩, ?_⟩
      · refine ⟨rfl, Nat.zero_le _, S1, [], [], rfl, (Gr.refl g1.sd).upd_own hD, g1.sd.not hD, upd_same, Nat.le_refl _, by simp only [RpA], z1.lst (Nat.zero_le _)⟩
      · rintro i m H' ⟨rfl, hi, S', acc, pre, epre, g', nD, hacc, hal, racc, z'⟩
        have st' : StOk X.K o S' H' ρ σ := (st.gr g1 sd).gr g' g1.sd
        have pP : P S' H' := sb.gr g1.sd g' p0
        by_cases hlt : i < items.length
        · refine .inr ⟨sv.go S' H' i pP hlt, fun H2 => ∃ S2 acc pre, mapR (lcF tgt (own.map (·.2)) ft fe ρ) (items.take (i + 1)) = .ok pre ∧ Gr S1 H1 S2 H2 ∧ ¬ S2 D ∧ H2 D = some (.lst acc) ∧ acc.length ≤ i + 1 ∧ RpA X.K S2 H2 acc pre ∧ HSz X.K H2, fun H2 h2 => ⟨items.length - (i + 1), by omega, rfl, hlt, h2⟩, fun x H2 y => ?_⟩
          obtain ⟨d, ed, g2, z2, rx⟩ := sv.yld S' H' i x H2 g'.sd z' pP hlt y
          obtain ⟨oy, eo⟩ := mapR_ok em i d ed
          have esn : mapR (lcF tgt (own.map (·.2)) ft fe ρ) (items.take (i + 1)) = .ok (pre ++ oy.toList) := by
            rw [take_snoc ed]
            exact mapR_snoc eo epre
          unfold lcF at eo
          cases ea : asg tgt d (wipeE ρ (own.map (·.2))) with
          | none => rw [ea] at eo; cases eo
          | some ρ1 =>
            rw [ea] at eo
            have nD2 : ¬ S' D := nD
            have hD2 : H2 D = some (.lst acc) := g2.same D _ hacc
            refine ⟨S', wipeE ρ (own.map (·.2)), ρ1, d, o, (st'.gr g2 g'.sd).wipe _, rx, ea, fun σ2 st2 w2 => ⟨?_, ?_⟩⟩
            · exact Wst.wipe ⟨w2.1, fun j hj => w2.2 j fun hh => hj (hsub j hh)⟩
            · have eo : (ft ρ1).bind (fun k => if k then (fe ρ1).bind fun d => .ok (some d) else .ok none) = .ok oy := eo
              cases et : ft ρ1 with
              | err c p' => rw [et] at eo; cases eo
              | bad => rw [et] at eo; cases eo
              | ok k =>
                rw [et] at eo
                refine ⟨S', ρ1, z2, g2.sd, st2, ?_⟩
                rw [et]
                intro b S3 H3 g3 z3 eb
                subst eb
                have nD3 : ¬ S3 D := fun s => (g3.new D s).elim nD fun z => by rw [hD2] at z; cases z
                have hD3 : H3 D = some (.lst acc) := g3.same D _ hD2
                cases b with
                | false =>
                  refine iteF ?_
                  cases eo
                  refine ⟨S3, acc, pre, by rw [esn]; simp, (g'.trans g2).trans g3, nD3, hD3, by omega, (racc.gr g2 g'.sd).gr g3 g2.sd, z3⟩
                | true =>
                  refine iteT ?_
                  have eo : (fe ρ1).bind (fun d => .ok (some d)) = .ok oy := eo
                  cases ee : fe ρ1 with
                  | err c p' => rw [ee] at eo; cases eo
                  | bad => rw [ee] at eo; cases eo
                  | ok dd =>
                    rw [ee] at eo
                    cases eo
                    refine ⟨S3, ρ1, z3, g3.sd, st2.gr g3 g2.sd, ?_⟩
                    rw [ee]
                    intro y S4 H4 g4 z4 ry
                    have ry : Rp X.K S4 H4 y dd := ry
                    have nD4 : ¬ S4 D := fun s => (g4.new D s).elim nD3 fun z => by rw [hD3] at z; cases z
                    have hD4 : H4 D = some (.lst acc) := g4.same D _ hD3
                    have gs := Gs.upd_lst (ob := .lst (acc ++ [y])) nD4 hD4
                    refine ⟨acc, hD4, by omega, S4, acc ++ [y], pre ++ [dd], esn, (((g'.trans g2).trans g3).trans g4).upd_own hD, nD4, upd_same, by rw [List.length_append]; simp; omega, ?_, z4.lst (by rw [List.length_append]; simp; omega)⟩
                    exact RpA.app (RpA.mono gs _ _ (((racc.gr g2 g'.sd).gr g3 g2.sd).gr g4 g3.sd)) (by simp only [RpA]; exact ⟨Rp.mono gs _ _ ry, trivial⟩)
        · have hie : i = items.length := by omega
          subst hie
          rw [List.take_length, em] at epre
          cases epre
          exact .inl ⟨sv.stop S' H' _ pP (Nat.le_refl _), p1 (.ref D) S' H' (g1.trans g') z' (.inr ⟨D, rfl, .lst nD hacc racc, g1.same.free hD⟩)⟩
theorem se_lc {pk : Bool} {elt tg iter : Expr} {ifs : List Expr} {scope : Scope} {own : List (Str × Nat)} {pos : Pos} {tgt : Tg} {fi : Env → R (List D)} {ft : Env → R Bool} {fe : Env → R D}
    (hc : X.calm = true) (hN : X.N.Nodup) (hi : SI X W cl o pk tg iter fi) (ok : BlkOk X.N X.env.scope scope own) (hsub : ∀ j ∈ tgt.slots, j ∈ own.map (·.2))
    (hg : ∀ (s : Shared) (H : Hp) (C : Addr) (clo : List (Str × Addr)) (fp : List Addr), SG (X.blk s H scope (compEnvC scope clo C X.env) fp) tg tgt)
    (ht : ∀ (s : Shared) (H : Hp) (C : Addr) (clo : List (Str × Addr)) (fp : List Addr), SF (X.blk s H scope (compEnvC scope clo C X.env) fp) W0 cl (clr o tgt.slots) ifs ft)
    (he : ∀ (s : Shared) (H : Hp) (C : Addr) (clo : List (Str × Addr)) (fp : List Addr), SE (X.blk s H scope (compEnvC scope clo C X.env) fp) W0 cl (clr o tgt.slots) .sh elt fe)
    (hs : ∀ x, foldedSetIterable iter X.env x = pure x) :
    SE X W cl o .fr (.ListComp elt [⟨tg, iter, ifs, 0⟩] scope pos) (fun ρ => (fi ρ).bind fun items => .when (fits items.length) <| ((mapR (lcF tgt (own.map (·.2)) ft fe ρ) items).calm).bind fun ds => .ok (.lst ds)) := by
  obtain ⟨wi, pi, qi⟩ := hi.ex
  exact ⟨_, pe_lc (wi := wi) (g := tG X.K tgt) (tt := tT X.K W0 cl (clr o tgt.slots) ft) (te := tE X.K W0 cl (clr o tgt.slots) .sh fe) hc hN pi ok (fun s H C clo fp => (hg s H C clo fp).pg) (fun s H C clo fp => (ht s H C clo fp).pt) (fun s H C clo fp => (he s H C clo fp).pe) hs, fun S H σ ρ Q z sd st p => lc_walk hsub qi z sd st p⟩

/-! ### list(range(..)) -/
theorem rg_rp {K : Fg} {S : Sh} {H : Hp} (a b : Int) : RpA K S H (rgV a b) (rngL a (b - a).toNat) := by
  unfold rgV rngL
  generalize List.range (b - a).toNat = l
  induction l with
  | nil => simp only [List.map_nil, RpA]
  | cons i l ih => simp only [List.map_cons, RpA, Rp]; exact ⟨trivial, ih⟩
theorem se_lr1 {m : Md} {a : Expr} {fa : Env → R D} {p p2 pos pos2 : Pos} (hc : X.calm = true) (nl : Bn X "list") (nr : Bn X "range") (ha : SE X W cl o m a fa) (hs : starEach [a] X.env = (false, eval a X.env) :: starEach [] X.env) :
    SE X W cl o .fr (.Call (.Name "list" p) [.Call (.Name "range" p2) [a] [] pos2] [] pos) (fun ρ => (fa ρ).bind fun x => (intD x).bind fun j => .when (sm62 j && decide (j.toNat ≤ 2 ^ 24)) (.ok (.lst (rngL 0 j.toNat)))) := by
  obtain ⟨t, pa, q⟩ := ha.ex
  refine ⟨_, pe_sz (pe_listRg hc nl.g nl.m (prg_1 nr.g nr.m pa hs)), fun S H σ ρ Q z sd st p => ?_⟩
  refine SE.then (X := X) (W := W) (cl := cl) (o := o) q z sd st p fun d v S1 H1 g1 z1 sd1 st1 r1 p1 => ?_
  cases d with
  | int j =>
    have p2 : Pst X.K W cl σ S H (fun S' H' v d => Res X.K H S' H' .fr v d) (PP.R.when (sm62 j && decide (j.toNat ≤ 2 ^ 24)) (.ok (.lst (rngL 0 j.toNat)))) Q := p1
    cases hj : sm62 j && decide (j.toNat ≤ 2 ^ 24) with
    | false => rw [hj] at p2; exact False.elim p2
    | true =>
      rw [hj] at p2
      simp only [Bool.and_eq_true, decide_eq_true_eq] at hj
      obtain ⟨h1, h2⟩ := sm62_iff.mp hj.1
      refine ⟨j, (Res.rt r1).int, ⟨by decide, by decide, h1, h2, by rw [Int.sub_zero]; exact hj.2⟩, ?_⟩
      have r := rg_rp (K := X.K) (S := S1) (H := H1) 0 j
      rw [Int.sub_zero] at r
      exact VOk.lst sd1 (VOk.of (W := W) (σ := σ) (fun _ _ e => nomatch e) g1 p2) r
  | _ => exact False.elim p1
theorem se_lr2 {m m' : Md} {a b : Expr} {fa fb : Env → R D} {p p2 pos pos2 : Pos} (hc : X.calm = true) (nl : Bn X "list") (nr : Bn X "range") (ha : SE X W cl o m a fa) (hb : SE X W cl o m' b fb) (hs : starEach [a, b] X.env = (false, eval a X.env) :: starEach [b] X.env)
    (hs2 : starEach [b] X.env = (false, eval b X.env) :: starEach [] X.env) (hpl : (backTo pos2 (starEach [b] X.env)).any (·.1) = false) :
    SE X W cl o .fr (.Call (.Name "list" p) [.Call (.Name "range" p2) [a, b] [] pos2] [] pos) (fun ρ => (fa ρ).bind fun x => (fb ρ).bind fun y => (intD x).bind fun i => (intD y).bind fun j => .when (sm62 i && sm62 j && decide ((j - i).toNat ≤ 2 ^ 24)) (.ok (.lst (rngL i (j - i).toNat)))) := by
  obtain ⟨t, pa, q⟩ := ha.ex
  obtain ⟨t', pb, q'⟩ := hb.ex
  refine ⟨_, pe_sz (pe_listRg hc nl.g nl.m (prg_2 nr.g nr.m pa pb hs hs2 hpl)), fun S H σ ρ Q z sd st p => ?_⟩
  refine SE.then (X := X) (W := W) (cl := cl) (o := o) q z sd st p fun d v S1 H1 g1 z1 sd1 st1 r1 p1 => ?_
  refine SE.then (X := X) (W := W) (cl := cl) (o := o) q' z1 sd1 st1 (p1.rebase g1 fun S' H' b a h => (Res.back g1 h : Res X.K H S' H' .fr b a)) fun e u S2 H2 g2 z2 sd2 st2 r2 p2 => ?_
  cases d with
  | int i =>
    cases e with
    | int j =>
      have p3 : Pst X.K W cl σ S1 H1 (fun S' H' v d => Res X.K H1 S' H' .fr v d) (PP.R.when (sm62 i && sm62 j && decide ((j - i).toNat ≤ 2 ^ 24)) (.ok (.lst (rngL i (j - i).toNat)))) Q := p2
      cases hj : sm62 i && sm62 j && decide ((j - i).toNat ≤ 2 ^ 24) with
      | false => rw [hj] at p3; exact False.elim p3
      | true =>
        rw [hj] at p3
        simp only [Bool.and_eq_true, decide_eq_true_eq] at hj
        obtain ⟨h1, h2⟩ := sm62_iff.mp hj.1.1
        obtain ⟨h3, h4⟩ := sm62_iff.mp hj.1.2
        refine ⟨i, j, (Res.rt r1).int, (Res.rt r2).int, ⟨h1, h2, h3, h4, hj.2⟩, ?_⟩
        exact VOk.lst sd2 (VOk.of (W := W) (σ := σ) (fun _ _ e => nomatch e) g2 p3) (rg_rp i j)
    | _ => exact False.elim p2
  | _ => exact False.elim p2
end
end PP
/-! Statements. -/
namespace PP
open PySem PySem.Spec L2
open PySem.PyData (strOk)

section
variable {X : Cx} {W : WX} {cl : Nat → Value} {S0 : Sh} {fr : Bool} {o o' oL : List Bool}
/-- how it stands between statements -/
structure Sts (X : Cx) (S0 : Sh) (o : List Bool) (S : Sh) (H : Hp) (ρ : Env) (σ : L2.St) : Prop where
  gr : Gr S0 X.H_0 S H
  st : StOk X.K o S H ρ σ
  fr : ∀ i d a, o.getD i false = true → ρ[i]? = some (some d) → isMut d = true → σ[i]? = some (some (.ref a)) → X.H_0 a = none
/-- what must be wanted behind -/
def Post (X : Cx) (W : WX) (cl : Nat → Value) (S0 : Sh) (fr : Bool) (oL o' : List Bool) (S : Sh) (H : Hp) (D : Ends) : O → Prop
  | .nx ρ => ∀ σ' S' H', Gs S H S' H' → Sts X S0 o' S' H' ρ σ' → HSz X.K H' → D.nx σ' H'
  | .rt d => ∀ v S' H', Gr S0 X.H_0 S' H' → HSz X.K H' → Res X.K X.H_0 S' H' (mdF fr) v d → D.rt v H'
  | .bk ρ => ∀ σ' S' H', Gs S H S' H' → Sts X S0 oL S' H' ρ σ' → HSz X.K H' → D.bk σ' H'
  | .ct ρ => ∀ σ' S' H', Gs S H S' H' → Sts X S0 oL S' H' ρ σ' → HSz X.K H' → D.ct σ' H'
  | .er c _ => ∀ σ' S' H', Gr S0 X.H_0 S' H' → W (cl c) none σ' H'
  | .bad => False
def szD (K : Fg) (D : Ends) : Ends := { nx := fun σ H => HSz K H → D.nx σ H, rt := fun v H => HSz K H → D.rt v H, bk := fun σ H => HSz K H → D.bk σ H, ct := fun σ H => HSz K H → D.ct σ H }
def tS (X : Cx) (W : WX) (cl : Nat → Value) (S0 : Sh) (fr : Bool) (oL o o' : List Bool) (f : Env → O) : TS := fun D σ H => ∃ S ρ, HSz X.K H ∧ Sts X S0 o S H ρ σ ∧ Post X W cl S0 fr oL o' S H D (f ρ)
theorem unsz {pins : List (Addr × Obj)} {D : Ends} {f : Flow} {s : Shared} (h : L2.SP X pins (szD X.K D) f s) : L2.SP X pins D f s := by
  cases f with
  | next => obtain ⟨σ', H', I, q⟩ := h; exact ⟨σ', H', I, q (hsz_of I)⟩
  | brk => obtain ⟨σ', H', I, q⟩ := h; exact ⟨σ', H', I, q (hsz_of I)⟩
  | cont => obtain ⟨σ', H', I, q⟩ := h; exact ⟨σ', H', I, q (hsz_of I)⟩
  | ret u => obtain ⟨v, σ', H', I, r, q⟩ := h; exact ⟨v, σ', H', I, r, q (hsz_of I)⟩
abbrev SSt (X : Cx) (W : WX) (cl : Nat → Value) (S0 : Sh) (fr : Bool) (oL o o' : List Bool) (st : Stmt) (f : Env → O) : Prop := PS X st (tS X W cl S0 fr oL o o' f)
abbrev SSs (X : Cx) (W : WX) (cl : Nat → Value) (S0 : Sh) (fr : Bool) (oL o o' : List Bool) (st : List Stmt) (f : Env → O) : Prop := PSs X st (tS X W cl S0 fr oL o o' f)
theorem SSt.mk {st : Stmt} {t : TS} {f : Env → O} (h : PS X st t) (q : ∀ D S H σ ρ, HSz X.K H → Sts X S0 o S H ρ σ → Post X W cl S0 fr oL o' S H D (f ρ) → t (szD X.K D) σ H) : SSt X W cl S0 fr oL o o' st f :=
  ⟨fun pins s σ H D I ⟨S, ρ, z, sts, p⟩ => thn (h.run pins s σ H _ I (q D S H σ ρ z sts p)) fun _ _ hs => unsz hs⟩
theorem Post.rebase {S S1 : Sh} {H H1 : Hp} {D : Ends} {r : O} (g : Gs S H S1 H1) (p : Post X W cl S0 fr oL o' S H D r) : Post X W cl S0 fr oL o' S1 H1 D r := by
  cases r with
  | nx ρ => exact fun σ' S' H' g' => p σ' S' H' (g.trans g')
  | rt d => exact p
  | bk ρ => exact fun σ' S' H' g' => p σ' S' H' (g.trans g')
  | ct ρ => exact fun σ' S' H' g' => p σ' S' H' (g.trans g')
  | er c p' => exact p
  | bad => exact p
theorem Sts.sd {S : Sh} {H : Hp} {ρ : Env} {σ : L2.St} (h : Sts X S0 o S H ρ σ) : SD S H := h.gr.sd
theorem Sts.grow {S S1 : Sh} {H H1 : Hp} {ρ : Env} {σ : L2.St} (h : Sts X S0 o S H ρ σ) (g : Gr S H S1 H1) : Sts X S0 o S1 H1 ρ σ := ⟨h.gr.trans g, h.st.gr g h.sd, h.fr⟩
/-- a value's reading within a statement -/
theorem Post.to {α β : Type} {Rl : Sh → Hp → β → α → Prop} {S : Sh} {H : Hp} {ρ : Env} {σ : L2.St} {D : Ends} {r : R α} {k : α → O} {Q1 : β → Hp → Prop} (sts : Sts X S0 o S H ρ σ) (p : Post X W cl S0 fr oL o' S H D (r.to k))
    (c : ∀ a b S1 H1, r = .ok a → Gr S H S1 H1 → HSz X.K H1 → Sts X S0 o S1 H1 ρ σ → Rl S1 H1 b a → Post X W cl S0 fr oL o' S1 H1 D (k a) → Q1 b H1) : Pst X.K W cl σ S H Rl r Q1 := by
  cases r with
  | ok a => exact fun b S1 H1 g z q => c a b S1 H1 rfl g z (sts.grow g) q (Post.rebase (g.gs sts.sd) p)
  | err c' p' => exact fun S' H' g => p σ S' H' (sts.gr.trans g)
  | bad => exact p
theorem Sts.nx {S : Sh} {H : Hp} {ρ : Env} {σ : L2.St} {D : Ends} (p : Post X W cl S0 fr oL o' S H D (.nx ρ)) {σ' : L2.St} {S' : Sh} {H' : Hp} (g : Gs S H S' H') (s : Sts X S0 o' S' H' ρ σ') : (szD X.K D).nx σ' H' := fun z => p σ' S' H' g s z

/-! ### small ones -/
theorem ss_pass {pos : Pos} : SSt X W cl S0 fr oL o o (.Pass pos) (fun ρ => .nx ρ) := SSt.mk ps_pass fun D S H σ ρ z sts p => Sts.nx (ρ := ρ) (σ := σ) p Gs.refl sts
theorem ss_brk {pos : Pos} : SSt X W cl S0 fr o o o' (.Break pos) (fun ρ => .bk ρ) := SSt.mk ps_break fun D S H σ ρ z sts p => fun z' => p σ S H Gs.refl sts z'
theorem ss_cont {pos : Pos} : SSt X W cl S0 fr o o o' (.Continue pos) (fun ρ => .ct ρ) := SSt.mk ps_continue fun D S H σ ρ z sts p => fun z' => p σ S H Gs.refl sts z'
theorem ss_retN {pos : Pos} : SSt X W cl S0 fr oL o o' (.Return none pos) (fun _ => .rt .non) := SSt.mk ps_retN fun D S H σ ρ z sts p => fun z' => p .non S H sts.gr z' (by
  cases fr with
  | true => exact .inl ⟨rfl, by simp only [Rp]⟩
  | false => show Rp _ _ _ _ _; simp only [Rp])
theorem ss_never {st : Stmt} : SSt X W cl S0 fr oL o o' st (fun _ => .bad) := SSt.mk ps_never fun D S H σ ρ z sts p => p
theorem ss_ret {e : Expr} {f : Env → R D} {pos : Pos} (h : SE X W cl o (mdF fr) e f) : SSt X W cl S0 fr oL o o' (.Return (some e) pos) (fun ρ => (f ρ).to fun d => .rt d) := by
  obtain ⟨t, pe, q⟩ := h.ex
  refine SSt.mk (ps_ret pe) fun D S H σ ρ z sts p => ?_
  refine q S H σ ρ _ z sts.sd sts.st (Post.to sts p fun d v S1 H1 _ g1 z1 s1 r1 p1 => ?_)
  exact fun z' => p1 v S1 H1 s1.gr z' (Res.back sts.gr r1)
/-- its own list or dict -/
theorem ss_retO {i : Nat} {x : Str} {pos pos' : Pos} (hN : X.N[i]? = some x) (hv : Vis X.env.scope x) (hd : (x == ("__debug__" : Str)) = false) (hcd : (x == ("__classdict__" : Str)) = false) (ho : o.getD i false = true) :
    SSt X W cl S0 true oL o o' (.Return (some (.Name x pos)) pos') (fun ρ => (getE ρ i).to fun d => .rt d) := by
  refine SSt.mk (ps_ret (pe_var hN hv hd hcd)) fun D S H σ ρ z sts p => ?_
  cases e : ρ[i]? with
  | none => unfold getE at p; rw [e] at p; exact False.elim p
  | some od =>
    cases od with
    | none => unfold getE at p; rw [e] at p; exact False.elim p
    | some d =>
      unfold getE at p
      rw [e] at p
      have p : Post X W cl S0 true oL o' S H D (.rt d) := p
      obtain ⟨v, ev, r⟩ := sts.st.val i d e
      rw [if_pos ho] at r
      refine ⟨v, ev, fun z' => p v S H sts.gr z' ?_⟩
      rcases r with ⟨m, r⟩ | ⟨a, rfl, r, _⟩
      · exact .inl ⟨m, r⟩
      · exact .inr ⟨a, rfl, r, sts.fr i d a ho e r.isMut ev⟩
theorem ss_expr {m : Md} {e : Expr} {f : Env → R D} {pos : Pos} (h : SE X W cl o m e f) (hs : swapsWith e none pos.line X.env = pure false) : SSt X W cl S0 fr oL o o (.Expr e pos) (fun ρ => (f ρ).to fun _ => .nx ρ) := by
  obtain ⟨t, pe, q⟩ := h.ex
  refine SSt.mk (ps_expr pe hs) fun D S H σ ρ z sts p => ?_
  refine q S H σ ρ _ z sts.sd sts.st (Post.to sts p fun d v S1 H1 _ g1 z1 s1 r1 p1 => ?_)
  exact Sts.nx (ρ := ρ) (σ := σ) p1 Gs.refl s1

/-! ### blocks -/
theorem sss_nil : SSs X W cl S0 fr oL o o [] (fun ρ => .nx ρ) := ⟨fun pins s σ H D I ⟨S, ρ, z, sts, p⟩ => pss_nil.run pins s σ H D I (p σ S H Gs.refl sts z)⟩
def seqO (r : O) (k : Env → O) : O := match r with
  | .nx ρ1 => k ρ1
  | .rt d => .rt d
  | .bk ρ1 => .bk ρ1
  | .ct ρ1 => .ct ρ1
  | .er c p => .er c p
  | .bad => .bad
theorem sss_cons {o1 : List Bool} {st : Stmt} {rest : List Stmt} {f g : Env → O} (h1 : SSt X W cl S0 fr oL o o1 st f) (h2 : SSs X W cl S0 fr oL o1 o' rest g) : SSs X W cl S0 fr oL o o' (st :: rest) (fun ρ => seqO (f ρ) g) := by
  refine ⟨fun pins s σ H D I ⟨S, ρ, z, sts, p⟩ => (pss_cons h1 h2).run pins s σ H D I ⟨S, ρ, z, sts, ?_⟩⟩
  have p : Post X W cl S0 fr oL o' S H D (seqO (f ρ) g) := p
  cases e : f ρ with
  | nx ρ1 =>
    rw [e] at p
    exact fun σ' S' H' g' s' z' => ⟨S', ρ1, z', s', Post.rebase g' p⟩
  | rt d => rw [e] at p; exact p
  | bk ρ1 => rw [e] at p; exact p
  | ct ρ1 => rw [e] at p; exact p
  | er c p' => rw [e] at p; exact p
  | bad => rw [e] at p; exact p
theorem sss_one {st : Stmt} {f : Env → O} (h1 : SSt X W cl S0 fr oL o o' st f) : SSs X W cl S0 fr oL o o' [st] f := ⟨fun pins s σ H D I h => (pss_one h1).run pins s σ H D I h⟩
theorem SSs.congr {st : List Stmt} {f f' : Env → O} (h : SSs X W cl S0 fr oL o o' st f) (hf : ∀ ρ, f ρ = f' ρ) : SSs X W cl S0 fr oL o o' st f' := by
  obtain rfl : f = f' := funext hf
  exact h
theorem SSt.congr {st : Stmt} {f f' : Env → O} (h : SSt X W cl S0 fr oL o o' st f) (hf : ∀ ρ, f ρ = f' ρ) : SSt X W cl S0 fr oL o o' st f' := by
  obtain rfl : f = f' := funext hf
  exact h
/-! its own goes to all -/
theorem Sts.share1 {S : Sh} {H : Hp} {ρ : Env} {σ : L2.St} (i : Nat) (h : Sts X S0 o S H ρ σ) : ∃ S', Gs S H S' H ∧ Sts X S0 (o.set i false) S' H ρ σ := by
  have low : ∀ {S' : Sh}, (∀ a, S' a → S a ∨ a ∈ (match σ[i]? with
      | some (some (.ref b)) => [b]
      | _ => [])) → True := fun _ => trivial
  by_cases ho : o.getD i false = true
  · -- the slot's own address, if any
    have keepflag : ∀ (S' : Sh), Gr S0 X.H_0 S' H → Gs S H S' H → (∀ j d a, j ≠ i → o.getD j false = true → ρ[j]? = some (some d) → isMut d = true → σ[j]? = some (some (.ref a)) → S' a → S a) → (∀ d, ρ[i]? = some (some d) → ∃ v, σ[i]? = some (some v) ∧ Rp X.K S' H v d) → Sts X S0 (o.set i false) S' H ρ σ := fun S' g gs hown hi => by
      refine ⟨g, ⟨h.st.len, fun j d e => ?_, fun j k a dj dk hne oj ok => h.st.sep j k a dj dk hne (getD_set_false oj).1 (getD_set_false ok).1⟩, fun j d a oj => h.fr j d a (getD_set_false oj).1⟩
      by_cases hj : j = i
      · subst hj
        obtain ⟨v, ev, r⟩ := hi d e
        refine ⟨v, ev, ?_⟩
        split
        · rename_i c
          exact absurd rfl (getD_set_false c).2
        · exact r
      · obtain ⟨v, ev, r⟩ := h.st.val j d e
        refine ⟨v, ev, ?_⟩
        have : (o.set i false).getD j false = o.getD j false := by
          rw [List.getD, List.getElem?_set_ne (Ne.symm hj)]; rfl
        rw [this]
        split
        · rename_i c
          rw [if_pos c] at r
          rcases r with ⟨m, r⟩ | ⟨a, rfl, r, q⟩
          · exact .inl ⟨m, Rp.mono gs _ _ r⟩
          · exact .inr ⟨a, rfl, r.mono gs (fun s => r.not (hown j d a hj c e r.isMut ev s)) rfl, q⟩
        · rename_i c
          rw [if_neg c] at r
          exact Rp.mono gs _ _ r
    cases e : ρ[i]? with
    | none => exact ⟨S, Gs.refl, keepflag S h.gr Gs.refl (fun _ _ _ _ _ _ _ _ s => s) fun d q => by rw [e] at q; cases q⟩
    | some od =>
      cases od with
      | none => exact ⟨S, Gs.refl, keepflag S h.gr Gs.refl (fun _ _ _ _ _ _ _ _ s => s) fun d q => by rw [e] at q; cases q⟩
      | some d =>
        obtain ⟨v, ev, r⟩ := h.st.val i d e
        rw [if_pos ho] at r
        rcases r with ⟨m, r⟩ | ⟨a, rfl, r, _⟩
        · exact ⟨S, Gs.refl, keepflag S h.gr Gs.refl (fun _ _ _ _ _ _ _ _ s => s) fun d' q => by rw [e] at q; cases q; exact ⟨v, ev, r⟩⟩
        · refine ⟨fun b => S b ∨ b = a, Gs.share a, keepflag _ (h.gr.share (h.fr i d a ho e r.isMut ev) r.dom) (Gs.share a) (fun j dj b hj oj ej mj sj s => ?_) fun d' q => by rw [e] at q; cases q; exact ⟨_, ev, r.share⟩⟩
          rcases s with s | s
          · exact s
          · subst s
            exact False.elim (h.st.sep j i b dj d hj oj ho ej e mj r.isMut sj ev)
  · refine ⟨S, Gs.refl, ⟨h.gr, ⟨h.st.len, fun j d e => ?_, fun j k a dj dk hne oj ok => h.st.sep j k a dj dk hne (getD_set_false oj).1 (getD_set_false ok).1⟩, fun j d a oj => h.fr j d a (getD_set_false oj).1⟩⟩
    obtain ⟨v, ev, r⟩ := h.st.val j d e
    refine ⟨v, ev, ?_⟩
    have : (o.set i false).getD j false = o.getD j false := by
      by_cases hj : j = i
      · subst hj
        have h1 : o.getD j false = false := by simpa using ho
        rw [h1]
        cases h2 : (o.set j false).getD j false with
        | false => rfl
        | true => exact absurd rfl (getD_set_false h2).2
      · rw [List.getD, List.getElem?_set_ne (Ne.symm hj)]; rfl
    rw [this]
    exact r
theorem Sts.share {S : Sh} {H : Hp} {ρ : Env} {σ : L2.St} : ∀ (l : List Nat) {o : List Bool} {S : Sh}, Sts X S0 o S H ρ σ → ∃ S', Gs S H S' H ∧ Sts X S0 (clr o l) S' H ρ σ
  | [], o, S, h => ⟨S, Gs.refl, h⟩
  | i :: l, o, S, h => by
    obtain ⟨S1, g1, h1⟩ := h.share1 i
    obtain ⟨S2, g2, h2⟩ := Sts.share (S := S1) l h1
    exact ⟨S2, g1.trans g2, h2⟩
theorem sss_share {l : List Nat} {rest : List Stmt} {g : Env → O} (h : SSs X W cl S0 fr oL (clr o l) o' rest g) : SSs X W cl S0 fr oL o o' rest g :=
  ⟨fun pins s σ H D I ⟨S, ρ, z, sts, p⟩ => by
    obtain ⟨S', gs, sts'⟩ := Sts.share (S := S) l sts
    exact h.run pins s σ H D I ⟨S', ρ, z, sts', Post.rebase gs p⟩⟩

/-! ### its own, lent for one reading -/
mutual
theorem Rp.fix {K : Fg} {S S' : Sh} {H : Hp} : ∀ (d : D) (v : V), fixB d = true → Rp K S H v d → Rp K S' H v d
  | .non, _, _, h => by simp only [Rp] at h ⊢; exact h
  | .bl _, _, _, h => by simp only [Rp] at h ⊢; exact h
  | .int _, _, _, h => by simp only [Rp] at h ⊢; exact h
  | .str _, _, _, h => by simp only [Rp] at h ⊢; exact h
  | .lst _, _, f, _ => by simp only [fixB] at f; cases f
  | .dk _, _, f, _ => by simp only [fixB] at f; cases f
  | .dt _, _, f, _ => by simp only [fixB] at f; cases f
  | .fl ds, v, f, h => by
    simp only [fixB] at f
    simp only [Rp] at h ⊢
    obtain ⟨a, xs, e, l, r⟩ := h
    exact ⟨a, xs, e, l, RpA.fix ds xs f r⟩
  | .tup ds, v, f, h => by
    simp only [fixB] at f
    simp only [Rp] at h ⊢
    obtain ⟨a, xs, e, l, r⟩ := h
    exact ⟨a, xs, e, l, RpA.fix ds xs f r⟩
theorem RpA.fix {K : Fg} {S S' : Sh} {H : Hp} : ∀ (ds : List D) (xs : List V), fixA ds = true → RpA K S H xs ds → RpA K S' H xs ds
  | [], [], _, _ => by simp only [RpA]
  | [], _ :: _, _, h => by simp only [RpA] at h
  | _ :: _, [], _, h => by simp only [RpA] at h
  | d :: ds, v :: vs, f, h => by
    simp only [fixA, Bool.and_eq_true] at f
    simp only [RpA] at h ⊢
    exact ⟨Rp.fix d v f.1 h.1, RpA.fix ds vs f.2 h.2⟩
end
theorem RpD.fix {K : Fg} {S S' : Sh} {H : Hp} : ∀ (ds : List (Key × D)) (xs : List (Key × V)), fixA (ds.map (·.2)) = true → RpD K S H xs ds → RpD K S' H xs ds
  | [], [], _, _ => by simp only [RpD]
  | [], _ :: _, _, h => by simp only [RpD] at h
  | _ :: _, [], _, h => by simp only [RpD] at h
  | (e, d) :: ds, (k, v) :: vs, f, h => by
    simp only [List.map_cons, fixA, Bool.and_eq_true] at f
    simp only [RpD] at h ⊢
    exact ⟨h.1, Rp.fix d v f.1 h.2.1, RpD.fix ds vs f.2 h.2.2⟩
theorem RpT.fix {K : Fg} {S S' : Sh} {H : Hp} : ∀ (ds : List (List Key × D)) (xs : List (List Key × V)), fixA (ds.map (·.2)) = true → RpT K S H xs ds → RpT K S' H xs ds
  | [], [], _, _ => by simp only [RpT]
  | [], _ :: _, _, h => by simp only [RpT] at h
  | _ :: _, [], _, h => by simp only [RpT] at h
  | (e, d) :: ds, (k, v) :: vs, f, h => by
    simp only [List.map_cons, fixA, Bool.and_eq_true] at f
    simp only [RpT] at h ⊢
    exact ⟨h.1, Rp.fix d v f.1 h.2.1, RpT.fix ds vs f.2 h.2.2⟩
theorem Ow.fix {K : Fg} {S S' : Sh} {H : Hp} {a : Addr} {d : D} (n : ¬ S' a) (f : fix1 d = true) (h : Ow K S H a d) : Ow K S' H a d := by
  cases h with
  | lst _ l r => exact .lst n l (RpA.fix _ _ f r)
  | dik _ l r => exact .dik n l (RpD.fix _ _ f r)
  | dit _ l r => exact .dit n l (RpT.fix _ _ f r)
theorem fix1_B {d : D} (m : isMut d = false) (f : fix1 d = true) : fixB d = true := by
  cases d <;> first | exact f | (cases m; done)
theorem StOk.lend1 {K : Fg} {S : Sh} {H : Hp} {ρ : Env} {σ : L2.St} (i : Nat) (sd : SD S H) (h : StOk K o S H ρ σ) : ∃ S', Gs S H S' H ∧ SD S' H ∧ StOk K (o.set i false) S' H ρ σ := by
  by_cases ho : o.getD i false = true
  · have keepflag : ∀ (S' : Sh), Gs S H S' H → (∀ j d a, j ≠ i → o.getD j false = true → ρ[j]? = some (some d) → isMut d = true → σ[j]? = some (some (.ref a)) → S' a → S a) → (∀ d, ρ[i]? = some (some d) → ∃ v, σ[i]? = some (some v) ∧ Rp K S' H v d) → StOk K (o.set i false) S' H ρ σ := fun S' gs hown hi => by
      refine ⟨h.len, fun j d e => ?_, fun j k a dj dk hne oj ok => h.sep j k a dj dk hne (getD_set_false oj).1 (getD_set_false ok).1⟩
      by_cases hj : j = i
      · subst hj
        obtain ⟨v, ev, r⟩ := hi d e
        refine ⟨v, ev, ?_⟩
        split
        · rename_i c
          exact absurd rfl (getD_set_false c).2
        · exact r
      · obtain ⟨v, ev, r⟩ := h.val j d e
        refine ⟨v, ev, ?_⟩
        have : (o.set i false).getD j false = o.getD j false := by
          rw [List.getD, List.getElem?_set_ne (Ne.symm hj)]; rfl
        rw [this]
        split
        · rename_i c
          rw [if_pos c] at r
          rcases r with ⟨m, r⟩ | ⟨a, rfl, r, q⟩
          · exact .inl ⟨m, Rp.mono gs _ _ r⟩
          · exact .inr ⟨a, rfl, r.mono gs (fun s => r.not (hown j d a hj c e r.isMut ev s)) rfl, q⟩
        · rename_i c
          rw [if_neg c] at r
          exact Rp.mono gs _ _ r
    cases e : ρ[i]? with
    | none => exact ⟨S, Gs.refl, sd, keepflag S Gs.refl (fun _ _ _ _ _ _ _ _ s => s) fun d q => by rw [e] at q; cases q⟩
    | some od =>
      cases od with
      | none => exact ⟨S, Gs.refl, sd, keepflag S Gs.refl (fun _ _ _ _ _ _ _ _ s => s) fun d q => by rw [e] at q; cases q⟩
      | some d =>
        obtain ⟨v, ev, r⟩ := h.val i d e
        rw [if_pos ho] at r
        rcases r with ⟨m, r⟩ | ⟨a, rfl, r, _⟩
        · exact ⟨S, Gs.refl, sd, keepflag S Gs.refl (fun _ _ _ _ _ _ _ _ s => s) fun d' q => by rw [e] at q; cases q; exact ⟨v, ev, r⟩⟩
        · refine ⟨fun b => S b ∨ b = a, Gs.share a, fun b s => s.elim (sd b) fun q => by rw [q]; exact r.dom, keepflag _ (Gs.share a) (fun j dj b hj oj ej mj sj s => ?_) fun d' q => by rw [e] at q; cases q; exact ⟨_, ev, r.share⟩⟩
          rcases s with s | s
          · exact s
          · subst s
            exact False.elim (h.sep j i b dj d hj oj ho ej e mj r.isMut sj ev)
  · refine ⟨S, Gs.refl, sd, ⟨h.len, fun j d e => ?_, fun j k a dj dk hne oj ok => h.sep j k a dj dk hne (getD_set_false oj).1 (getD_set_false ok).1⟩⟩
    obtain ⟨v, ev, r⟩ := h.val j d e
    refine ⟨v, ev, ?_⟩
    have : (o.set i false).getD j false = o.getD j false := by
      by_cases hj : j = i
      · subst hj
        have h1 : o.getD j false = false := by simpa using ho
        rw [h1]
        cases h2 : (o.set j false).getD j false with
        | false => rfl
        | true => exact absurd rfl (getD_set_false h2).2
      · rw [List.getD, List.getElem?_set_ne (Ne.symm hj)]; rfl
    rw [this]
    exact r
theorem StOk.lend {K : Fg} {H : Hp} {ρ : Env} {σ : L2.St} : ∀ (l : List Nat) {o : List Bool} {S : Sh}, SD S H → StOk K o S H ρ σ → ∃ S', Gs S H S' H ∧ SD S' H ∧ StOk K (clr o l) S' H ρ σ
  | [], o, S, sd, h => ⟨S, Gs.refl, sd, h⟩
  | i :: l, o, S, sd, h => by
    obtain ⟨S1, g1, sd1, h1⟩ := StOk.lend1 i sd h
    obtain ⟨S2, g2, sd2, h2⟩ := StOk.lend (S := S1) l sd1 h1
    exact ⟨S2, g1.trans g2, sd2, h2⟩
theorem Gr.low {S S1 S' : Sh} {H H' : Hp} (sd : SD S H) (g : Gr S1 H S' H') : Gr S H S H' := ⟨g.same, fun _ s => s, fun _ s => .inl s, fun a s => by
  obtain ⟨ob, e⟩ := sd a s
  exact ⟨ob, g.same a ob e⟩⟩
theorem SE.bor {l : List Nat} {e : Expr} {f : Env → R D} (h : SE X W cl (clr o l) .fr e f) : SE X W cl o .fr e (fun ρ => (f ρ).bind fun d => .when (fix1 d) (.ok d)) := by
  obtain ⟨t, pt, q⟩ := h.ex
  refine ⟨t, pt, fun S H σ ρ Q z sd st p => ?_⟩
  obtain ⟨S1, gs, sd1, st1⟩ := StOk.lend l sd st
  refine q S1 H σ ρ Q z sd1 st1 ?_
  cases hf : f ρ with
  | ok d =>
    rw [hf] at p
    have p : Pst X.K W cl σ S H _ (PP.R.when (fix1 d) (.ok d)) Q := p
    cases hd : fix1 d with
    | false => rw [hd] at p; exact False.elim p
    | true =>
      rw [hd] at p
      refine fun b S' H' g z' r => p b S H' (Gr.low sd g) z' ?_
      rcases r with ⟨m, r⟩ | ⟨a, rfl, r, n⟩
      · exact .inl ⟨m, Rp.fix _ _ (fix1_B m hd) r⟩
      · exact .inr ⟨a, rfl, r.fix (sd.not n) hd, n⟩
  | err c p' => rw [hf] at p; exact fun S' H' g => p S H' (Gr.low sd g)
  | bad => rw [hf] at p; exact p
theorem SE.bos {l : List Nat} {e : Expr} {f : Env → R D} (h : SE X W cl (clr o l) .sh e f) : SE X W cl o .sh e (fun ρ => (f ρ).bind fun d => .when (fixB d) (.ok d)) := by
  obtain ⟨t, pt, q⟩ := h.ex
  refine ⟨t, pt, fun S H σ ρ Q z sd st p => ?_⟩
  obtain ⟨S1, gs, sd1, st1⟩ := StOk.lend l sd st
  refine q S1 H σ ρ Q z sd1 st1 ?_
  cases hf : f ρ with
  | ok d =>
    rw [hf] at p
    have p : Pst X.K W cl σ S H _ (PP.R.when (fixB d) (.ok d)) Q := p
    cases hd : fixB d with
    | false => rw [hd] at p; exact False.elim p
    | true =>
      rw [hd] at p
      exact fun b S' H' g z' r => p b S H' (Gr.low sd g) z' (Rp.fix _ _ hd r)
  | err c p' => rw [hf] at p; exact fun S' H' g => p S H' (Gr.low sd g)
  | bad => rw [hf] at p; exact p

/-- some slots are forgotten -/
theorem wipe_some {l : List Nat} {ρ : Env} {i : Nat} {d : D} (h : (wipeE ρ l)[i]? = some (some d)) : ρ[i]? = some (some d) := by
  rw [wipeE_get] at h
  split at h
  · split at h <;> cases h
  · exact h
theorem Sts.forget {S : Sh} {H : Hp} {ρ : Env} {σ : L2.St} (l : List Nat) (h : Sts X S0 o S H ρ σ) : Sts X S0 o S H (wipeE ρ l) σ :=
  ⟨h.gr, ⟨by rw [wipeE_length]; exact h.st.len, fun i d e => h.st.val i d (wipe_some e), fun i j a di dj n oi oj ei ej => h.st.sep i j a di dj n oi oj (wipe_some ei) (wipe_some ej)⟩,
    fun i d a oi e => h.fr i d a oi (wipe_some e)⟩
theorem sss_wipe {l : List Nat} {rest : List Stmt} {g : Env → O} (h : SSs X W cl S0 fr oL o o' rest g) : SSs X W cl S0 fr oL o o' rest (fun ρ => g (wipeE ρ l)) :=
  ⟨fun pins s σ H D I ⟨S, ρ, z, sts, p⟩ => h.run pins s σ H D I ⟨S, wipeE ρ l, z, sts.forget l, p⟩⟩

/-! ### if -/
theorem ss_ife {c : Expr} {a b : List Stmt} {fc : Env → R Bool} {fa fb : Env → O} {pos : Pos} (hc : ST X W cl o c fc) (ha : SSs X W cl S0 fr oL o o' a fa) (hb : SSs X W cl S0 fr oL o o' b fb) :
    SSt X W cl S0 fr oL o o' (.If c a b pos) (fun ρ => (fc ρ).to fun k => if k then fa ρ else fb ρ) := by
  obtain ⟨t, pt, q⟩ := hc.ex
  refine ⟨fun pins s σ H D I ⟨S, ρ, z, sts, p⟩ => (ps_if pt ha hb).run pins s σ H D I ?_⟩
  refine q S H σ ρ _ z sts.sd sts.st (Post.to sts p fun k b S1 H1 _ g1 z1 s1 e p1 => ?_)
  subst e
  cases b with
  | true => exact iteT ⟨S1, ρ, z1, s1, p1⟩
  | false => exact iteF ⟨S1, ρ, z1, s1, p1⟩
end
end PP
/-! Assignments, changes, loops. -/
namespace PP
open PySem PySem.Spec L2
open PySem.PyData (strOk)

section
variable {X : Cx} {W : WX} {cl : Nat → Value} {S0 : Sh} {fr : Bool} {o o' oL : List Bool}
mutual
theorem asg_get : ∀ (t : Tg) {d : D} {ρ ρ' : Env}, asg t d ρ = some ρ' → ρ'.length = ρ.length ∧ ∀ j, j ∉ t.slots → ρ'[j]? = ρ[j]?
  | .one i, d, ρ, ρ', e => by
    simp only [asg] at e
    split at e
    · cases e
      exact ⟨by simp, fun j hj => List.getElem?_set_ne fun z => hj (by simp [Tg.slots, z])⟩
    · cases e
  | .tup ts, d, ρ, ρ', e => by
    cases d with
    | tup ds => simp only [asg] at e; simp only [Tg.slots]; exact asgs_get ts e
    | _ => simp only [asg] at e; cases e
theorem asgs_get : ∀ (ts : List Tg) {ds : List D} {ρ ρ' : Env}, asgs ts ds ρ = some ρ' → ρ'.length = ρ.length ∧ ∀ j, j ∉ slotsA ts → ρ'[j]? = ρ[j]?
  | [], [], ρ, ρ', e => by simp only [asgs] at e; cases e; exact ⟨rfl, fun _ _ => rfl⟩
  | [], _ :: _, _, _, e => by simp only [asgs] at e; cases e
  | _ :: _, [], _, _, e => by simp only [asgs] at e; cases e
  | t :: ts, d :: ds, ρ, ρ', e => by
    simp only [asgs] at e
    split at e
    · rename_i ρ1 e1
      obtain ⟨h1, h2⟩ := asg_get t e1
      obtain ⟨h3, h4⟩ := asgs_get ts e
      refine ⟨h3.trans h1, fun j hj => ?_⟩
      simp only [slotsA, List.mem_append, not_or] at hj
      rw [h4 j hj.2, h2 j hj.1]
    · cases e
end
theorem clr_true : ∀ {l : List Nat} {o : List Bool} {j : Nat}, (clr o l).getD j false = true → o.getD j false = true ∧ j ∉ l
  | [], o, j, h => ⟨h, by simp⟩
  | i :: l, o, j, h => by
    obtain ⟨h1, h2⟩ := clr_true (l := l) h
    obtain ⟨h3, h4⟩ := getD_set_false h1
    exact ⟨h3, by simp [h4, h2]⟩
theorem Sts.asg {S : Sh} {H : Hp} {ρ ρ' : Env} {σ σ' : L2.St} {t : Tg} {d : D} (h : Sts X S0 o S H ρ σ) (e : PP.asg t d ρ = some ρ') (st : StOk X.K (clr o t.slots) S H ρ' σ') (w : Wst t.slots σ σ') : Sts X S0 (clr o t.slots) S H ρ' σ' := by
  refine ⟨h.gr, st, fun j dj a oj ej mj sj => ?_⟩
  obtain ⟨oj, nj⟩ := clr_true oj
  rw [(asg_get t e).2 j nj] at ej
  rw [w.2 j nj] at sj
  exact h.fr j dj a oj ej mj sj
theorem ss_asg {tg e : Expr} {f : Env → R D} {t : Tg} {pos : Pos} (he : SE X W cl o .sh e f) (hg : SG X tg t) (hs : swapsWithSole [tg] e pos.line X.env = pure false) (hw : swappedStores [tg] e X.env = pure none) (h1 : (assignEach [tg] X.env).map (·.2) = [assign tg X.env]) :
    SSt X W cl S0 fr oL o (clr o t.slots) (.Assign [tg] e pos) (fun ρ => (f ρ).to fun d => match PP.asg t d ρ with
      | some ρ1 => .nx ρ1
      | none => .bad) := by
  obtain ⟨te, pe, q⟩ := he.ex
  obtain ⟨g, pg, qg⟩ := hg.ex
  refine SSt.mk (ps_asg pe pg hs hw h1) fun D S H σ ρ z sts p => ?_
  refine q S H σ ρ _ z sts.sd sts.st (Post.to sts p fun d v S1 H1 _ g1 z1 s1 r1 p1 => ?_)
  cases ea : PP.asg t d ρ with
  | none => rw [ea] at p1; exact False.elim p1
  | some ρ1 =>
    rw [ea] at p1
    exact qg S1 H1 σ ρ ρ1 v d o _ s1.st r1 ea fun σ' st' w' => Sts.nx (ρ := ρ1) (σ := σ') p1 Gs.refl (s1.asg ea st' w')
/-- what is new in a slot -/
theorem getD_set_true {o : List Bool} {i j : Nat} (h : (o.set i true).getD j false = true) : j = i ∨ (j ≠ i ∧ o.getD j false = true) := by
  by_cases e : j = i
  · exact .inl e
  · refine .inr ⟨e, ?_⟩
    rw [List.getD, List.getElem?_set_ne (Ne.symm e)] at h
    exact h
theorem Sts.set_fr {S S1 : Sh} {H H1 : Hp} {ρ : Env} {σ : L2.St} {i : Nat} {v : V} {d : D} (h : Sts X S0 o S H ρ σ) (g : Gr S H S1 H1) (r : Res X.K H S1 H1 .fr v d) (hi : i < ρ.length) (ho : i < o.length) : Sts X S0 (o.set i true) S1 H1 (ρ.set i (some d)) (σ.set i (some v)) := by
  have hs : i < σ.length := by rw [h.st.len]; exact hi
  have h1 := h.grow g
  have flag : ∀ j, j ≠ i → (o.set i true).getD j false = o.getD j false := fun j hj => by
    rw [List.getD, List.getElem?_set_ne (Ne.symm hj)]; rfl
  have hown : ∀ j dj a, j ≠ i → o.getD j false = true → ρ[j]? = some (some dj) → isMut dj = true → σ[j]? = some (some (.ref a)) → isMut d = true → v = .ref a → False := fun j dj a hj oj ej mj sj md ev => by
    obtain ⟨w, ew, rw'⟩ := h.st.val j dj ej
    rw [if_pos oj] at rw'
    rw [sj] at ew
    cases ew
    rcases rw' with ⟨m, _⟩ | ⟨b, eb, r', _⟩
    · rw [mj] at m; cases m
    · cases eb
      obtain ⟨ob, eo⟩ := r'.dom
      rcases r with ⟨m, _⟩ | ⟨b, eb, _, n⟩
      · rw [md] at m; cases m
      · rw [ev] at eb; cases eb
        rw [n] at eo; cases eo
  refine ⟨h1.gr, ⟨by simp [h1.st.len], fun j dj e => ?_, fun j k a dj dk hne oj ok ej ek mj mk sj sk => ?_⟩, fun j dj a oj ej mj sj => ?_⟩
  · by_cases hj : j = i
    · subst hj
      rw [List.getElem?_set_self hi] at e
      cases e
      refine ⟨v, List.getElem?_set_self hs, ?_⟩
      have : (o.set j true).getD j false = true := by
        rw [List.getD, List.getElem?_set_self ho]; rfl
      rw [if_pos this]
      exact r.fr0
    · rw [List.getElem?_set_ne (Ne.symm hj)] at e
      obtain ⟨w, ew, rw'⟩ := h1.st.val j dj e
      refine ⟨w, by rw [List.getElem?_set_ne (Ne.symm hj)]; exact ew, ?_⟩
      rw [flag j hj]
      exact rw'
  · rcases getD_set_true oj with e1 | ⟨nj, oj'⟩
    · subst e1
      rcases getD_set_true ok with e2 | ⟨nk, ok⟩
      · exact hne e2.symm
      · rw [List.getElem?_set_self hi] at ej
        cases ej
        rw [List.getElem?_set_self hs] at sj
        rw [List.getElem?_set_ne (Ne.symm nk)] at ek sk
        exact hown k dk a nk ok ek mk sk mj (by cases sj; rfl)
    · rcases getD_set_true ok with e2 | ⟨nk, ok⟩
      · subst e2
        rw [List.getElem?_set_self hi] at ek
        cases ek
        rw [List.getElem?_set_self hs] at sk
        rw [List.getElem?_set_ne (Ne.symm nj)] at ej sj
        exact hown j dj a nj oj' ej mj sj mk (by cases sk; rfl)
      · rw [List.getElem?_set_ne (Ne.symm nj)] at ej sj
        rw [List.getElem?_set_ne (Ne.symm nk)] at ek sk
        exact h1.st.sep j k a dj dk hne oj' ok ej ek mj mk sj sk
  · rcases getD_set_true oj with e1 | ⟨nj, oj⟩
    · subst e1
      rw [List.getElem?_set_self hi] at ej
      cases ej
      rw [List.getElem?_set_self hs] at sj
      rcases r with ⟨m, _⟩ | ⟨b, eb, _, n⟩
      · rw [mj] at m; cases m
      · cases sj
        cases eb
        exact h.gr.same.free n
    · rw [List.getElem?_set_ne (Ne.symm nj)] at ej sj
      exact h.fr j dj a oj ej mj sj
theorem ss_new {i : Nat} {x : Str} {e : Expr} {f : Env → R D} {pos pos' : Pos} (hN : X.N.Nodup) (hi : X.N[i]? = some x) (hx : Loc X.env.scope x) (hf : X.fn x = true ∨ X.env.scope.names.lookup x = some .local) (ho : i < o.length) (he : SE X W cl o .fr e f)
    (hs : swapsWith e (some (.Name x pos')) pos.line X.env = pure false) : SSt X W cl S0 fr oL o (o.set i true) (.Assign [.Name x pos'] e pos) (fun ρ => (f ρ).to fun d => put i (some d) ρ) := by
  obtain ⟨te, pe, q⟩ := he.ex
  refine SSt.mk (ps_set hN hi hx pe hs hf) fun D S H σ ρ z sts p => ?_
  refine q S H σ ρ _ z sts.sd sts.st (Post.to sts p fun d v S1 H1 _ g1 z1 s1 r1 p1 => ?_)
  simp only [put] at p1
  split at p1
  · rename_i hl
    exact Sts.nx (ρ := ρ.set i (some d)) (σ := σ) p1 Gs.refl (sts.set_fr g1 r1 hl ho)
  · exact False.elim p1
/-- name = [..] on one line -/
theorem ss_setLc {pk fr' : Bool} {i : Nat} {y : Str} {py : Pos} {elt tg iter : Expr} {ifs : List Expr} {scope : Scope} {own : List (Str × Nat)} {pos spos : Pos} {tgt : Tg} {fi : Env → R (List D)} {ft : Env → R Bool} {fe : Env → R D}
    (hc : X.calm = true) (hN : X.N.Nodup) (hy : X.N[i]? = some y) (hyl : X.env.scope.names.lookup y = some .local) (hsw : swapsWith (.ListComp elt [⟨tg, iter, ifs, 0⟩] scope pos) (some (.Name y py)) spos.line X.env = pure true)
    (hi : SI X W cl o pk tg iter fi) (ok : BlkOk X.N X.env.scope scope own) (hsub : ∀ j ∈ tgt.slots, j ∈ own.map (·.2))
    (hg : ∀ (s : Shared) (H : Hp) (C : Addr) (clo : List (Str × Addr)) (fp : List Addr), SG (X.blk s H scope (compEnvC scope clo C X.env) fp) tg tgt)
    (ht : ∀ (s : Shared) (H : Hp) (C : Addr) (clo : List (Str × Addr)) (fp : List Addr), SF (X.blk s H scope (compEnvC scope clo C X.env) fp) W0 cl (clr o tgt.slots) ifs ft)
    (he : ∀ (s : Shared) (H : Hp) (C : Addr) (clo : List (Str × Addr)) (fp : List Addr), SE (X.blk s H scope (compEnvC scope clo C X.env) fp) W0 cl (clr o tgt.slots) .sh elt fe)
    (hs : ∀ x, foldedSetIterable iter X.env x = pure x) (hfr : fr' = true → i < o.length) :
    SSt X W cl S0 fr oL o (if fr' then o.set i true else o.set i false) (.Assign [.Name y py] (.ListComp elt [⟨tg, iter, ifs, 0⟩] scope pos) spos)
      (fun ρ => ((fi ρ).bind fun items => .when (fits items.length) <| ((mapR (lcF tgt (own.map (·.2)) ft fe ρ) items).calm).bind fun ds => .ok (.lst ds)).to fun d => put i (some d) ρ) := by
  obtain ⟨wi, pi, qi⟩ := hi.ex
  refine SSt.mk (ps_setLc (wi := wi) (g := tG X.K tgt) (tt := tT X.K W0 cl (clr o tgt.slots) ft) (te := tE X.K W0 cl (clr o tgt.slots) .sh fe) hc hN hy hyl hsw pi ok (fun s H C clo fp => (hg s H C clo fp).pg) (fun s H C clo fp => (ht s H C clo fp).pt) (fun s H C clo fp => (he s H C clo fp).pe) hs) fun D S H σ ρ z sts p => ?_
  refine lc_walk hsub qi z sts.sd sts.st (Post.to sts p fun d v S1 H1 _ g1 z1 s1 r1 p1 => ?_)
  simp only [put] at p1
  by_cases hl : i < ρ.length
  · rw [if_pos hl] at p1
    cases fr' with
    | true => exact Sts.nx (ρ := ρ.set i (some d)) (σ := σ) p1 Gs.refl (sts.set_fr g1 r1 hl (hfr rfl))
    | false =>
      obtain ⟨S2, g2, r2⟩ := Res.toSh g1 r1
      have gs : Gs S1 H1 S1 H1 := Gs.refl
      have hx : ∃ S2, Gs S1 H1 S2 H1 ∧ Gr S H S2 H1 ∧ Rp X.K S2 H1 v d := by
        rcases r1 with ⟨m, r1⟩ | ⟨a, rfl, r1, n⟩
        · exact ⟨S1, Gs.refl, g1, r1⟩
        · exact ⟨_, Gs.share a, g1.share n r1.dom, r1.share⟩
      obtain ⟨S2, gs2, g2, r2⟩ := hx
      have s2 := sts.grow g2
      refine Sts.nx (ρ := ρ.set i (some d)) (σ := σ) p1 gs2 ⟨s2.gr, s2.st.set_sh r2 hl, fun j dj a oj ej mj sj => ?_⟩
      obtain ⟨oj, nj⟩ := getD_set_false oj
      rw [List.getElem?_set_ne (Ne.symm nj)] at ej sj
      exact s2.fr j dj a oj ej mj sj
  · rw [if_neg hl] at p1
    exact False.elim p1

/-! ### a, b = x, y -/
theorem setAll_get : ∀ {l : List Nat} {ds : List D} {ρ ρ' : Env}, setAll l ds ρ = some ρ' → ρ'.length = ρ.length
  | [], [], _, _, e => by simp only [setAll] at e; cases e; rfl
  | [], _ :: _, _, _, e => by simp only [setAll] at e; cases e
  | _ :: _, [], _, _, e => by simp only [setAll] at e; cases e
  | i :: l, d :: ds, ρ, ρ', e => by
    simp only [setAll] at e
    split at e
    · rw [setAll_get e]; simp
    · cases e
theorem Sts.set_sh {S : Sh} {H : Hp} {ρ : Env} {σ : L2.St} {i : Nat} {v : V} {d : D} (s : Sts X S0 o S H ρ σ) (r : Rp X.K S H v d) (hi : i < ρ.length) : Sts X S0 (o.set i false) S H (ρ.set i (some d)) (σ.set i (some v)) := by
  refine ⟨s.gr, s.st.set_sh r hi, fun j dj a oj ej mj sj => ?_⟩
  obtain ⟨oj, nj⟩ := getD_set_false oj
  rw [List.getElem?_set_ne (Ne.symm nj)] at ej sj
  exact s.fr j dj a oj ej mj sj
theorem ss_par {i j : Nat} {x y : Str} {a b : Expr} {f : Env → R (List D)} {px py pt pos : Pos} {kt k2 : Nat} {pt2 : Pos} (hc : X.calm = true) (hN : X.N.Nodup) (hi : X.N[i]? = some x) (hj : X.N[j]? = some y) (hij : i ≠ j)
    (hx : X.env.scope.names.lookup x = some .local) (hy : X.env.scope.names.lookup y = some .local) (ha : SA X W cl o [a, b] f)
    (hw : swappedStores [.Tuple [.Name x px, .Name y py] kt pt] (.Tuple [a, b] k2 pt2) X.env = pure (some [x, y])) :
    SSt X W cl S0 fr oL o (clr o [i, j]) (.Assign [.Tuple [.Name x px, .Name y py] kt pt] (.Tuple [a, b] k2 pt2) pos) (fun ρ => (f ρ).to fun ds => match setAll [i, j] ds ρ with
      | some ρ1 => .nx ρ1
      | none => .bad) := by
  obtain ⟨t, pa, q⟩ := ha.ex
  refine SSt.mk (ps_par hc hN hi hj hij hx hy pa hw) fun D S H σ ρ z sts p => ?_
  refine q S H σ ρ _ z sts.sd sts.st (Post.to sts p fun ds vs S1 H1 _ g1 z1 s1 r1 p1 => ?_)
  match ds, r1, p1 with
  | [], _, p1 => exact False.elim p1
  | [d1], _, p1 =>
    simp only [setAll] at p1
    split at p1
    · rename_i h; split at h <;> cases h
    · exact False.elim p1
  | [d1, d2], r1, p1 =>
    match vs, r1 with
    | [], r1 => simp only [RpA] at r1
    | [_], r1 => simp only [RpA] at r1; exact r1.2.elim
    | _ :: _ :: _ :: _, r1 => simp only [RpA] at r1; exact r1.2.2.elim
    | [v, w], r1 =>
      simp only [RpA] at r1
      refine ⟨v, w, rfl, ?_⟩
      simp only [setAll] at p1
      by_cases h1 : i < ρ.length
      · rw [if_pos h1] at p1
        by_cases h2 : j < ρ.length
        · rw [if_pos (by simpa using h2)] at p1
          exact Sts.nx (ρ := (ρ.set i (some d1)).set j (some d2)) (σ := σ) p1 Gs.refl ((s1.set_sh r1.1 h1).set_sh r1.2.1 (by simpa using h2))
        · rw [if_neg (by simpa using h2)] at p1
          exact False.elim p1
      · rw [if_neg h1] at p1
        exact False.elim p1
  | d1 :: d2 :: d3 :: r, _, p1 =>
    simp only [setAll] at p1
    split at p1
    · rename_i h; (repeat' split at h) <;> cases h
    · exact False.elim p1
theorem ss_par3 {i j l : Nat} {x y y3 : Str} {a b c : Expr} {f : Env → R (List D)} {px py pz pt pos : Pos} {kt k2 : Nat} {pt2 : Pos} (hc : X.calm = true) (hN : X.N.Nodup) (hi : X.N[i]? = some x) (hj : X.N[j]? = some y) (hl : X.N[l]? = some y3) (hij : i ≠ j) (hil : i ≠ l) (hjl : j ≠ l)
    (hx : X.env.scope.names.lookup x = some .local) (hy : X.env.scope.names.lookup y = some .local) (hz : X.env.scope.names.lookup y3 = some .local) (ha : SA X W cl o [a, b, c] f)
    (hw : swappedStores [.Tuple [.Name x px, .Name y py, .Name y3 pz] kt pt] (.Tuple [a, b, c] k2 pt2) X.env = pure (some [x, y, y3])) :
    SSt X W cl S0 fr oL o (clr o [i, j, l]) (.Assign [.Tuple [.Name x px, .Name y py, .Name y3 pz] kt pt] (.Tuple [a, b, c] k2 pt2) pos) (fun ρ => (f ρ).to fun ds => match setAll [i, j, l] ds ρ with
      | some ρ1 => .nx ρ1
      | none => .bad) := by
  obtain ⟨t, pa, q⟩ := ha.ex
  refine SSt.mk (ps_par3 hc hN hi hj hl hij hil hjl hx hy hz pa hw) fun D S H σ ρ z sts p => ?_
  refine q S H σ ρ _ z sts.sd sts.st (Post.to sts p fun ds vs S1 H1 _ g1 z1 s1 r1 p1 => ?_)
  match ds, r1, p1 with
  | [], _, p1 => exact False.elim p1
  | [d1], _, p1 =>
    simp only [setAll] at p1
    split at p1
    · rename_i h; (repeat' split at h) <;> cases h
    · exact False.elim p1
  | [d1, d2], _, p1 =>
    simp only [setAll] at p1
    split at p1
    · rename_i h; (repeat' split at h) <;> cases h
    · exact False.elim p1
  | [d1, d2, d3], r1, p1 =>
    match vs, r1 with
    | [], r1 => simp only [RpA] at r1
    | [_], r1 => simp only [RpA] at r1; exact r1.2.elim
    | [_, _], r1 => simp only [RpA] at r1; exact r1.2.2.elim
    | _ :: _ :: _ :: _ :: _, r1 => simp only [RpA] at r1; exact r1.2.2.2.elim
    | [u, v, w], r1 =>
      simp only [RpA] at r1
      refine ⟨u, v, w, rfl, ?_⟩
      simp only [setAll] at p1
      by_cases h1 : i < ρ.length
      · rw [if_pos h1] at p1
        by_cases h2 : j < ρ.length
        · rw [if_pos (by simpa using h2)] at p1
          by_cases h3 : l < ρ.length
          · rw [if_pos (by simpa using h3)] at p1
            exact Sts.nx (ρ := ((ρ.set i (some d1)).set j (some d2)).set l (some d3)) (σ := σ) p1 Gs.refl (((s1.set_sh r1.1 h1).set_sh r1.2.1 (by simpa using h2)).set_sh r1.2.2.1 (by simpa using h3))
          · rw [if_neg (by simpa using h3)] at p1
            exact False.elim p1
        · rw [if_neg (by simpa using h2)] at p1
          exact False.elim p1
      · rw [if_neg h1] at p1
        exact False.elim p1
  | d1 :: d2 :: d3 :: d4 :: r, _, p1 =>
    simp only [setAll] at p1
    split at p1
    · rename_i h; (repeat' split at h) <;> cases h
    · exact False.elim p1
theorem ss_aug {i : Nat} {x : Str} {e : Expr} {f : Env → R D} {m : Md} {pos pos' : Pos} (hN : X.N.Nodup) (hi : X.N[i]? = some x) (hx : Loc X.env.scope x) (hf : X.fn x = true ∨ X.env.scope.names.lookup x = some .local) (he : SE X W cl o m e f) :
    SSt X W cl S0 fr oL o (o.set i false) (.AugAssign (.Name x pos') .Add e pos) (fun ρ => ((getE ρ i).bind intD).to fun a => ((f ρ).bind intD).to fun b => put i (some (.int (a + b))) ρ) := by
  obtain ⟨te, pe, q⟩ := he.ex
  refine SSt.mk (ps_aug hN hi hx pe ip_add hf) fun D S H σ ρ z sts p => ?_
  cases eg : ρ[i]? with
  | none => unfold getE at p; rw [eg] at p; exact False.elim p
  | some od =>
    cases od with
    | none => unfold getE at p; rw [eg] at p; exact False.elim p
    | some d =>
      unfold getE at p
      rw [eg] at p
      obtain ⟨v, ev, r⟩ := sts.st.val i d eg
      cases d with
      | int a =>
        have rv : v = .int a := by
          have : Rt X.K S H v (.int a) := by
            split at r
            · exact Res.rt r
            · exact .inl r
          exact this.int
        subst rv
        refine ⟨.int a, ev, ?_⟩
        have p : Post X W cl S0 fr oL (o.set i false) S H D (((f ρ).bind intD).to fun b => put i (some (.int (a + b))) ρ) := p
        have p2 : Post X W cl S0 fr oL (o.set i false) S H D ((f ρ).to fun d => (intD d).to fun b => put i (some (.int (a + b))) ρ) := by
          cases e2 : f ρ with
          | ok d => rw [e2] at p; exact p
          | err c p' => rw [e2] at p; exact p
          | bad => rw [e2] at p; exact p
        refine q S H σ ρ _ z sts.sd sts.st (Post.to sts p2 fun d v S1 H1 _ g1 z1 s1 r1 p1 => ?_)
        cases d with
        | int b =>
          have p1 : Post X W cl S0 fr oL (o.set i false) S1 H1 D (put i (some (.int (a + b))) ρ) := p1
          simp only [put] at p1
          split at p1
          · rename_i hl
            refine ⟨a, b, rfl, (Res.rt r1).int, ?_⟩
            exact Sts.nx (ρ := ρ.set i (some (.int (a + b)))) (σ := σ) p1 Gs.refl (s1.set_sh (by simp only [Rp]) hl)
          · exact False.elim p1
        | _ => exact False.elim p1
      | _ => exact False.elim p
end
end PP
/-! Changes of own lists and dicts, loops. -/
namespace PP
open PySem PySem.Spec L2
open PySem.PyData (strOk)

section
variable {X : Cx} {W : WX} {cl : Nat → Value} {S0 : Sh} {fr : Bool} {o o' oL : List Bool}
theorem Gs.upd {S : Sh} {H : Hp} {D : Addr} {ob : HO} (hn : ¬ S D) (h1 : ∀ xs, H D ≠ some (.tup xs)) (h2 : ∀ q u, H D ≠ some (.frz q u)) : Gs S H S (L2.upd H D ob) :=
  ⟨fun _ s => s, fun a s => upd_ne fun z => hn (by rw [← z]; exact s), fun a ys e => by
    have hne : a ≠ D := fun z => by subst z; exact h1 ys e
    rw [upd_ne hne]; exact e, fun a q u e => by
    have hne : a ≠ D := fun z => by subst z; exact h2 q u e
    rw [upd_ne hne]; exact e⟩
theorem Ow.gs {K : Fg} {S : Sh} {H : Hp} {a : Addr} {d : D} {ob : HO} (w : Ow K S H a d) : Gs S H S (L2.upd H a ob) := by
  cases w with
  | lst n l r => exact Gs.upd n (fun xs z => by rw [l] at z; cases z) (fun q u z => by rw [l] at z; cases z)
  | dik n l r => exact Gs.upd n (fun xs z => by rw [l] at z; cases z) (fun q u z => by rw [l] at z; cases z)
  | dit n l r => exact Gs.upd n (fun xs z => by rw [l] at z; cases z) (fun q u z => by rw [l] at z; cases z)
theorem Sts.mut {S : Sh} {H : Hp} {ρ : Env} {σ : L2.St} {i : Nat} {d d' : D} {a : Addr} {ob : HO} (h : Sts X S0 o S H ρ σ) (ho : o.getD i false = true) (e : ρ[i]? = some (some d)) (sv : σ[i]? = some (some (.ref a))) (w : Ow X.K S H a d) (w' : Ow X.K S (upd H a ob) a d') :
    Sts X S0 o S (upd H a ob) (ρ.set i (some d')) σ := by
  have gs := w.gs (ob := ob)
  have hi : i < ρ.length := (List.getElem?_eq_some_iff.mp e).1
  have hfr := h.fr i d a ho e w.isMut sv
  refine ⟨h.gr.upd_own hfr, ⟨by simp [h.st.len], fun j dj ej => ?_, fun j k b dj dk hne oj ok ej ek mj mk sj sk => ?_⟩, fun j dj b oj ej mj sj => ?_⟩
  · by_cases hj : j = i
    · subst hj
      rw [List.getElem?_set_self hi] at ej
      cases ej
      refine ⟨.ref a, sv, ?_⟩
      rw [if_pos ho]
      exact .inr ⟨a, rfl, w', rfl⟩
    · rw [List.getElem?_set_ne (Ne.symm hj)] at ej
      obtain ⟨v, ev, r⟩ := h.st.val j dj ej
      refine ⟨v, ev, ?_⟩
      split
      · rename_i c
        rw [if_pos c] at r
        rcases r with ⟨m, r⟩ | ⟨b, rfl, r, q⟩
        · exact .inl ⟨m, Rp.mono gs _ _ r⟩
        · have hab : b ≠ a := fun z => by
            subst z
            exact h.st.sep j i b dj d hj c ho ej e r.isMut w.isMut ev sv
          exact .inr ⟨b, rfl, r.mono gs r.not (upd_ne hab), q⟩
      · rename_i c
        rw [if_neg c] at r
        exact Rp.mono gs _ _ r
  · have old : ∀ j dj, (ρ.set i (some d'))[j]? = some (some dj) → isMut dj = true → ∃ dj', ρ[j]? = some (some dj') ∧ isMut dj' = true := fun j dj ej mj => by
      by_cases hj : j = i
      · subst hj; exact ⟨d, e, w.isMut⟩
      · rw [List.getElem?_set_ne (Ne.symm hj)] at ej; exact ⟨dj, ej, mj⟩
    obtain ⟨dj', ej', mj'⟩ := old j dj ej mj
    obtain ⟨dk', ek', mk'⟩ := old k dk ek mk
    exact h.st.sep j k b dj' dk' hne oj ok ej' ek' mj' mk' sj sk
  · by_cases hj : j = i
    · subst hj
      rw [sv] at sj
      cases sj
      exact hfr
    · rw [List.getElem?_set_ne (Ne.symm hj)] at ej
      exact h.fr j dj b oj ej mj sj
/-- its own slot -/
theorem Sts.own {S : Sh} {H : Hp} {ρ : Env} {σ : L2.St} {i : Nat} {d : D} (h : Sts X S0 o S H ρ σ) (ho : o.getD i false = true) (e : ρ[i]? = some (some d)) (m : isMut d = true) : ∃ a, σ[i]? = some (some (.ref a)) ∧ Ow X.K S H a d := by
  obtain ⟨v, ev, r⟩ := h.st.val i d e
  rw [if_pos ho] at r
  rcases r with ⟨m', _⟩ | ⟨a, rfl, r, _⟩
  · rw [m] at m'; cases m'
  · exact ⟨a, ev, r⟩
theorem getE_ok {ρ : Env} {i : Nat} {d : D} (h : ρ[i]? = some (some d)) : getE ρ i = .ok d := by unfold getE; rw [h]; rfl
theorem getE_cases (ρ : Env) (i : Nat) : (∃ d, ρ[i]? = some (some d) ∧ getE ρ i = .ok d) ∨ getE ρ i = .bad := by
  cases e : ρ[i]? with
  | none => exact .inr (by unfold getE; rw [e]; rfl)
  | some od =>
    cases od with
    | none => exact .inr (by unfold getE; rw [e]; rfl)
    | some d => exact .inl ⟨d, rfl, getE_ok e⟩
theorem own_list {ρ : Env} {i : Nat} {k : List D → O} {D' : Ends} {S : Sh} {H : Hp} (p : Post X W cl S0 fr oL o' S H D' (((getE ρ i).bind ownL).to k)) : ∃ xs, ρ[i]? = some (some (.lst xs)) ∧ Post X W cl S0 fr oL o' S H D' (k xs) := by
  rcases getE_cases ρ i with ⟨d, e, h⟩ | h
  · rw [h] at p
    cases d with
    | lst xs => exact ⟨xs, e, p⟩
    | _ => exact False.elim p
  · rw [h] at p; exact False.elim p
theorem ss_app {i : Nat} {x : Str} {e : Expr} {f : Env → R D} {apos npos cpos pos : Pos} (hN : X.N[i]? = some x) (hv : Vis X.env.scope x) (hd : (x == ("__debug__" : Str)) = false) (hcd : (x == ("__classdict__" : Str)) = false) (ho : o.getD i false = true) (he : SE X W cl o .sh e f)
    (hfew : ((backTo cpos (starEach [e] X.env)).all (fun x => !x.1) && (backToKw cpos (keywordEach [] X.env)).all (fun x => x.1.isSome)
      && decide ([e].length + ([] : List Keyword).length + (if ([] : List Keyword).isEmpty then 0 else 1) < 30)) = true)
    (hline : (apos.endLine == cpos.line) = true) (h1 : starEach [e] X.env = (false, eval e X.env) :: starEach [] X.env) :
    SSt X W cl S0 fr oL o o (.Expr (.Call (.Attribute (.Name x npos) "append" apos) [e] [] cpos) pos) (fun ρ => ((getE ρ i).bind ownL).to fun xs => (f ρ).to fun y => if xs.length < sizeLine then put i (some (.lst (xs ++ [y]))) ρ else .bad) := by
  obtain ⟨te, pe, q⟩ := he.ex
  refine SSt.mk (ps_expr (pe_bm PySem.F.plainAttrs_list PySem.F.slot_list_append PySem.F.type_list_append mt_append (pe_var hN hv hd hcd) (pa_cons pe pa_nil h1) rfl hfew hline h1 rfl) rfl) fun D S H σ ρ z sts p => ?_
  obtain ⟨xs, ex, p⟩ := own_list p
  obtain ⟨a, sv, w⟩ := sts.own ho ex rfl
  have hl : ∃ ys, H a = some (.lst ys) := by cases w with | lst n l r => exact ⟨_, l⟩
  obtain ⟨ys, hl⟩ := hl
  refine ⟨.ref a, sv, .inl ⟨rfl, ys, .inl (.inl hl)⟩, ?_⟩
  refine q S H σ ρ _ z sts.sd sts.st (Post.to sts p fun y v S1 H1 _ g1 z1 s1 r1 p1 => ?_)
  obtain ⟨a', sv', w1⟩ := s1.own ho ex rfl
  rw [sv] at sv'; cases sv'
  cases w1 with
  | lst n1 l1 rr1 =>
    rename_i zs
    split at p1
    · rename_i hlt
      have hi : i < ρ.length := (List.getElem?_eq_some_iff.mp ex).1
      simp only [put] at p1
      rw [if_pos hi] at p1
      have w1 : Ow X.K S1 H1 a (.lst xs) := .lst n1 l1 rr1
      have gs := w1.gs (ob := .lst (zs ++ [v]))
      refine ⟨a, zs, v, rfl, rfl, l1, by rw [rr1.len]; exact hlt, ?_⟩
      refine Sts.nx (ρ := ρ.set i (some (.lst (xs ++ [y])))) (σ := σ) p1 gs (s1.mut ho ex sv w1 (.lst n1 upd_same ?_))
      exact RpA.app (RpA.mono gs _ _ rr1) (by simp only [RpA]; exact ⟨Rp.mono gs _ _ r1, trivial⟩)
    · exact False.elim p1
theorem ss_ext {i : Nat} {x : Str} {e : Expr} {f : Env → R D} {m : Md} {apos npos cpos pos : Pos} (hN : X.N[i]? = some x) (hv : Vis X.env.scope x) (hd : (x == ("__debug__" : Str)) = false) (hcd : (x == ("__classdict__" : Str)) = false) (ho : o.getD i false = true) (he : SE X W cl o m e f)
    (hfew : ((backTo cpos (starEach [e] X.env)).all (fun x => !x.1) && (backToKw cpos (keywordEach [] X.env)).all (fun x => x.1.isSome)
      && decide ([e].length + ([] : List Keyword).length + (if ([] : List Keyword).isEmpty then 0 else 1) < 30)) = true)
    (hline : (apos.endLine == cpos.line) = true) (h1 : starEach [e] X.env = (false, eval e X.env) :: starEach [] X.env) :
    SSt X W cl S0 fr oL o o (.Expr (.Call (.Attribute (.Name x npos) "extend" apos) [e] [] cpos) pos) (fun ρ => ((getE ρ i).bind ownL).to fun xs => ((f ρ).bind ownL).to fun ys => if xs.length + ys.length ≤ sizeLine then put i (some (.lst (xs ++ ys))) ρ else .bad) := by
  obtain ⟨te, pe, q⟩ := he.ex
  refine SSt.mk (ps_expr (pe_bm PySem.F.plainAttrs_list PySem.F.slot_list_extend PySem.F.type_list_extend mt_extend (pe_var hN hv hd hcd) (pa_cons pe pa_nil h1) rfl hfew hline h1 rfl) rfl) fun D S H σ ρ z sts p => ?_
  obtain ⟨xs, ex, p⟩ := own_list p
  obtain ⟨a, sv, w⟩ := sts.own ho ex rfl
  have hl : ∃ ys, H a = some (.lst ys) := by cases w with | lst n l r => exact ⟨_, l⟩
  obtain ⟨ys, hl⟩ := hl
  refine ⟨.ref a, sv, .inl ⟨rfl, ys, .inl (.inl hl)⟩, ?_⟩
  have p2 : Post X W cl S0 fr oL o S H D ((f ρ).to fun d => (ownL d).to fun ys => if xs.length + ys.length ≤ sizeLine then put i (some (.lst (xs ++ ys))) ρ else .bad) := by
    cases e2 : f ρ with
    | ok d => rw [e2] at p; exact p
    | err c p' => rw [e2] at p; exact p
    | bad => rw [e2] at p; exact p
  refine q S H σ ρ _ z sts.sd sts.st (Post.to sts p2 fun d v S1 H1 _ g1 z1 s1 r1 p1 => ?_)
  obtain ⟨a', sv', w1⟩ := s1.own ho ex rfl
  rw [sv] at sv'; cases sv'
  cases d with
  | lst es =>
    have p1 : Post X W cl S0 fr oL o S1 H1 D (if xs.length + es.length ≤ sizeLine then put i (some (.lst (xs ++ es))) ρ else .bad) := p1
    obtain ⟨b, vs, rfl, hb, rv⟩ := (Res.rt r1).lst
    cases w1 with
    | lst n1 l1 rr1 =>
      rename_i zs
      split at p1
      · rename_i hlt
        have hi : i < ρ.length := (List.getElem?_eq_some_iff.mp ex).1
        simp only [put] at p1
        rw [if_pos hi] at p1
        have w1 : Ow X.K S1 H1 a (.lst xs) := .lst n1 l1 rr1
        have gs := w1.gs (ob := .lst (zs ++ vs))
        refine ⟨a, b, zs, vs, rfl, rfl, l1, hb, by rw [rr1.len, rv.len]; exact hlt, ?_⟩
        refine Sts.nx (ρ := ρ.set i (some (.lst (xs ++ es)))) (σ := σ) p1 gs (s1.mut ho ex sv w1 (.lst n1 upd_same ?_))
        exact RpA.app (RpA.mono gs _ _ rr1) (RpA.mono gs _ _ rv)
      · exact False.elim p1
  | _ => exact False.elim p1
theorem ss_rev {i : Nat} {x : Str} {apos npos cpos pos : Pos} (hN : X.N[i]? = some x) (hv : Vis X.env.scope x) (hd : (x == ("__debug__" : Str)) = false) (hcd : (x == ("__classdict__" : Str)) = false) (ho : o.getD i false = true) (hline : (apos.endLine == cpos.line) = true) :
    SSt X W cl S0 fr oL o o (.Expr (.Call (.Attribute (.Name x npos) "reverse" apos) [] [] cpos) pos) (fun ρ => ((getE ρ i).bind ownL).to fun xs => put i (some (.lst xs.reverse)) ρ) := by
  refine SSt.mk (ps_expr (pe_bm0 PySem.F.plainAttrs_list PySem.F.slot_list_reverse PySem.F.type_list_reverse mt_reverse (pe_var hN hv hd hcd) rfl hline) rfl) fun D S H σ ρ z sts p => ?_
  obtain ⟨xs, ex, p⟩ := own_list p
  obtain ⟨a, sv, w⟩ := sts.own ho ex rfl
  cases w with
  | lst n1 l1 rr1 =>
    rename_i zs
    have hi : i < ρ.length := (List.getElem?_eq_some_iff.mp ex).1
    simp only [put] at p
    rw [if_pos hi] at p
    have w1 : Ow X.K S H a (.lst xs) := .lst n1 l1 rr1
    have gs := w1.gs (ob := .lst zs.reverse)
    refine ⟨.ref a, sv, .inl ⟨rfl, zs, .inl (.inl l1)⟩, a, zs, rfl, rfl, l1, ?_⟩
    exact Sts.nx (ρ := ρ.set i (some (.lst xs.reverse))) (σ := σ) p gs (sts.mut ho ex sv w1 (.lst n1 upd_same (RpA.mono gs _ _ rr1.rev)))
end
end PP
/-! d[k] = v, xs[k] = v; for, while. -/
namespace PP
open PySem PySem.Spec L2
open PySem.PyData (strOk)

section
variable {X : Cx} {W : WX} {cl : Nat → Value} {S0 : Sh} {fr : Bool} {o o' oL : List Bool}
theorem RpD.any {K : Fg} {S : Sh} {H : Hp} (k : Key) : ∀ {kvs : List (Key × V)} {kds : List (Key × D)}, RpD K S H kvs kds → (kvs.any fun p => decide (p.1 = k)) = kds.any fun p => decide (p.1 = k)
  | [], [], _ => rfl
  | [], _ :: _, h => by simp only [RpD] at h
  | _ :: _, [], h => by simp only [RpD] at h
  | (k1, v) :: r, (k2, d) :: s, h => by
    simp only [RpD] at h
    obtain ⟨⟨rfl, _⟩, _, h3⟩ := h
    simp only [List.any_cons, RpD.any k h3]
theorem RpD.map {K : Fg} {S : Sh} {H : Hp} {k : Key} {v : V} {d : D} (r : Rp K S H v d) : ∀ {kvs : List (Key × V)} {kds : List (Key × D)}, RpD K S H kvs kds → RpD K S H (kvs.map fun p => if p.1 = k then (p.1, v) else p) (kds.map fun p => if p.1 = k then (p.1, d) else p)
  | [], [], h => h
  | [], _ :: _, h => by simp only [RpD] at h
  | _ :: _, [], h => by simp only [RpD] at h
  | (k1, v1) :: r', (k2, d2) :: s, h => by
    simp only [RpD] at h
    obtain ⟨⟨rfl, hk⟩, h2, h3⟩ := h
    simp only [List.map_cons]
    by_cases e : k2 = k
    · simp only [e, if_true, RpD]
      exact ⟨⟨trivial, by rw [← e]; exact hk⟩, r, RpD.map r h3⟩
    · simp only [e, if_false, RpD]
      exact ⟨⟨trivial, hk⟩, h2, RpD.map r h3⟩
theorem RpD.snoc {K : Fg} {S : Sh} {H : Hp} {k : Key} {v : V} {d : D} (hk : kOk k = true) (r : Rp K S H v d) : ∀ {kvs : List (Key × V)} {kds : List (Key × D)}, RpD K S H kvs kds → RpD K S H (kvs ++ [(k, v)]) (kds ++ [(k, d)])
  | [], [], h => by simp only [List.nil_append, RpD]; exact ⟨⟨trivial, hk⟩, r, trivial⟩
  | [], _ :: _, h => by simp only [RpD] at h
  | _ :: _, [], h => by simp only [RpD] at h
  | (k1, v1) :: r', (k2, d2) :: s, h => by
    simp only [RpD, List.cons_append] at h ⊢
    exact ⟨h.1, h.2.1, RpD.snoc hk r h.2.2⟩
theorem RpD.put {K : Fg} {S : Sh} {H : Hp} {k : Key} {v : V} {d : D} (hk : kOk k = true) (r : Rp K S H v d) {kvs : List (Key × V)} {kds : List (Key × D)} (h : RpD K S H kvs kds) : RpD K S H (putK kvs k v) (putD kds k d) := by
  unfold putK putD
  rw [h.any k]
  split
  · exact RpD.map r h
  · exact RpD.snoc hk r h
theorem RpT.any {K : Fg} {S : Sh} {H : Hp} (k : List Key) : ∀ {kvs : List (List Key × V)} {kds : List (List Key × D)}, RpT K S H kvs kds → (kvs.any fun p => decide (p.1 = k)) = kds.any fun p => decide (p.1 = k)
  | [], [], _ => rfl
  | [], _ :: _, h => by simp only [RpT] at h
  | _ :: _, [], h => by simp only [RpT] at h
  | (k1, v) :: r, (k2, d) :: s, h => by
    simp only [RpT] at h
    obtain ⟨⟨rfl, _⟩, _, h3⟩ := h
    simp only [List.any_cons, RpT.any k h3]
theorem RpT.map {K : Fg} {S : Sh} {H : Hp} {k : List Key} {v : V} {d : D} (r : Rp K S H v d) : ∀ {kvs : List (List Key × V)} {kds : List (List Key × D)}, RpT K S H kvs kds → RpT K S H (kvs.map fun p => if p.1 = k then (p.1, v) else p) (kds.map fun p => if p.1 = k then (p.1, d) else p)
  | [], [], h => h
  | [], _ :: _, h => by simp only [RpT] at h
  | _ :: _, [], h => by simp only [RpT] at h
  | (k1, v1) :: r', (k2, d2) :: s, h => by
    simp only [RpT] at h
    obtain ⟨⟨rfl, hk⟩, h2, h3⟩ := h
    simp only [List.map_cons]
    by_cases e : k2 = k
    · simp only [e, if_true, RpT]
      exact ⟨⟨trivial, by rw [← e]; exact hk⟩, r, RpT.map r h3⟩
    · simp only [e, if_false, RpT]
      exact ⟨⟨trivial, hk⟩, h2, RpT.map r h3⟩
theorem RpT.snoc {K : Fg} {S : Sh} {H : Hp} {k : List Key} {v : V} {d : D} (hk : k.all kOk = true) (r : Rp K S H v d) : ∀ {kvs : List (List Key × V)} {kds : List (List Key × D)}, RpT K S H kvs kds → RpT K S H (kvs ++ [(k, v)]) (kds ++ [(k, d)])
  | [], [], h => by simp only [List.nil_append, RpT]; exact ⟨⟨trivial, hk⟩, r, trivial⟩
  | [], _ :: _, h => by simp only [RpT] at h
  | _ :: _, [], h => by simp only [RpT] at h
  | (k1, v1) :: r', (k2, d2) :: s, h => by
    simp only [RpT, List.cons_append] at h ⊢
    exact ⟨h.1, h.2.1, RpT.snoc hk r h.2.2⟩
theorem RpT.put {K : Fg} {S : Sh} {H : Hp} {k : List Key} {v : V} {d : D} (hk : k.all kOk = true) (r : Rp K S H v d) {kvs : List (List Key × V)} {kds : List (List Key × D)} (h : RpT K S H kvs kds) : RpT K S H (putK kvs k v) (putD kds k d) := by
  unfold putK putD
  rw [h.any k]
  split
  · exact RpT.map r h
  · exact RpT.snoc hk r h
/-- o[k] = v, o a slot of its own -/
theorem ss_put {i : Nat} {x : Str} {k e : Expr} {fk f : Env → R D} {m : Md} {npos tpos pos : Pos} (hu : X.A.units + 104 < cLine) (hN : X.N[i]? = some x) (hv : Vis X.env.scope x) (hd : (x == ("__debug__" : Str)) = false) (hcd : (x == ("__classdict__" : Str)) = false) (ho : o.getD i false = true)
    (he : SE X W cl o .sh e f) (hk : SE X W cl o m k fk) (hs : swapsWith e (some (.Subscript (.Name x npos) k tpos)) pos.line X.env = pure false)
    (ha : ∀ v, assign (.Subscript (.Name x npos) k tpos) X.env v = (do
      let ov ← holding [v] (eval (.Name x npos) X.env)
      let iv ← holding [v, ov] (eval k X.env)
      standAt tpos
      holding [v, ov, iv] (setItem ov iv v)
      release [v, ov, iv] [])) :
    SSt X W cl S0 fr oL o o (.Assign [.Subscript (.Name x npos) k tpos] e pos) (fun ρ => (f ρ).to fun y => (getE ρ i).to fun x => (fk ρ).to fun z => put i (putS x z y) ρ) := by
  obtain ⟨te, pe, q⟩ := he.ex
  obtain ⟨tk, pk, qk⟩ := hk.ex
  have pv : PE X (.Name x npos) (tVar i) := pe_var hN hv hd hcd
  have P1 := ps_asg (pos := pos) pe (pg_sub (pos := tpos) pv pk set_list ha) hs rfl rfl
  have P2 := ps_dput (pos := pos) (pos' := tpos) (by omega) pv pk pe hs
  refine SSt.mk (t := fun D σ H => tAsg te (gSub (tVar i) tk rSetL) D σ H ∨ sDPut (tVar i) tk te D σ H) ⟨fun pins s σ H D I h => h.elim (P1.run pins s σ H D I) (P2.run pins s σ H D I)⟩ fun D S H σ ρ z sts p => ?_
  rcases getE_cases ρ i with ⟨dx, ex, hx⟩ | hx
  · -- there
    have tail : ∀ (y : PP.D) (S1 : Sh) (H1 : Hp), Gr S H S1 H1 → HSz X.K H1 → Sts X S0 o S1 H1 ρ σ → Post X W cl S0 fr oL o S1 H1 D ((getE ρ i).to fun x => (fk ρ).to fun z => put i (putS x z y) ρ) → Post X W cl S0 fr oL o S1 H1 D ((fk ρ).to fun z => put i (putS dx z y) ρ) := fun y S1 H1 _ _ _ p => by
      rw [hx] at p; exact p
    by_cases hl : ∃ xs, dx = .lst xs
    · obtain ⟨xs, rfl⟩ := hl
      refine .inl (q S H σ ρ _ z sts.sd sts.st (Post.to sts p fun y v S1 H1 _ g1 z1 s1 r1 p1 => ?_))
      have p1 := tail y S1 H1 g1 z1 s1 p1
      obtain ⟨a, sv, w⟩ := s1.own ho ex rfl
      refine ⟨.ref a, sv, qk S1 H1 σ ρ _ z1 s1.sd s1.st (Post.to s1 p1 fun dz zv S2 H2 _ g2 z2 s2 r2 p2 => ?_)⟩
      obtain ⟨a', sv', w2⟩ := s2.own ho ex rfl
      rw [sv] at sv'; cases sv'
      cases dz with
      | int kk =>
        have p2 : Post X W cl S0 fr oL o S2 H2 D (put i ((ixN xs.length kk).map fun j => .lst (xs.set j y)) ρ) := p2
        cases hj : ixN xs.length kk with
        | none => rw [hj] at p2; exact False.elim p2
        | some j =>
          rw [hj] at p2
          have hi : i < ρ.length := (List.getElem?_eq_some_iff.mp ex).1
          simp only [Option.map_some, put] at p2
          rw [if_pos hi] at p2
          cases w2 with
          | lst n2 l2 rr2 =>
            rename_i ys
            have w2 : Ow X.K S2 H2 a (.lst xs) := .lst n2 l2 rr2
            have gs := w2.gs (ob := .lst (ys.set j v))
            refine ⟨a, ys, kk, j, rfl, (Res.rt r2).int, l2, by rw [rr2.len]; exact hj, ?_⟩
            exact Sts.nx (ρ := ρ.set i (some (.lst (xs.set j y)))) (σ := σ) p2 gs (s2.mut ho ex sv w2 (.lst n2 upd_same (RpA.set (Rp.mono gs _ _ (Rp.gr g2 s1.sd r1)) j (RpA.mono gs _ _ rr2))))
      | _ => exact False.elim p2
    · refine .inr (q S H σ ρ _ z sts.sd sts.st (Post.to sts p fun y v S1 H1 _ g1 z1 s1 r1 p1 => ?_))
      have p1 := tail y S1 H1 g1 z1 s1 p1
      have pd : ∀ z, (∀ ds, z ≠ .tup ds) → putS dx z y = dPut dx z y := fun z hz => by
        have e : putS dx z y = putD' dx z y := by
          cases z with
          | tup ds => exact absurd rfl (hz ds)
          | _ => rfl
        rw [e]
        cases dx with
        | lst xs => exact absurd ⟨xs, rfl⟩ hl
        | _ => rfl
      obtain ⟨vx, evx, _⟩ := s1.st.val i dx ex
      refine ⟨vx, evx, qk S1 H1 σ ρ _ z1 s1.sd s1.st (Post.to s1 p1 fun dz zv S2 H2 _ g2 z2 s2 r2 p2 => ?_)⟩
      have hnt : ∀ ds, dz ≠ .tup ds := fun ds e => by
        rw [e] at p2
        exact False.elim p2
      rw [pd _ hnt] at p2
      have hi : i < ρ.length := (List.getElem?_eq_some_iff.mp ex).1
      cases dx with
      | dk kds =>
        have p2 : Post X W cl S0 fr oL o S2 H2 D (put i (if kds.length < sizeLine then (toKey dz).map fun k => .dk (putD kds k y) else none) ρ) := p2
        by_cases hz : kds.length < sizeLine
        · rw [if_pos hz] at p2
          cases ek : toKey dz with
          | none => rw [ek] at p2; exact False.elim p2
          | some kk =>
            rw [ek] at p2
            simp only [Option.map_some, put] at p2
            rw [if_pos hi] at p2
            obtain ⟨a, sv, w2⟩ := s2.own ho ex rfl
            rw [sv] at evx; cases evx
            obtain ⟨e1, hkk, _⟩ := toKey_some (Res.rt r2) ek
            cases w2 with
            | dik n2 l2 rr2 =>
              rename_i kvs
              have w2 : Ow X.K S2 H2 a (.dk kds) := .dik n2 l2 rr2
              have gs := w2.gs (ob := .dK (putK kvs kk v))
              refine ⟨a, _, rfl, .inl ⟨kvs, kk, l2, e1, by rw [rr2.len]; exact hz, rfl⟩, ?_⟩
              exact Sts.nx (ρ := ρ.set i (some (.dk (putD kds kk y)))) (σ := σ) p2 gs (s2.mut ho ex sv w2 (.dik n2 upd_same (RpD.put hkk (Rp.mono gs _ _ (Rp.gr g2 s1.sd r1)) (RpD.mono gs _ _ rr2))))
        · rw [if_neg hz] at p2; exact False.elim p2
      | dt kds =>
        cases dz with
        | tup ds => exact absurd rfl (hnt ds)
        | _ => exact False.elim p2
      | lst xs => exact absurd ⟨xs, rfl⟩ hl
      | _ => exact False.elim p2
  · refine .inr (q S H σ ρ _ z sts.sd sts.st (Post.to sts p fun y v S1 H1 _ g1 z1 s1 r1 p1 => ?_))
    rw [hx] at p1
    exact False.elim p1

/-- o[k, ..] = v: the key a tuple made here -/
theorem ss_putT {i : Nat} {x : Str} {ks : List Expr} {e : Expr} {fk : Env → R (List D)} {f : Env → R D} {x1 : Nat} {npos kpos tpos pos : Pos} (hu : X.A.units + 104 < cLine) (hN : X.N[i]? = some x) (hv : Vis X.env.scope x) (hd : (x == ("__debug__" : Str)) = false) (hcd : (x == ("__classdict__" : Str)) = false) (ho : o.getD i false = true)
    (he : SE X W cl o .sh e f) (hk : SA X W cl o ks fk) (hl : ∀ ρ ds, fk ρ = .ok ds → ds.length ≤ sizeLine) (hs : swapsWith e (some (.Subscript (.Name x npos) (.Tuple ks x1 kpos) tpos)) pos.line X.env = pure false) :
    SSt X W cl S0 fr oL o o (.Assign [.Subscript (.Name x npos) (.Tuple ks x1 kpos) tpos] e pos) (fun ρ => (f ρ).to fun y => (getE ρ i).to fun x => (fk ρ).to fun ds => put i (putD' x (.tup ds) y) ρ) := by
  obtain ⟨te, pe, q⟩ := he.ex
  obtain ⟨tk, pk, qk⟩ := hk.ex
  have pv : PE X (.Name x npos) (tVar i) := pe_var hN hv hd hcd
  have P2 := ps_dput (pos := pos) (pos' := tpos) (by omega) pv (pe_sz (pe_tup (pos := kpos) (x1 := x1) pk)) pe hs
  refine SSt.mk P2 fun D S H σ ρ z sts p => ?_
  refine q S H σ ρ _ z sts.sd sts.st (Post.to sts p fun y v S1 H1 _ g1 z1 s1 r1 p1 => ?_)
  rcases getE_cases ρ i with ⟨dx, ex, hx⟩ | hx
  · have p1 : Post X W cl S0 fr oL o S1 H1 D ((fk ρ).to fun ds => put i (putD' dx (.tup ds) y) ρ) := by
      rw [hx] at p1; exact p1
    obtain ⟨vx, evx, _⟩ := s1.st.val i dx ex
    refine ⟨vx, evx, qk S1 H1 σ ρ _ z1 s1.sd s1.st (Post.to s1 p1 fun ds vs S2 H2 eds g2 z2 s2 r2 p2 => ?_)⟩
    refine ⟨by rw [r2.len]; exact hl ρ ds eds, fun b hb z3 => ?_⟩
    have gA := Gr.alloc (o := .tup vs) s2.sd hb
    have s3 := s2.grow gA
    have p3 := Post.rebase (gA.gs s2.sd) p2
    have hi : i < ρ.length := (List.getElem?_eq_some_iff.mp ex).1
    have rk : RpA X.K S2 (upd H2 b (.tup vs)) vs ds := r2.gr gA s2.sd
    cases dx with
    | dt kds =>
      have p3 : Post X W cl S0 fr oL o S2 (upd H2 b (.tup vs)) D (put i (if kds.length < sizeLine then (toKeys ds).map fun k => .dt (putD kds k y) else none) ρ) := p3
      by_cases hz : kds.length < sizeLine
      · rw [if_pos hz] at p3
        cases ek : toKeys ds with
        | none => rw [ek] at p3; exact False.elim p3
        | some kk =>
          rw [ek] at p3
          simp only [Option.map_some, put] at p3
          rw [if_pos hi] at p3
          obtain ⟨a, sv, w2⟩ := s3.own ho ex rfl
          rw [sv] at evx; cases evx
          obtain ⟨e1, hkk, _⟩ := toKeys_some rk ek
          subst e1
          cases w2 with
          | dit n2 l2 rr2 =>
            rename_i kvs
            have w2 : Ow X.K S2 (upd H2 b (.tup (kk.map kV))) a (.dt kds) := .dit n2 l2 rr2
            have gs := w2.gs (ob := .dT (putK kvs kk v))
            refine ⟨a, _, rfl, .inr ⟨kvs, kk, b, l2, rfl, upd_same, by rw [rr2.len]; exact hz, rfl⟩, ?_⟩
            exact Sts.nx (ρ := ρ.set i (some (.dt (putD kds kk y)))) (σ := σ) p3 gs (s3.mut ho ex sv w2 (.dit n2 upd_same (RpT.put hkk (Rp.mono gs _ _ (Rp.gr gA s2.sd (Rp.gr g2 s1.sd r1))) (RpT.mono gs _ _ rr2))))
      · rw [if_neg hz] at p3; exact False.elim p3
    | dk kds =>
      have e : putD' (.dk kds) (.tup ds) y = none := by
        show (if kds.length < sizeLine then (toKey (.tup ds)).map fun k => PP.D.dk (putD kds k y) else none) = none
        split <;> rfl
      rw [e] at p3
      exact False.elim p3
    | _ => exact False.elim p3
  · rw [hx] at p1
    exact False.elim p1

/-! ### for -/
theorem ss_for {tg iter : Expr} {body : List Stmt} {t : Tg} {fi : Env → R (List D)} {fb : Env → O} {pos : Pos} (hp : PassesOwn (model X.prog X.w) X.A X.env X.xe) (hc : X.calm = true) (hi : SI X W cl o false tg iter fi) (hg : SG X tg t) (hcl : clr o t.slots = o)
    (hb : SSs X W cl S0 fr o o o body fb) (hs : ∀ x, foldedSetIterable iter X.env x = pure x) :
    SSt X W cl S0 fr oL o o (.For tg iter body [] pos) (fun ρ => (fi ρ).to fun items => forGo (fun x ρ0 => match PP.asg t x ρ0 with
      | some ρ1 => fb ρ1
      | none => .bad) items ρ) := by
  obtain ⟨wi, pi, qi⟩ := hi.ex
  refine SSt.mk (ps_for hp hc pi hg.pg hb hs) fun D S H σ ρ z sts p => ?_
  refine qi S H σ ρ _ z sts.sd sts.st (Post.to sts p fun items J S1 H1 _ g1 z1 s1 sv p1 => ?_)
  obtain ⟨P, sv, sb, p0⟩ := sv
  let F : PP.D → Env → O := fun x ρ0 => match PP.asg t x ρ0 with
      | some ρ1 => fb ρ1
      | none => .bad
  have p1 : Post X W cl S0 fr oL o S1 H1 D (forGo F items ρ) := p1
  have sb' : ∀ S H S' H', Gs S H S' H' → P S H → P S' H' := sb
  refine ⟨fun i m σ H => m = items.length - i ∧ i ≤ items.length ∧ HSz X.K H ∧ ∃ S ρ, Sts X S0 o S H ρ σ ∧ P S H ∧ Post X W cl S0 fr oL o S H D (forGo F (items.drop i) ρ), ⟨items.length, rfl, Nat.zero_le _, z1, S1, ρ, s1, p0, by rw [List.drop_zero]; exact p1⟩, ?_⟩
  rintro i m σ2 H2 ⟨rfl, hi2, z2, S2, ρ2, s2, pP, p2⟩
  by_cases hlt : i < items.length
  · refine .inr ⟨sv.go S2 H2 i pP hlt, fun σ' H' => HSz X.K H' ∧ ∃ S' ρ', Sts X S0 o S' H' ρ' σ' ∧ P S' H' ∧ Post X W cl S0 fr oL o S' H' D (forGo F (items.drop (i + 1)) ρ'), fun σ' H' h => ⟨items.length - (i + 1), by omega, rfl, hlt, h.1, h.2⟩, fun x H3 y => ?_⟩
    obtain ⟨d, ed, g3, z3, rx⟩ := sv.yld S2 H2 i x H3 s2.sd z2 pP hlt y
    have hdrop : items.drop i = d :: items.drop (i + 1) := by
      rw [List.drop_eq_getElem_cons hlt]
      have : items[i] = d := by
        have := List.getElem?_eq_getElem hlt
        rw [ed] at this
        exact (Option.some.inj this).symm
      rw [this]
    rw [hdrop] at p2
    have s3 := s2.grow g3
    have p3 := Post.rebase (g3.gs s2.sd) p2
    have pP3 := sb' _ _ _ _ (g3.gs s2.sd) pP
    simp only [forGo] at p3
    cases ea : PP.asg t d ρ2 with
    | none =>
      have hF : F d ρ2 = .bad := by show (match PP.asg t d ρ2 with | some ρ1 => fb ρ1 | none => .bad) = _; rw [ea]
      rw [hF] at p3
      exact False.elim p3
    | some ρ3 =>
      have hF : F d ρ2 = fb ρ3 := by show (match PP.asg t d ρ2 with | some ρ1 => fb ρ1 | none => .bad) = _; rw [ea]
      rw [hF] at p3
      refine ⟨S2, ρ2, ρ3, d, o, s3.st, rx, ea, fun σ4 st4 w4 => ?_⟩
      have s4 := s3.asg ea st4 w4
      rw [hcl] at s4
      refine ⟨S2, ρ3, z3, s4, ?_⟩
      cases eb : fb ρ3 with
      | nx ρ5 =>
        rw [eb] at p3
        exact fun σ' S' H' gs s' z' => ⟨z', S', ρ5, s', sb' _ _ _ _ gs pP3, Post.rebase gs p3⟩
      | ct ρ5 =>
        rw [eb] at p3
        exact fun σ' S' H' gs s' z' => ⟨z', S', ρ5, s', sb' _ _ _ _ gs pP3, Post.rebase gs p3⟩
      | bk ρ5 =>
        rw [eb] at p3
        exact fun σ' S' H' gs s' z' _ => p3 σ' S' H' gs s' z'
      | rt d5 =>
        rw [eb] at p3
        exact fun v S' H' g' z' r' _ => p3 v S' H' g' z' r'
      | er c p' => rw [eb] at p3; exact p3
      | bad => rw [eb] at p3; exact p3
  · have hie : i = items.length := by omega
    subst hie
    rw [List.drop_length] at p2
    exact .inl ⟨sv.stop S2 H2 _ pP (Nat.le_refl _), Sts.nx (ρ := ρ2) (σ := σ2) p2 Gs.refl s2⟩

/-! ### while -/
theorem ss_while {c : Expr} {body : List Stmt} {fc : Env → R Bool} {fb : Env → O} {pos : Pos} (μ : Env → Nat) (hp : PassesOwn (model X.prog X.w) X.A X.env X.xe) (hc : ST X W cl o c fc) (hb : SSs X W cl S0 fr o o o body fb) :
    SSt X W cl S0 fr oL o o (.While c body [] pos) (fun ρ => whGo fc fb (μ ρ) ρ) := by
  obtain ⟨t, pt, q⟩ := hc.ex
  refine SSt.mk (ps_while hp pt hb) fun D S H σ ρ z sts p => ?_
  refine ⟨fun m σ H => HSz X.K H ∧ ∃ S ρ, Sts X S0 o S H ρ σ ∧ Post X W cl S0 fr oL o S H D (whGo fc fb m ρ), ⟨μ ρ, z, S, ρ, sts, p⟩, ?_⟩
  rintro m σ2 H2 ⟨z2, S2, ρ2, s2, p2⟩
  cases m with
  | zero => exact False.elim p2
  | succ m =>
    simp only [whGo] at p2
    refine q S2 H2 σ2 ρ2 _ z2 s2.sd s2.st (Post.to s2 p2 fun k b S3 H3 _ g3 z3 s3 e p3 => ?_)
    subst e
    cases b with
    | false => exact iteF (Sts.nx (ρ := ρ2) (σ := σ2) p3 Gs.refl s3)
    | true =>
      refine iteT ⟨fun σ' H' => HSz X.K H' ∧ ∃ S' ρ', Sts X S0 o S' H' ρ' σ' ∧ Post X W cl S0 fr oL o S' H' D (whGo fc fb m ρ'), fun σ' H' h => ⟨m, Nat.lt_succ_self m, h⟩, S3, ρ2, z3, s3, ?_⟩
      have p3 : Post X W cl S0 fr oL o S3 H3 D (match fb ρ2 with
        | .nx ρ1 => whGo fc fb m ρ1
        | .ct ρ1 => whGo fc fb m ρ1
        | .bk ρ1 => .nx ρ1
        | .rt d => .rt d
        | .er c p => .er c p
        | .bad => .bad) := p3
      cases eb : fb ρ2 with
      | nx ρ5 =>
        rw [eb] at p3
        exact fun σ' S' H' gs s' z' => ⟨z', S', ρ5, s', Post.rebase gs p3⟩
      | ct ρ5 =>
        rw [eb] at p3
        exact fun σ' S' H' gs s' z' => ⟨z', S', ρ5, s', Post.rebase gs p3⟩
      | bk ρ5 =>
        rw [eb] at p3
        exact fun σ' S' H' gs s' z' _ => p3 σ' S' H' gs s' z'
      | rt d5 =>
        rw [eb] at p3
        exact fun v S' H' g' z' r' _ => p3 v S' H' g' z' r'
      | er c p' => rw [eb] at p3; exact p3
      | bad => rw [eb] at p3; exact p3
end
end PP
/-! Views of trees. -/
namespace PP
open PySem PySem.Spec L2
open PySem.PyData (strOk)

def vName : Expr → Option Str
  | .Name x _ => some x
  | _ => none
theorem vName_some {e : Expr} {x : Str} (h : vName e = some x) : ∃ p, e = .Name x p := by cases e <;> simp only [vName] at h <;> cases h; exact ⟨_, rfl⟩
def vConst : Expr → Option Const
  | .Constant c _ _ => some c
  | _ => none
theorem vConst_some {e : Expr} {x : Const} (h : vConst e = some x) : ∃ k p, e = .Constant x k p := by cases e <;> simp only [vConst] at h <;> cases h; exact ⟨_, _, rfl⟩
def vTup : Expr → Option (List Expr)
  | .Tuple es _ _ => some es
  | _ => none
theorem vTup_some {e : Expr} {x : List Expr} (h : vTup e = some x) : ∃ k p, e = .Tuple x k p := by cases e <;> simp only [vTup] at h <;> cases h; exact ⟨_, _, rfl⟩
def vList : Expr → Option (List Expr)
  | .List es _ => some es
  | _ => none
theorem vList_some {e : Expr} {x : List Expr} (h : vList e = some x) : ∃ p, e = .List x p := by cases e <;> simp only [vList] at h <;> cases h; exact ⟨_, rfl⟩
def vDict0 : Expr → Bool
  | .Dict [] [] _ => true
  | _ => false
theorem vDict0_true {e : Expr} (h : vDict0 e = true) : ∃ p, e = .Dict [] [] p := by
  unfold vDict0 at h
  split at h
  · exact ⟨_, rfl⟩
  · cases h
def vBin : Expr → Option (Expr × Operator × Expr)
  | .BinOp a op b _ => some (a, op, b)
  | _ => none
theorem vBin_some {e : Expr} {a b : Expr} {op : Operator} (h : vBin e = some (a, op, b)) : ∃ p, e = .BinOp a op b p := by cases e <;> simp only [vBin] at h <;> cases h; exact ⟨_, rfl⟩
def vCmp1 : Expr → Option (Expr × CmpOp × Expr)
  | .Compare a [op] [b] _ => some (a, op, b)
  | _ => none
theorem vCmp1_some {e : Expr} {a b : Expr} {op : CmpOp} (h : vCmp1 e = some (a, op, b)) : ∃ p, e = .Compare a [op] [b] p := by
  unfold vCmp1 at h
  split at h
  · cases h; exact ⟨_, rfl⟩
  · cases h
def vCmp2 : Expr → Option (Expr × CmpOp × CmpOp × Expr × Expr)
  | .Compare a [op, op'] [b, c] _ => some (a, op, op', b, c)
  | _ => none
theorem vCmp2_some {e : Expr} {a b c : Expr} {op op' : CmpOp} (h : vCmp2 e = some (a, op, op', b, c)) : ∃ p, e = .Compare a [op, op'] [b, c] p := by
  unfold vCmp2 at h
  split at h
  · cases h; exact ⟨_, rfl⟩
  · cases h
/-- the first, and what is left: its own tree -/
def vBoolOp : Expr → Option (BoolOp × Expr × Expr × List Expr × Pos)
  | .BoolOp op (a :: b :: r) p => some (op, a, b, r, p)
  | _ => none
theorem vBoolOp_some {e : Expr} {a b : Expr} {op : BoolOp} {r : List Expr} {p : Pos} (h : vBoolOp e = some (op, a, b, r, p)) : e = .BoolOp op (a :: b :: r) p := by
  unfold vBoolOp at h
  split at h
  · cases h; rfl
  · cases h
def bRest (op : BoolOp) (b : Expr) (r : List Expr) (p : Pos) : Expr := match r with
  | [] => b
  | _ :: _ => .BoolOp op (b :: r) p
def vUn : Expr → Option (UnaryOp × Expr)
  | .UnaryOp op a _ => some (op, a)
  | _ => none
theorem vUn_some {e : Expr} {a : Expr} {op : UnaryOp} (h : vUn e = some (op, a)) : ∃ p, e = .UnaryOp op a p := by cases e <;> simp only [vUn] at h <;> cases h; exact ⟨_, rfl⟩
def vIfE : Expr → Option (Expr × Expr × Expr)
  | .IfExp c a b _ => some (c, a, b)
  | _ => none
theorem vIfE_some {e : Expr} {c a b : Expr} (h : vIfE e = some (c, a, b)) : ∃ p, e = .IfExp c a b p := by cases e <;> simp only [vIfE] at h <;> cases h; exact ⟨_, rfl⟩
def vSub : Expr → Option (Expr × Expr)
  | .Subscript a i _ => some (a, i)
  | _ => none
theorem vSub_some {e : Expr} {a i : Expr} (h : vSub e = some (a, i)) : ∃ p, e = .Subscript a i p := by cases e <;> simp only [vSub] at h <;> cases h; exact ⟨_, rfl⟩
def vSl : Expr → Option (Option Expr × Option Expr)
  | .Slice l h none _ => some (l, h)
  | _ => none
theorem vSl_some {e : Expr} {l h' : Option Expr} (h : vSl e = some (l, h')) : ∃ p, e = .Slice l h' none p := by
  unfold vSl at h
  split at h
  · cases h; exact ⟨_, rfl⟩
  · cases h
def vRevSl : Expr → Bool
  | .Slice none none (some (.UnaryOp .USub (.Constant (.int 1) _ _) _)) _ => true
  | _ => false
theorem vRevSl_true {e : Expr} (h : vRevSl e = true) : ∃ j p1 p2 p3, e = .Slice none none (some (.UnaryOp .USub (.Constant (.int 1) j p1) p2)) p3 := by
  unfold vRevSl at h
  split at h
  · exact ⟨_, _, _, _, rfl⟩
  · cases h
def vCall : Expr → Option (Str × Expr × List Expr × Pos)
  | .Call (.Name x _) (e :: es) [] p => some (x, e, es, p)
  | _ => none
theorem vCall_some {e a : Expr} {x : Str} {es : List Expr} {p : Pos} (h : vCall e = some (x, a, es, p)) : ∃ p', e = .Call (.Name x p') (a :: es) [] p := by
  unfold vCall at h
  split at h
  · cases h; exact ⟨_, rfl⟩
  · cases h
def vCall0 : Expr → Option Str
  | .Call (.Name x _) [] [] _ => some x
  | _ => none
theorem vCall0_some {e : Expr} {x : Str} (h : vCall0 e = some x) : ∃ p p', e = .Call (.Name x p') [] [] p := by
  unfold vCall0 at h
  split at h
  · cases h; exact ⟨_, _, rfl⟩
  · cases h
/-- o.name(..), the place of the name, of the call -/
def vMeth : Expr → Option (Expr × Str × Pos × List Expr × Pos)
  | .Call (.Attribute o x ap) es [] p => some (o, x, ap, es, p)
  | _ => none
theorem vMeth_some {e a : Expr} {x : Str} {es : List Expr} {ap p : Pos} (h : vMeth e = some (a, x, ap, es, p)) : e = .Call (.Attribute a x ap) es [] p := by
  unfold vMeth at h
  split at h
  · cases h; rfl
  · cases h
def vLc : Expr → Option (Expr × Expr × Expr × List Expr × Scope × Pos)
  | .ListComp elt [⟨tg, iter, ifs, 0⟩] scope p => some (elt, tg, iter, ifs, scope, p)
  | _ => none
theorem vLc_some {e elt tg iter : Expr} {ifs : List Expr} {scope : Scope} {p : Pos} (h : vLc e = some (elt, tg, iter, ifs, scope, p)) : e = .ListComp elt [⟨tg, iter, ifs, 0⟩] scope p := by
  unfold vLc at h
  split at h
  · cases h; rfl
  · cases h

/-! ### side conditions -/
def isStar : Expr → Bool
  | .Starred _ _ => true
  | _ => false
def isSlice : Expr → Bool
  | .Slice _ _ _ _ => true
  | _ => false
def isSet : Expr → Bool
  | .Set _ _ _ => true
  | _ => false
def isComp : Expr → Bool
  | .ListComp _ _ _ _ => true
  | .SetComp _ _ _ _ => true
  | .DictComp _ _ _ _ _ => true
  | _ => false
def isCall : Expr → Bool
  | .Call _ _ _ _ => true
  | _ => false
theorem star_cons {e : Expr} {es : List Expr} {env : PySem.Env} (h : isStar e = false) : starEach (e :: es) env = (false, eval e env) :: starEach es env := by
  cases e <;> first | rfl | (cases h; done)
theorem star_nil {env : PySem.Env} : starEach [] env = [] := rfl
def noStar (es : List Expr) : Bool := es.all fun e => !isStar e
theorem noStar_cons {e : Expr} {es : List Expr} (h : noStar (e :: es) = true) : isStar e = false ∧ noStar es = true := by
  simp only [noStar, List.all_cons, Bool.and_eq_true, Bool.not_eq_true'] at h
  exact h
theorem back_plain {pos : Pos} {env : PySem.Env} : ∀ {es : List Expr}, noStar es = true → (backTo pos (starEach es env)).any (·.1) = false
  | [], _ => rfl
  | e :: es, h => by
    obtain ⟨h1, h2⟩ := noStar_cons h
    rw [star_cons h1]
    show (false || (backTo pos (starEach es env)).any (·.1)) = false
    rw [back_plain h2]; rfl
theorem back_all {pos : Pos} {env : PySem.Env} : ∀ {es : List Expr}, noStar es = true → (backTo pos (starEach es env)).all (fun x => !x.1) = true
  | [], _ => rfl
  | e :: es, h => by
    obtain ⟨h1, h2⟩ := noStar_cons h
    rw [star_cons h1]
    show (true && (backTo pos (starEach es env)).all (fun x => !x.1)) = true
    rw [back_all h2]; rfl
theorem few_ok {pos : Pos} {env : PySem.Env} {es : List Expr} (h : noStar es = true) (hl : es.length < 29) : ((backTo pos (starEach es env)).all (fun x => !x.1) && (backToKw pos (keywordEach [] env)).all (fun x => x.1.isSome)
      && decide (es.length + ([] : List Keyword).length + (if ([] : List Keyword).isEmpty then 0 else 1) < 30)) = true := by
  rw [back_all h]
  simp [backToKw, keywordEach]
  omega
theorem plain_ix {e : Expr} (h : isSlice e = false) : PlainIx e := by
  intro o i
  cases e <;> first | rfl | (cases h; done)
theorem plain_sub {o e : Expr} {pos : Pos} {env : PySem.Env} (h : isSlice e = false) : ∀ v, assign (.Subscript o e pos) env v = (do
      let ov ← holding [v] (eval o env)
      let iv ← holding [v, ov] (eval e env)
      standAt pos
      holding [v, ov, iv] (setItem ov iv v)
      release [v, ov, iv] []) := by
  intro v
  cases e <;> first | rfl | (cases h; done)
theorem base_ok {o : Expr} {x : Str} {env : PySem.Env} (h : isCall o = false) : attributeBase o x env (eval o env) = eval o env := by
  cases o <;> first | rfl | (cases h; done)
theorem fold_ok {e : Expr} {env : PySem.Env} (h : isSet e = false) : ∀ x, foldedSetIterable e env x = pure x := by
  intro x
  cases e <;> first | rfl | (cases h; done)
theorem swap_ok {e : Expr} {t : Option Expr} {l : Nat} {env : PySem.Env} (h : isComp e = false) : swapsWith e t l env = pure false := by
  cases e <;> first | rfl | (cases h; done)
theorem marks_ok {op : CmpOp} {e : Expr} (h : isSet e = false) : behindInMarks op e = false := by
  cases e <;> first | rfl | (cases h; done)
/-- a test that is a plain value -/
def isLeafT : Expr → Bool
  | .UnaryOp .Not _ _ => false
  | .BoolOp _ _ _ => false
  | .IfExp _ _ _ _ => false
  | .Compare _ _ _ _ => false
  | _ => true
theorem leaf_ok {e : Expr} {env : PySem.Env} (h : isLeafT e = true) : ∀ whole, isTrue e env whole = (do let v ← whole; standAt e.pos; holding [v] (truthy v)) := by
  intro whole
  cases e with
  | UnaryOp op a p => cases op <;> first | rfl | (cases h; done)
  | _ => first | rfl | (cases h; done)
end PP
/-! The matcher of expressions, and that it is sound. -/
namespace PP
open PySem PySem.Spec L2
open PySem.PyData (strOk)

structure MC where
  N : List Str
  sc : Scope
  fn : Str → Bool
  defs : Nat → Option (Str × Nat × Bool)
  glb : Nat → Option Str
def lookB (C : MC) (x : Str) (k : NameKind) : Bool := decide (C.sc.names.lookup x = some k)
def plainN (x : Str) : Bool := !(x == ("__debug__" : Str)) && !(x == ("__classdict__" : Str))
def nameV (C : MC) (i : Nat) (x : Str) : Bool := decide (C.N[i]? = some x) && (lookB C x .local || lookB C x .cell || lookB C x .free) && plainN x
def gl (C : MC) (x : Str) : Bool := lookB C x .globalImplicit && plainN x
def locB (C : MC) (x : Str) : Bool := lookB C x .local || (lookB C x .cell && C.fn x)
def notFr : Option Md → Bool
  | some .fr => false
  | _ => true
def blkMC (C : MC) (scope : Scope) : MC := { C with sc := relS scope C.sc, fn := fun x => scope.names.lookup x == some .cell }
def ownP (C : MC) (own : List Nat) : List (Str × Nat) := own.map fun i => (C.N.getD i "", i)
mutual
def mTg (C : MC) : Tg → Expr → Bool
  | .one i, e => match vName e with
    | some x => decide (C.N[i]? = some x) && locB C x
    | none => false
  | .tup ts, e => match vTup e with
    | some es => noStar es && mTgs C ts es
    | none => false
def mTgs (C : MC) : List Tg → List Expr → Bool
  | [], [] => true
  | t :: ts, e :: es => mTg C t e && mTgs C ts es
  | _, _ => false
end
def okMt (m : Mt) (n : Nat) : Bool := match m with
  | .index => n == 0
  | .get => true
  | _ => false
mutual
def mX (C : MC) (o : List Bool) (k : Option Md) : E → Expr → Bool
  | .var i, e => match vName e with
    | some x => nameV C i x && (match k.getD .pk with
      | .pk => true
      | .sh => !(o.getD i false)
      | .fr => false)
    | none => false
  | .glb g, e => match vName e with
    | some x => decide (C.glb g = some x) && gl C x
    | none => false
  | .int z, e => decide (vConst e = some (.int z))
  | .bl b, e => decide (vConst e = some (.bool b))
  | .non, e => decide (vConst e = some .none)
  | .str s, e => decide (vConst e = some (.str s)) && sOk s
  | .tup es, e => match vTup e with
    | some ees => mA C o es ees && noStar ees && decide (ees.length ≤ 1000)
    | none => false
  | .lst es, e => match vList e with
    | some ees => mA C o es ees && noStar ees && decide (ees.length ≤ 1000)
    | none => false
  | .dk0, e => vDict0 e
  | .dt0, e => vDict0 e
  | .dkv _, _ => false
  | .bin op a b, e => match vBin e with
    | some (ea, eo, eb) => decide (eo = o2Op op) && mX C o (some .pk) a ea && mX C o (some .pk) b eb
    | none => false
  | .cmp c a b, e => match vCmp1 e with
    | some (ea, eo, eb) => decide (eo = cmOp c) && !isSet eb && notFr k && mX C o (some .pk) a ea && mX C o (some .pk) b eb
    | none => false
  | .cmp2 c c' a b d, e => match vCmp2 e with
    | some (ea, eo, eo', eb, ed) => decide (eo = cmOp c) && decide (eo' = cmOp c') && !isSet ed && notFr k && mX C o (some .pk) a ea && mX C o (some .pk) b eb && mX C o (some .pk) d ed
    | none => false
  | .and_ a b, e => match vBoolOp e with
    | some (op, ea, eb, r, p) => decide (op = .And) && notFr k && (match k with
      | none => mX C o none a ea && mX C o none b (bRest .And eb r p)
      | some _ => mX C o (some .sh) a ea && mX C o (some .sh) b (bRest .And eb r p))
    | none => false
  | .or_ a b, e => match vBoolOp e with
    | some (op, ea, eb, r, p) => decide (op = .Or) && notFr k && (match k with
      | none => mX C o none a ea && mX C o none b (bRest .Or eb r p)
      | some _ => mX C o (some .sh) a ea && mX C o (some .sh) b (bRest .Or eb r p))
    | none => false
  | .not_ a, e => match vUn e with
    | some (op, ea) => decide (op = .Not) && notFr k && (match k with
      | none => mX C o none a ea
      | some _ => mX C o (some .pk) a ea)
    | none => false
  | .neg a, e => match vUn e with
    | some (op, ea) => decide (op = .USub) && notFr k && mX C o (some .pk) a ea
    | none => false
  | .ife c a b, e => match vIfE e with
    | some (ec, ea, eb) => k.isSome && mX C o none c ec && mX C o k a ea && mX C o k b eb
    | none => false
  | .ix a i, e => match vSub e with
    | some (ea, ei) => notFr k && !isSlice ei && mX C o (some .pk) a ea && mX C o (some .pk) i ei
    | none => false
  | .slc a lo hi, e => match vSub e with
    | some (ea, es) => (match vSl es with
      | some (l, h) => mX C o (some .pk) a ea && mO C o lo l && mO C o hi h
      | none => false)
    | none => false
  | .rev a, e => match vSub e with
    | some (ea, es) => vRevSl es && mX C o (some .pk) a ea
    | none => false
  | .call f es, e => match vCall e with
    | some (x, e1, er, _) => (match C.defs f with
      | some (y, _, fr) => decide (y = x) && gl C x && noStar (e1 :: er) && (fr || notFr k) && mA C o es (e1 :: er)
      | none => false)
    | none => false
  | .bi b es, e => match vCall e with
    | some (x, e1, er, _) => decide (x = biN b) && gl C x && noStar (e1 :: er) && mP C o es (e1 :: er)
    | none => false
  | .mt m a es, e => match vMeth e with
    | some (ea, x, ap, e1 :: er, p) => decide (x = mtN m) && okMt m er.length && notFr k && !isCall ea && noStar (e1 :: er) && decide ((e1 :: er).length < 29) && (ap.endLine == p.line) && mX C o (some .pk) a ea && mA C o es (e1 :: er)
    | _ => false
  | .isi a t, e => match vCall e with
    | some (x, e1, [tn], _) => decide (x = ("isinstance" : Str)) && decide (vName tn = some (Str.ofString (tyN t))) && gl C "isinstance" && gl C (Str.ofString (tyN t)) && !isStar e1 && notFr k && mX C o (some .pk) a e1
    | _ => false
  | .call0 f, e => match vCall0 e with
    | some x => (match C.defs f with
      | some (y, _, fr) => decide (y = x) && gl C x && (fr || notFr k)
      | none => false)
    | none => false
  | .lr1 a, e => match vCall e with
    | some (x, e1, [], _) => (match vCall e1 with
      | some (y, e2, [], _) => decide (x = ("list" : Str)) && gl C x && decide (y = ("range" : Str)) && gl C y && !isStar e2 && mX C o (some .pk) a e2
      | _ => false)
    | _ => false
  | .lr2 a b, e => match vCall e with
    | some (x, e1, [], _) => (match vCall e1 with
      | some (y, e2, [e3], _) => decide (x = ("list" : Str)) && gl C x && decide (y = ("range" : Str)) && gl C y && !isStar e2 && !isStar e3 && mX C o (some .pk) a e2 && mX C o (some .pk) b e3
      | _ => false)
    | _ => false
  | .bor fr l a, e => isLeafT e && (match fr with
    | true => mX C (clr o l) (some .fr) a e
    | false => notFr k && mX C (clr o l) (some .sh) a e)
  | .lc elt tgt it ifs own, e => match vLc e with
    | some (eelt, tg, iter, eifs, scope, _) => blkC C.N C.sc scope (ownP C own) && decide (scope.kind = .function) && (tgt.slots.all fun j => own.contains j) && !isSet iter && mTg (blkMC C scope) tgt tg && mI C o true it tg iter &&
        mF (blkMC C scope) (clr o tgt.slots) ifs eifs && mX (blkMC C scope) (clr o tgt.slots) (some .sh) elt eelt
    | none => false
def mA (C : MC) (o : List Bool) : Es → List Expr → Bool
  | .nil, [] => true
  | .cons a r, e :: es => mX C o (some .sh) a e && mA C o r es
  | _, _ => false
def mP (C : MC) (o : List Bool) : Es → List Expr → Bool
  | .nil, [] => true
  | .cons a r, e :: es => mX C o (some .pk) a e && mP C o r es
  | _, _ => false
def mF (C : MC) (o : List Bool) : Es → List Expr → Bool
  | .nil, [] => true
  | .cons a .nil, [e] => mX C o none a e
  | _, _ => false
def mO (C : MC) (o : List Bool) : Eo → Option Expr → Bool
  | .none, none => true
  | .some a, some e => mX C o (some .pk) a e
  | _, _ => false
def mI (C : MC) (o : List Bool) (pk : Bool) : Wk → Expr → Expr → Bool
  | .seq a, _, e => mX C o (some (mdI pk)) a e
  | .rng1 a, _, e => match vCall e with
    | some (x, e1, [], _) => decide (x = ("range" : Str)) && gl C x && !isStar e1 && mX C o (some .pk) a e1
    | _ => false
  | .rng2 a b, _, e => match vCall e with
    | some (x, e1, [e2], _) => decide (x = ("range" : Str)) && gl C x && !isStar e1 && !isStar e2 && mX C o (some .pk) a e1 && mX C o (some .pk) b e2
    | _ => false
  | .enum a, tg, e => match vCall e with
    | some (x, e1, [], _) => decide (x = ("enumerate" : Str)) && (vTup tg).isSome && gl C x && !isStar e1 && mX C o (some (mdI pk)) a e1
    | _ => false
  | .zip2 a b, tg, e => match vCall e with
    | some (x, e1, [e2], _) => decide (x = ("zip" : Str)) && (vTup tg).isSome && gl C x && !isStar e1 && !isStar e2 && mX C o (some (mdI pk)) a e1 && mX C o (some (mdI pk)) b e2
    | _ => false
  | _, _, _ => false
end
end PP
/-! The matcher of expressions is sound. -/
namespace PP
open PySem PySem.Spec L2
open PySem.PyData (strOk)

/-- the names of the built-in functions that are used -/
def bltL : List Str := ["len", "abs", "int", "str", "tuple", "list", "sorted", "all", "any", "sum", "min", "max", "bool", "isinstance", "range", "enumerate", "zip", "dict"]
/-- what is known of a context -/
structure MOk (X : Cx) (W : WX) (cl : Nat → Value) (C : MC) (Φ : Nat → List D → R D) (Γ : Nat → Option D) : Prop where
  N : X.N = C.N
  sc : X.env.scope = C.sc
  fn : X.fn = C.fn
  nd : C.N.Nodup
  calm : X.calm = true
  u : X.A.units + 104 < cLine
  bk : C.sc.kind = .function
  tk : Takes X W
  blt : ∀ x ∈ bltL, X.mg x = none
  defs : ∀ (f : Nat) (x : Str) (np : Nat) (fr : Bool), C.defs f = some (x, np, fr) → ∃ (k : Nat) (fa : Addr) (fd : FuncData) (ps : List Str), FnOk X.prog X.w X.K X.mg X.base (L2.CX X.prog X.w) k fa fd ps (spF X.K cl np fr (Φ f)) ∧ Room k X.A ∧ X.mg x = some (.ref fa) ∧
    PySem.W.keepIn X.K (.ref fa) = true ∧ Binds X.K fd ps [] ∧ ∀ ds, Φ f ds ≠ .bad → ds.length = np
  glb : ∀ (g : Nat) (x : Str), C.glb g = some x → ∃ v u d, X.mg x = some u ∧ RelV v u ∧ Γ g = some d ∧ isMut d = false ∧ ∀ S H, Rp X.K S H v d
section
variable {X : Cx} {W : WX} {cl : Nat → Value} {C : MC} {Φ : Nat → List D → R D} {Γ : Nat → Option D} {o : List Bool}
theorem lookB_iff {x : Str} {k : NameKind} : lookB C x k = true ↔ C.sc.names.lookup x = some k := by simp [lookB]
theorem plainN_iff {x : Str} (h : plainN x = true) : (x == ("__debug__" : Str)) = false ∧ (x == ("__classdict__" : Str)) = false := by
  simpa [plainN] using h
theorem MOk.gl (M : MOk X W cl C Φ Γ) {x : Str} (h : PP.gl C x = true) : Gl X x := by
  simp only [PP.gl, Bool.and_eq_true] at h
  show X.env.scope.names.lookup x = _
  rw [M.sc]
  exact lookB_iff.mp h.1
theorem gl_plain {x : Str} (h : PP.gl C x = true) : (x == ("__debug__" : Str)) = false := by
  simp only [PP.gl, Bool.and_eq_true] at h
  exact (plainN_iff h.2).1
theorem MOk.bn (M : MOk X W cl C Φ Γ) {x : Str} (h : PP.gl C x = true) (hb : x ∈ bltL) : Bn X x := ⟨M.gl h, M.blt x hb⟩
theorem MOk.vis (M : MOk X W cl C Φ Γ) {i : Nat} {x : Str} (h : nameV C i x = true) : X.N[i]? = some x ∧ Vis X.env.scope x ∧ (x == ("__debug__" : Str)) = false ∧ (x == ("__classdict__" : Str)) = false := by
  simp only [nameV, Bool.and_eq_true, Bool.or_eq_true, decide_eq_true_eq] at h
  obtain ⟨⟨h1, h2⟩, h3⟩ := h
  refine ⟨by rw [M.N]; exact h1, ?_, plainN_iff h3⟩
  unfold Vis
  rw [M.sc]
  rcases h2 with (h2 | h2) | h2
  · exact .inl (lookB_iff.mp h2)
  · exact .inr (.inl (lookB_iff.mp h2))
  · exact .inr (.inr (lookB_iff.mp h2))
theorem MOk.loc (M : MOk X W cl C Φ Γ) {x : Str} (h : locB C x = true) : L2.Loc X.env.scope x ∧ (X.fn x = true ∨ X.env.scope.names.lookup x = some .local) := by
  simp only [locB, Bool.and_eq_true, Bool.or_eq_true] at h
  unfold L2.Loc
  rw [M.sc, M.fn]
  rcases h with h | ⟨h, h2⟩
  · exact ⟨.inl (lookB_iff.mp h), .inr (lookB_iff.mp h)⟩
  · exact ⟨.inr (lookB_iff.mp h), .inl h2⟩
theorem MOk.blkK (M : MOk X W cl C Φ Γ) : X.env.blockKind = .function := by
  unfold PySem.Env.blockKind
  rw [M.sc, M.bk]
  rfl
theorem MOk.blk (M : MOk X W cl C Φ Γ) {scope : Scope} (hk : scope.kind = .function) (s : Shared) (H : Hp) (A : Addr) (clo : List (Str × Addr)) (fp : List Addr) :
    MOk (X.blk s H scope (compEnvC scope clo A X.env) fp) W0 cl (blkMC C scope) Φ Γ :=
  ⟨M.N, by show relS scope X.env.scope = _; rw [M.sc]; rfl, rfl, M.nd, M.calm, M.u, hk, L2.takes0, M.blt, M.defs, M.glb⟩

/-! ### targets -/
theorem assign_cons {e : Expr} {es : List Expr} {env : PySem.Env} (h : isStar e = false) : assignEach (e :: es) env = (false, assign e env) :: assignEach es env := by
  cases e <;> first | rfl | (cases h; done)
theorem assign_len {env : PySem.Env} : ∀ {es : List Expr}, (assignEach es env).length = es.length
  | [] => rfl
  | e :: es => by
    cases e <;> (show (assignEach es env).length + 1 = es.length + 1; rw [assign_len])
theorem assign_find {env : PySem.Env} : ∀ {es : List Expr}, noStar es = true → (assignEach es env).findIdx? (·.1) = none
  | [], _ => rfl
  | e :: es, h => by
    obtain ⟨h1, h2⟩ := noStar_cons h
    rw [assign_cons h1, List.findIdx?_cons]
    simp [assign_find h2]
mutual
theorem mTg_ok (M : MOk X W cl C Φ Γ) : ∀ (t : Tg) {e : Expr}, mTg C t e = true → SG X e t
  | .one i, e, h => by
    simp only [mTg] at h
    split at h
    · rename_i x hx
      obtain ⟨p, rfl⟩ := vName_some hx
      simp only [Bool.and_eq_true, decide_eq_true_eq] at h
      obtain ⟨l1, l2⟩ := M.loc h.2
      exact sg_one (by rw [M.N]; exact M.nd) (by rw [M.N]; exact h.1) l1 l2
    · cases h
  | .tup ts, e, h => by
    simp only [mTg] at h
    split at h
    · rename_i es hx
      obtain ⟨k, p, rfl⟩ := vTup_some hx
      simp only [Bool.and_eq_true] at h
      obtain ⟨h1, h2⟩ := mTgs_ok M ts h.1 h.2
      exact sg_tup M.calm h1 (by rw [assign_len]; exact h2) (assign_find h.1)
    · cases h
theorem mTgs_ok (M : MOk X W cl C Φ Γ) : ∀ (ts : List Tg) {es : List Expr}, noStar es = true → mTgs C ts es = true → SGs X es ts ∧ es.length = ts.length
  | [], [], _, _ => ⟨sgs_nil, rfl⟩
  | [], _ :: _, _, h => by simp [mTgs] at h
  | _ :: _, [], _, h => by simp [mTgs] at h
  | t :: ts, e :: es, hs, h => by
    simp only [mTgs, Bool.and_eq_true] at h
    obtain ⟨s1, s2⟩ := noStar_cons hs
    obtain ⟨h1, h2⟩ := mTgs_ok M ts s2 h.2
    exact ⟨sgs_cons (mTg_ok M t h.1) h1 (by rw [assign_cons s1]; rfl), by simp [h2]⟩
end

/-! ### one tree -/
def Good (X : Cx) (W : WX) (cl : Nat → Value) (o : List Bool) (k : Option Md) (e : Expr) (f : Env → R D) : Prop :=
  (∀ m, k = some m → SE X W cl o m e f) ∧ (k = none → ST X W cl o e (fun ρ => (f ρ).bind tr) ∧ ∀ op r p, e = .BoolOp op r p → SW X W cl o e (fun ρ => (f ρ).bind tr))
theorem Good.congr {k : Option Md} {e : Expr} {f f' : Env → R D} (h : Good X W cl o k e f) (hf : ∀ ρ, f ρ = f' ρ) : Good X W cl o k e f' := by
  obtain rfl : f = f' := funext hf
  exact h
theorem leaf_not {e : Expr} (h : isLeafT e = true) (op : BoolOp) (r : List Expr) (p : Pos) : e ≠ .BoolOp op r p := fun z => by subst z; cases h
theorem good_all {k : Option Md} {e : Expr} {f : Env → R D} (h : ∀ m, SE X W cl o m e f) (hl : isLeafT e = true) : Good X W cl o k e f :=
  ⟨fun m _ => h m, fun _ => ⟨st_plain (h .pk) (leaf_ok hl), fun op r p z => absurd z (leaf_not hl op r p)⟩⟩
theorem good_fr {k : Option Md} {e : Expr} {f : Env → R D} (h : SE X W cl o .fr e f) (hl : isLeafT e = true) : Good X W cl o k e f :=
  good_all (fun m => by
    cases m with
    | sh => exact h.toSh
    | fr => exact h
    | pk => exact h.toPk) hl
theorem good_sh {k : Option Md} {e : Expr} {f : Env → R D} (h : SE X W cl o .sh e f) (hk : notFr k = true) (hl : isLeafT e = true) : Good X W cl o k e f :=
  ⟨fun m e => by
    subst e
    cases m with
    | sh => exact h
    | fr => cases hk
    | pk => exact h.toPk, fun _ => ⟨st_plain h.toPk (leaf_ok hl), fun op r p z => absurd z (leaf_not hl op r p)⟩⟩
/-- two readings: as a value, as a test -/
theorem good_two {k : Option Md} {e : Expr} {f : Env → R D} (h : k ≠ none → SE X W cl o .sh e f) (t : k = none → ST X W cl o e (fun ρ => (f ρ).bind tr) ∧ ∀ op r p, e = .BoolOp op r p → SW X W cl o e (fun ρ => (f ρ).bind tr)) (hk : notFr k = true) : Good X W cl o k e f :=
  ⟨fun m e => by
    have h' : SE X W cl o .sh _ f := h (by rw [e]; exact fun z => nomatch z)
    subst e
    cases m with
    | sh => exact h'
    | fr => cases hk
    | pk => exact h'.toPk, t⟩
theorem Good.pk {e : Expr} {f : Env → R D} (h : Good X W cl o (some .pk) e f) : SE X W cl o .pk e f := h.1 _ rfl
theorem Good.sh {e : Expr} {f : Env → R D} (h : Good X W cl o (some .sh) e f) : SE X W cl o .sh e f := h.1 _ rfl
theorem Good.md {m : Md} {e : Expr} {f : Env → R D} (h : Good X W cl o (some m) e f) : SE X W cl o m e f := h.1 _ rfl
theorem Good.test {e : Expr} {f : Env → R D} (h : Good X W cl o none e f) : ST X W cl o e (fun ρ => (f ρ).bind tr) := (h.2 rfl).1
theorem isSome_of {α : Type} {x : Option α} (h : x.isSome = true) : ∃ a, x = some a := Option.isSome_iff_exists.mp h
end
end PP
/-! The matcher of expressions is sound: all forms. -/
namespace PP
open PySem PySem.Spec L2
open PySem.PyData (strOk)
section
variable {cl : Nat → Value} {Φ : Nat → List D → R D} {Γ : Nat → Option D}
theorem SW.ofOne {X : Cx} {W : WX} {o : List Bool} {op : BoolOp} {a : Expr} {f : Env → R Bool} {p : Pos} (h : ST X W cl o a f) : SW X W cl o (.BoolOp op [a] p) f := by
  cases op with
  | And => exact sw_and1 h
  | Or => exact sw_or1 h
theorem rest_se {X : Cx} {W : WX} {o : List Bool} {op : BoolOp} {m : Md} {b : Expr} {r : List Expr} {p : Pos} {f : Env → R D} (h : SE X W cl o m (bRest op b r p) f) : SE X W cl o m (.BoolOp op (b :: r) p) f := by
  cases r with
  | nil => exact se_one h
  | cons _ _ => exact h
theorem rest_sw {X : Cx} {W : WX} {o : List Bool} {op : BoolOp} {b : Expr} {r : List Expr} {p : Pos} {f : Env → R D} (h : Good X W cl o none (bRest op b r p) f) : SW X W cl o (.BoolOp op (b :: r) p) (fun ρ => (f ρ).bind tr) := by
  cases r with
  | nil => exact SW.ofOne h.test
  | cons _ _ => exact (h.2 rfl).2 _ _ _ rfl
theorem tr_and (x : R D) (y : R D) : (x.bind tr).bind (fun k => if k then y.bind tr else .ok false) = (x.bind fun x => (tr x).bind fun k => if k then y else .ok x).bind tr := by
  cases x with
  | ok d =>
    show (tr d).bind _ = ((tr d).bind _).bind tr
    cases e : tr d with
    | ok k =>
      cases k with
      | true => rfl
      | false => exact e.symm
    | err c p => rfl
    | bad => rfl
  | err c p => rfl
  | bad => rfl
theorem tr_or (x : R D) (y : R D) : (x.bind tr).bind (fun k => if k then .ok true else y.bind tr) = (x.bind fun x => (tr x).bind fun k => if k then .ok x else y).bind tr := by
  cases x with
  | ok d =>
    show (tr d).bind _ = ((tr d).bind _).bind tr
    cases e : tr d with
    | ok k =>
      cases k with
      | true => exact e.symm
      | false => rfl
    | err c p => rfl
    | bad => rfl
  | err c p => rfl
  | bad => rfl
theorem tr_not (x : R D) : (x.bind tr).bind (fun k => .ok (!k)) = (x.bind fun x => (tr x).bind fun k => .ok (.bl (!k))).bind tr := by
  cases x with
  | ok d =>
    show (tr d).bind _ = ((tr d).bind _).bind tr
    cases tr d <;> rfl
  | err c p => rfl
  | bad => rfl
theorem tr_ife (x : R D) (y : D → Bool → R D) : (x.bind tr).bind (fun k => y .non k) = x.bind fun x => (tr x).bind fun k => y .non k := by
  cases x <;> rfl
theorem evt_one (f : R D) : (f.bind fun d => (tr d).bind fun k => if k then .ok true else .ok false) = f.bind tr := by
  cases f with
  | ok d =>
    show (tr d).bind _ = tr d
    cases tr d with
    | ok k => cases k <;> rfl
    | err c p => rfl
    | bad => rfl
  | err c p => rfl
  | bad => rfl
theorem bind_bind {α β γ : Type} (x : R α) (f : α → R β) (g : β → R γ) : (x.bind f).bind g = x.bind fun a => (f a).bind g := by cases x <;> rfl
theorem own_snd {C : MC} (own : List Nat) : (ownP C own).map (·.2) = own := by
  unfold ownP
  rw [List.map_map]
  exact List.map_id' _
mutual
theorem mX_ok : ∀ (a : E) {X : Cx} {W : WX} {C : MC} {o : List Bool} {k : Option Md} {e : Expr}, MOk X W cl C Φ Γ → mX C o k a e = true → Good X W cl o k e (ev Φ Γ a)
  | .var i, X, W, C, o, k, e, M, h => by
    simp only [mX] at h
    split at h
    · rename_i x hx
      obtain ⟨p, rfl⟩ := vName_some hx
      simp only [Bool.and_eq_true] at h
      obtain ⟨h1, h2, h3, h4⟩ := M.vis h.1
      have key : ∀ m, (k.getD .pk = m) → SE X W cl o m (.Name x p) (ev Φ Γ (.var i)) := fun m hm => by
        refine (se_var (m := m) h1 h2 h3 h4 ?_).congr fun ρ => by simp only [ev]
        rw [hm] at h
        cases m with
        | pk => exact .inl rfl
        | sh => exact .inr ⟨rfl, by simpa using h.2⟩
        | fr => exact absurd h.2 (by simp)
      refine ⟨fun m e => key m (by rw [e]; rfl), fun e => ⟨st_plain (key .pk (by rw [e]; rfl)) (leaf_ok rfl), fun op r p z => by cases z⟩⟩
    · cases h
  | .glb g, X, W, C, o, k, e, M, h => by
    simp only [mX] at h
    split at h
    · rename_i x hx
      obtain ⟨p, rfl⟩ := vName_some hx
      simp only [Bool.and_eq_true, decide_eq_true_eq] at h
      obtain ⟨v, u, d, h1, h2, h3, h4, h5⟩ := M.glb g x h.1
      exact (good_all (fun m => se_glob (M.gl h.2) h1 h2 (gl_plain h.2) h4 h5) rfl).congr fun ρ => by simp only [ev, h3, ofOp]
    · cases h
  | .int z, X, W, C, o, k, e, M, h => by
    simp only [mX, decide_eq_true_eq] at h
    obtain ⟨j, p, rfl⟩ := vConst_some h
    exact (good_all (fun m => se_int) rfl).congr fun ρ => by simp only [ev]
  | .bl z, X, W, C, o, k, e, M, h => by
    simp only [mX, decide_eq_true_eq] at h
    obtain ⟨j, p, rfl⟩ := vConst_some h
    exact (good_all (fun m => se_bl) rfl).congr fun ρ => by simp only [ev]
  | .non, X, W, C, o, k, e, M, h => by
    simp only [mX, decide_eq_true_eq] at h
    obtain ⟨j, p, rfl⟩ := vConst_some h
    exact (good_all (fun m => se_non) rfl).congr fun ρ => by simp only [ev]
  | .str s, X, W, C, o, k, e, M, h => by
    simp only [mX, Bool.and_eq_true, decide_eq_true_eq] at h
    obtain ⟨j, p, rfl⟩ := vConst_some h.1
    exact (good_all (fun m => se_str h.2) rfl).congr fun ρ => by simp only [ev]
  | .tup es, X, W, C, o, k, e, M, h => by
    simp only [mX] at h
    split at h
    · rename_i ees hx
      obtain ⟨j, p, rfl⟩ := vTup_some hx
      simp only [Bool.and_eq_true, decide_eq_true_eq] at h
      obtain ⟨sa, sl⟩ := mA_ok es M h.1.2 h.1.1
      exact (good_all (fun m => se_tup sa fun ρ ds e => by rw [sl ρ ds e, sizeLine_eq]; omega) rfl).congr fun ρ => by simp only [ev]
    · cases h
  | .lst es, X, W, C, o, k, e, M, h => by
    simp only [mX] at h
    split at h
    · rename_i ees hx
      obtain ⟨p, rfl⟩ := vList_some hx
      simp only [Bool.and_eq_true, decide_eq_true_eq] at h
      obtain ⟨sa, sl⟩ := mA_ok es M h.1.2 h.1.1
      exact (good_fr (se_lst sa fun ρ ds e => by rw [sl ρ ds e, sizeLine_eq]; omega) rfl).congr fun ρ => by simp only [ev]
    · cases h
  | .dk0, X, W, C, o, k, e, M, h => by
    simp only [mX] at h
    obtain ⟨p, rfl⟩ := vDict0_true h
    exact (good_fr se_dk0 rfl).congr fun ρ => by simp only [ev]
  | .dt0, X, W, C, o, k, e, M, h => by
    simp only [mX] at h
    obtain ⟨p, rfl⟩ := vDict0_true h
    exact (good_fr se_dt0 rfl).congr fun ρ => by simp only [ev]
  | .dkv kvs, X, W, C, o, k, e, M, h => by simp [mX] at h
  | .bin op a b, X, W, C, o, k, e, M, h => by
    simp only [mX] at h
    split at h
    · rename_i ea eo eb hx
      obtain ⟨p, rfl⟩ := vBin_some hx
      simp only [Bool.and_eq_true, decide_eq_true_eq] at h
      obtain ⟨⟨rfl, h1⟩, h2⟩ := h
      exact (good_fr (se_bin op (mX_ok a M h1).pk (mX_ok b M h2).pk) rfl).congr fun ρ => by simp only [ev]
    · cases h
  | .cmp c a b, X, W, C, o, k, e, M, h => by
    simp only [mX] at h
    split at h
    · rename_i ea eo eb hx
      obtain ⟨p, rfl⟩ := vCmp1_some hx
      simp only [Bool.and_eq_true, decide_eq_true_eq, Bool.not_eq_true'] at h
      obtain ⟨⟨⟨⟨rfl, h0⟩, hk⟩, h1⟩, h2⟩ := h
      exact good_two (fun _ => (se_cmp M.u c (mX_ok a M h1).pk (mX_ok b M h2).pk (marks_ok h0)).congr fun ρ => by simp only [ev])
        (fun _ => ⟨(st_cmp M.u c (mX_ok a M h1).pk (mX_ok b M h2).pk (marks_ok h0)).congr fun ρ => by simp only [ev], fun op r p z => by cases z⟩) hk
    · cases h
  | .cmp2 c c' a b d, X, W, C, o, k, e, M, h => by
    simp only [mX] at h
    split at h
    · rename_i ea eo eo' eb ed hx
      obtain ⟨p, rfl⟩ := vCmp2_some hx
      simp only [Bool.and_eq_true, decide_eq_true_eq, Bool.not_eq_true'] at h
      obtain ⟨⟨⟨⟨⟨⟨rfl, rfl⟩, h0⟩, hk⟩, h1⟩, h2⟩, h3⟩ := h
      exact good_two (fun _ => (se_cmp2 M.u c c' (mX_ok a M h1).pk (mX_ok b M h2).pk (mX_ok d M h3).pk (marks_ok h0)).congr fun ρ => by simp only [ev]; try rfl)
        (fun _ => ⟨(st_cmp2 M.u c c' (mX_ok a M h1).pk (mX_ok b M h2).pk (mX_ok d M h3).pk (marks_ok h0)).congr fun ρ => by simp only [ev]; try rfl, fun op r p z => by cases z⟩) hk
    · cases h
  | .and_ a b, X, W, C, o, k, e, M, h => by
    simp only [mX] at h
    split at h
    · rename_i op ea eb r p hx
      have he := vBoolOp_some hx
      subst he
      simp only [Bool.and_eq_true, decide_eq_true_eq] at h
      obtain ⟨⟨rfl, hk⟩, h⟩ := h
      refine good_two (fun hn => ?_) (fun hn => ?_) hk
      · cases k with
        | none => exact absurd rfl hn
        | some m =>
          simp only [Bool.and_eq_true] at h
          exact (se_and (mX_ok a M h.1).sh (rest_se (mX_ok b M h.2).sh)).congr fun ρ => by simp only [ev]
      · subst hn
        simp only [Bool.and_eq_true] at h
        have sw := (sw_and (mX_ok a M h.1).test (rest_sw (p := p) (mX_ok b M h.2))).congr (f' := fun ρ => (ev Φ Γ (.and_ a b) ρ).bind tr) fun ρ => by simp only [ev]; exact tr_and _ _
        exact ⟨sw.st, fun op r p z => by cases z; exact sw⟩
    · cases h
  | .or_ a b, X, W, C, o, k, e, M, h => by
    simp only [mX] at h
    split at h
    · rename_i op ea eb r p hx
      have he := vBoolOp_some hx
      subst he
      simp only [Bool.and_eq_true, decide_eq_true_eq] at h
      obtain ⟨⟨rfl, hk⟩, h⟩ := h
      refine good_two (fun hn => ?_) (fun hn => ?_) hk
      · cases k with
        | none => exact absurd rfl hn
        | some m =>
          simp only [Bool.and_eq_true] at h
          exact (se_or (mX_ok a M h.1).sh (rest_se (mX_ok b M h.2).sh)).congr fun ρ => by simp only [ev]
      · subst hn
        simp only [Bool.and_eq_true] at h
        have sw := (sw_or (mX_ok a M h.1).test (rest_sw (p := p) (mX_ok b M h.2))).congr (f' := fun ρ => (ev Φ Γ (.or_ a b) ρ).bind tr) fun ρ => by simp only [ev]; exact tr_or _ _
        exact ⟨sw.st, fun op r p z => by cases z; exact sw⟩
    · cases h
  | .not_ a, X, W, C, o, k, e, M, h => by
    simp only [mX] at h
    split at h
    · rename_i op ea hx
      obtain ⟨p, rfl⟩ := vUn_some hx
      simp only [Bool.and_eq_true, decide_eq_true_eq] at h
      obtain ⟨⟨rfl, hk⟩, h⟩ := h
      refine good_two (fun hn => ?_) (fun hn => ?_) hk
      · cases k with
        | none => exact absurd rfl hn
        | some m => exact (se_not (mX_ok a M h).pk).congr fun ρ => by simp only [ev]
      · subst hn
        exact ⟨(st_not (mX_ok a M h).test).congr fun ρ => by simp only [ev]; exact tr_not _, fun op r p z => by cases z⟩
    · cases h
  | .neg a, X, W, C, o, k, e, M, h => by
    simp only [mX] at h
    split at h
    · rename_i op ea hx
      obtain ⟨p, rfl⟩ := vUn_some hx
      simp only [Bool.and_eq_true, decide_eq_true_eq] at h
      obtain ⟨⟨rfl, hk⟩, h⟩ := h
      exact (good_sh (se_neg (mX_ok a M h).pk) hk rfl).congr fun ρ => by simp only [ev]
    · cases h
  | .ife c a b, X, W, C, o, k, e, M, h => by
    simp only [mX] at h
    split at h
    · rename_i ec ea eb hx
      obtain ⟨p, rfl⟩ := vIfE_some hx
      simp only [Bool.and_eq_true] at h
      obtain ⟨⟨⟨hk, h1⟩, h2⟩, h3⟩ := h
      obtain ⟨m, rfl⟩ := isSome_of hk
      refine ⟨fun m' e => ?_, fun e => by cases e⟩
      cases e
      exact (se_ife (mX_ok c M h1).test (mX_ok a M h2).md (mX_ok b M h3).md).congr fun ρ => by simp only [ev]; rw [bind_bind]
    · cases h
  | .ix a i, X, W, C, o, k, e, M, h => by
    simp only [mX] at h
    split at h
    · rename_i ea ei hx
      obtain ⟨p, rfl⟩ := vSub_some hx
      simp only [Bool.and_eq_true, Bool.not_eq_true'] at h
      obtain ⟨⟨⟨hk, hs⟩, h1⟩, h2⟩ := h
      exact (good_sh (se_ix (by have := M.u; omega) (mX_ok a M h1).pk (mX_ok i M h2).pk (plain_ix hs)) hk rfl).congr fun ρ => by simp only [ev]
    · cases h
  | .slc a lo hi, X, W, C, o, k, e, M, h => by
    simp only [mX] at h
    split at h
    · rename_i ea es hx
      split at h
      · rename_i l hh hy
        obtain ⟨p, rfl⟩ := vSub_some hx
        obtain ⟨p2, rfl⟩ := vSl_some hy
        simp only [Bool.and_eq_true] at h
        obtain ⟨⟨h1, h2⟩, h3⟩ := h
        exact (good_fr (se_slc (mX_ok a M h1).pk (mO_ok lo M h2) (mO_ok hi M h3)) rfl).congr fun ρ => by simp only [ev]
      · cases h
    · cases h
  | .rev a, X, W, C, o, k, e, M, h => by
    simp only [mX] at h
    split at h
    · rename_i ea es hx
      obtain ⟨p, rfl⟩ := vSub_some hx
      simp only [Bool.and_eq_true] at h
      obtain ⟨j, p1, p2, p3, rfl⟩ := vRevSl_true h.1
      exact (good_fr (se_rev (mX_ok a M h.2).pk) rfl).congr fun ρ => by simp only [ev]
    · cases h
  | .call f es, X, W, C, o, k, e, M, h => by
    simp only [mX] at h
    split at h
    · rename_i x e1 er p hx
      split at h
      · rename_i y np fr hd
        obtain ⟨p', rfl⟩ := vCall_some hx
        simp only [Bool.and_eq_true, decide_eq_true_eq] at h
        obtain ⟨⟨⟨⟨rfl, hg⟩, hs⟩, hk⟩, h1⟩ := h
        obtain ⟨kk, fa, fd, ps, F, hr, hm, hkp, hb, hl⟩ := M.defs f y np fr hd
        obtain ⟨s1, s2⟩ := noStar_cons hs
        obtain ⟨sa, _⟩ := mA_ok es M hs h1
        have se := (se_call (pos := p) (p := p') F hl hr (M.gl hg) hm hkp hb M.tk sa (gl_plain hg) (star_cons s1) (back_plain s2)).congr (f' := ev Φ Γ (.call f es)) fun ρ => by simp only [ev]
        cases fr with
        | true => exact good_fr se rfl
        | false => exact good_sh se (by simpa using hk) rfl
      · cases h
    · cases h
  | .bi b es, X, W, C, o, k, e, M, h => by
    simp only [mX] at h
    split at h
    · rename_i x e1 er p hx
      obtain ⟨p', rfl⟩ := vCall_some hx
      simp only [Bool.and_eq_true, decide_eq_true_eq] at h
      obtain ⟨⟨⟨rfl, hg⟩, hs⟩, h1⟩ := h
      obtain ⟨s1, s2⟩ := noStar_cons hs
      have hn : biN b ∈ bltL := by cases b <;> decide
      by_cases hb : b = .sorted
      · subst hb
        exact (good_fr (se_sorted M.calm M.u (M.bn hg hn) (mP_ok es M hs h1) (star_cons s1) (back_plain s2)) rfl).congr fun ρ => by simp only [ev]
      exact (good_fr (se_bi hb M.calm (M.bn hg hn) (mP_ok es M hs h1) (star_cons s1) (back_plain s2)) rfl).congr fun ρ => by simp only [ev]
    · cases h
  | .mt m a es, X, W, C, o, k, e, M, h => by
    simp only [mX] at h
    split at h
    · rename_i ea x ap e1 er p hx
      have he := vMeth_some hx
      subst he
      simp only [Bool.and_eq_true, decide_eq_true_eq, Bool.not_eq_true'] at h
      obtain ⟨⟨⟨⟨⟨⟨⟨⟨rfl, hm⟩, hk⟩, hc⟩, hs⟩, hlen⟩, hl⟩, h1⟩, h2⟩ := h
      obtain ⟨s1, s2⟩ := noStar_cons hs
      obtain ⟨sa, _⟩ := mA_ok es M hs h2
      cases m with
      | index =>
        simp only [okMt, beq_iff_eq, List.length_eq_zero_iff] at hm
        subst hm
        exact (good_sh (se_index M.u (mX_ok a M h1).pk sa (base_ok hc) (few_ok hs hlen) hl (star_cons s1) (back_plain s2)) hk rfl).congr fun ρ => by simp only [ev]
      | get => exact (good_sh (se_get M.u (mX_ok a M h1).pk sa (base_ok hc) (few_ok hs hlen) hl (star_cons s1) (back_plain s2)) hk rfl).congr fun ρ => by simp only [ev]
      | _ => cases hm
    · cases h
  | .isi a t, X, W, C, o, k, e, M, h => by
    simp only [mX] at h
    split at h
    · rename_i x e1 tn p hx
      obtain ⟨p', rfl⟩ := vCall_some hx
      simp only [Bool.and_eq_true, decide_eq_true_eq, Bool.not_eq_true'] at h
      obtain ⟨⟨⟨⟨⟨⟨rfl, ht⟩, hg⟩, hg2⟩, s1⟩, hk⟩, h1⟩ := h
      obtain ⟨p1, rfl⟩ := vName_some ht
      have hn : Str.ofString (tyN t) ∈ bltL := by cases t <;> decide
      exact (good_sh (se_isi (M.bn hg (by decide)) (M.bn hg2 hn) (mX_ok a M h1).pk (star_cons s1) (star_cons rfl) (back_plain rfl)) hk rfl).congr fun ρ => by simp only [ev]
    · cases h
  | .call0 f, X, W, C, o, k, e, M, h => by
    simp only [mX] at h
    split at h
    · rename_i x hx
      split at h
      · rename_i y np fr hd
        obtain ⟨p, p', rfl⟩ := vCall0_some hx
        simp only [Bool.and_eq_true, decide_eq_true_eq] at h
        obtain ⟨⟨rfl, hg⟩, hk⟩ := h
        obtain ⟨kk, fa, fd, ps, F, hr, hm, hkp, hb, hl⟩ := M.defs f y np fr hd
        have se := (se_call0 (o := o) (pos := p) (p := p') F hl hr (M.gl hg) hm hkp hb M.tk (gl_plain hg)).congr (f' := ev Φ Γ (.call0 f)) fun ρ => by simp only [ev]
        cases fr with
        | true => exact good_fr se rfl
        | false => exact good_sh se (by simpa using hk) rfl
      · cases h
    · cases h
  | .lr1 a, X, W, C, o, k, e, M, h => by
    simp only [mX] at h
    split at h
    · rename_i x e1 p hx
      split at h
      · rename_i y e2 p2 hy
        obtain ⟨p', rfl⟩ := vCall_some hx
        obtain ⟨p2', rfl⟩ := vCall_some hy
        simp only [Bool.and_eq_true, decide_eq_true_eq, Bool.not_eq_true'] at h
        obtain ⟨⟨⟨⟨⟨rfl, hg⟩, rfl⟩, hg2⟩, s1⟩, h1⟩ := h
        exact (good_fr (se_lr1 M.calm (M.bn hg (by decide)) (M.bn hg2 (by decide)) (mX_ok a M h1).pk (star_cons s1)) rfl).congr fun ρ => by simp only [ev]
      · cases h
    · cases h
  | .lr2 a b, X, W, C, o, k, e, M, h => by
    simp only [mX] at h
    split at h
    · rename_i x e1 p hx
      split at h
      · rename_i y e2 e3 p2 hy
        obtain ⟨p', rfl⟩ := vCall_some hx
        obtain ⟨p2', rfl⟩ := vCall_some hy
        simp only [Bool.and_eq_true, decide_eq_true_eq, Bool.not_eq_true'] at h
        obtain ⟨⟨⟨⟨⟨⟨⟨rfl, hg⟩, rfl⟩, hg2⟩, s1⟩, s2⟩, h1⟩, h2⟩ := h
        exact (good_fr (se_lr2 M.calm (M.bn hg (by decide)) (M.bn hg2 (by decide)) (mX_ok a M h1).pk (mX_ok b M h2).pk (star_cons s1) (star_cons s2) (back_plain (by simp [noStar, s2]))) rfl).congr fun ρ => by simp only [ev]
      · cases h
    · cases h
  | .bor fr l a, X, W, C, o, k, e, M, h => by
    cases fr with
    | true =>
      simp only [mX, Bool.and_eq_true] at h
      exact (good_fr (mX_ok a M h.2).md.bor h.1).congr fun ρ => by simp only [ev]; rfl
    | false =>
      simp only [mX, Bool.and_eq_true] at h
      exact (good_sh (mX_ok a M h.2.2).sh.bos h.2.1 h.1).congr fun ρ => by simp only [ev]; rfl
  | .lc elt tgt it ifs own, X, W, C, o, k, e, M, h => by
    simp only [mX] at h
    split at h
    · rename_i eelt tg iter eifs scope p hx
      have he := vLc_some hx
      subst he
      simp only [Bool.and_eq_true, decide_eq_true_eq, Bool.not_eq_true', List.all_eq_true] at h
      obtain ⟨⟨⟨⟨⟨⟨⟨hb, hk⟩, hsub⟩, hset⟩, htg⟩, hi⟩, hf⟩, hel⟩ := h
      have ok : BlkOk X.N X.env.scope scope (ownP C own) := by rw [M.N, M.sc]; exact blkOk_by hb
      have B := fun (s : Shared) (H : Hp) (A : Addr) (clo : List (Str × Addr)) (fp : List Addr) => M.blk hk s H A clo fp
      have se := se_lc (W := W) (pos := p) (fi := evi Φ Γ it) (ft := evt Φ Γ ifs) (fe := ev Φ Γ elt) M.calm (by rw [M.N]; exact M.nd) (mI_ok it M hi) ok
        (fun j hj => by rw [own_snd]; have := hsub j hj; simpa using this) (fun s H A clo fp => mTg_ok (B s H A clo fp) tgt htg)
        (fun s H A clo fp => mF_ok ifs (B s H A clo fp) hf) (fun s H A clo fp => (mX_ok elt (B s H A clo fp) hel).sh) (fold_ok hset)
      rw [own_snd] at se
      exact (good_fr se rfl).congr fun ρ => by simp only [ev]; try rfl
    · cases h
theorem mA_ok : ∀ (a : Es) {X : Cx} {W : WX} {C : MC} {o : List Bool} {es : List Expr}, MOk X W cl C Φ Γ → noStar es = true → mA C o a es = true → SA X W cl o es (evs Φ Γ a) ∧ ∀ ρ ds, evs Φ Γ a ρ = .ok ds → ds.length = es.length
  | .nil, X, W, C, o, [], M, _, h => ⟨(by
      have := sa_nil (X := X) (W := W) (cl := cl) (o := o)
      exact this), fun ρ ds e => by simp only [evs] at e; cases e; rfl⟩
  | .nil, X, W, C, o, _ :: _, M, _, h => by simp [mA] at h
  | .cons a r, X, W, C, o, [], M, _, h => by simp [mA] at h
  | .cons a r, X, W, C, o, e :: es, M, hs, h => by
    simp only [mA, Bool.and_eq_true] at h
    obtain ⟨s1, s2⟩ := noStar_cons hs
    obtain ⟨q1, q2⟩ := mA_ok r M s2 h.2
    refine ⟨?_, fun ρ ds e => ?_⟩
    · have := sa_cons (mX_ok a M h.1).sh q1 (star_cons s1)
      exact this
    · simp only [evs] at e
      cases e1 : ev Φ Γ a ρ with
      | ok d =>
        cases e2 : evs Φ Γ r ρ with
        | ok ds' =>
          simp only [e1, e2, R.bind] at e
          cases e
          simp only [List.length_cons, q2 ρ ds' e2]
        | err c p => simp only [e1, e2, R.bind] at e; cases e
        | bad => simp only [e1, e2, R.bind] at e; cases e
      | err c p => simp only [e1, R.bind] at e; cases e
      | bad => simp only [e1, R.bind] at e; cases e
theorem mP_ok : ∀ (a : Es) {X : Cx} {W : WX} {C : MC} {o : List Bool} {es : List Expr}, MOk X W cl C Φ Γ → noStar es = true → mP C o a es = true → PP.SP X W cl o es (evs Φ Γ a)
  | .nil, X, W, C, o, [], M, _, h => by
      have := sp_nil (X := X) (W := W) (cl := cl) (o := o)
      exact this
  | .nil, X, W, C, o, _ :: _, M, _, h => by simp [mP] at h
  | .cons a r, X, W, C, o, [], M, _, h => by simp [mP] at h
  | .cons a r, X, W, C, o, e :: es, M, hs, h => by
    simp only [mP, Bool.and_eq_true] at h
    obtain ⟨s1, s2⟩ := noStar_cons hs
    have := sp_cons (mX_ok a M h.1).pk (mP_ok r M s2 h.2) (star_cons s1)
    exact this
theorem mF_ok : ∀ (a : Es) {X : Cx} {W : WX} {C : MC} {o : List Bool} {es : List Expr}, MOk X W cl C Φ Γ → mF C o a es = true → SF X W cl o es (evt Φ Γ a)
  | .nil, X, W, C, o, [], M, h => by
      have := sf_nil (X := X) (W := W) (cl := cl) (o := o)
      exact this
  | .nil, X, W, C, o, _ :: _, M, h => by simp [mF] at h
  | .cons a r, X, W, C, o, [], M, h => by cases r <;> simp [mF] at h
  | .cons a .nil, X, W, C, o, [e], M, h => by
    simp only [mF] at h
    exact (sf_one (mX_ok a M h).test).congr fun ρ => by simp only [evt]; exact (evt_one _).symm
  | .cons a .nil, X, W, C, o, _ :: _ :: _, M, h => by simp [mF] at h
  | .cons a (.cons _ _), X, W, C, o, _ :: _, M, h => by simp [mF] at h
theorem mO_ok : ∀ (a : Eo) {X : Cx} {W : WX} {C : MC} {o : List Bool} {e : Option Expr}, MOk X W cl C Φ Γ → mO C o a e = true → SO X W cl o e (evo Φ Γ a)
  | .none, X, W, C, o, none, M, h => by
      have := so_none (X := X) (W := W) (cl := cl) (o := o)
      exact this
  | .none, X, W, C, o, some _, M, h => by simp [mO] at h
  | .some a, X, W, C, o, none, M, h => by simp [mO] at h
  | .some a, X, W, C, o, some e, M, h => by
    simp only [mO] at h
    have := so_some (mX_ok a M h).pk
    exact this
theorem mI_ok : ∀ (a : Wk) {X : Cx} {W : WX} {C : MC} {o : List Bool} {pk : Bool} {tg e : Expr}, MOk X W cl C Φ Γ → mI C o pk a tg e = true → SI X W cl o pk tg e (evi Φ Γ a)
  | .seq a, X, W, C, o, pk, tg, e, M, h => by
    simp only [mI] at h
    have := si_seq (tg := tg) (mX_ok a M h).md
    exact this
  | .rng1 a, X, W, C, o, pk, tg, e, M, h => by
    simp only [mI] at h
    split at h
    · rename_i x e1 p hx
      obtain ⟨p', rfl⟩ := vCall_some hx
      simp only [Bool.and_eq_true, decide_eq_true_eq, Bool.not_eq_true'] at h
      obtain ⟨⟨⟨rfl, hg⟩, s1⟩, h1⟩ := h
      have := si_rng1 (pk := pk) (tg := tg) (p := p') (pos := p) (M.bn hg (by decide)) (mX_ok a M h1).pk (by rw [star_cons s1]; rfl)
      exact this
    · cases h
  | .rng2 a b, X, W, C, o, pk, tg, e, M, h => by
    simp only [mI] at h
    split at h
    · rename_i x e1 e2 p hx
      obtain ⟨p', rfl⟩ := vCall_some hx
      simp only [Bool.and_eq_true, decide_eq_true_eq, Bool.not_eq_true'] at h
      obtain ⟨⟨⟨⟨⟨rfl, hg⟩, s1⟩, s2⟩, h1⟩, h2⟩ := h
      have := si_rng2 (pk := pk) (tg := tg) (p := p') (pos := p) (M.bn hg (by decide)) (mX_ok a M h1).pk (mX_ok b M h2).pk (by rw [star_cons s1, star_cons s2]; rfl) (by rw [star_cons s2]; rfl)
      exact this
    · cases h
  | .enum a, X, W, C, o, pk, tg, e, M, h => by
    simp only [mI] at h
    split at h
    · rename_i x e1 p hx
      obtain ⟨p', rfl⟩ := vCall_some hx
      simp only [Bool.and_eq_true, decide_eq_true_eq, Bool.not_eq_true'] at h
      obtain ⟨⟨⟨⟨rfl, ht⟩, hg⟩, s1⟩, h1⟩ := h
      obtain ⟨elts, het⟩ := isSome_of ht
      obtain ⟨kk, tp, rfl⟩ := vTup_some het
      have := si_enum (pk := pk) (p := p') (pos := p) (elts := elts) (kk := kk) (tpos := tp) (M.bn hg (by decide)) (mX_ok a M h1).md (by rw [star_cons s1]; rfl)
      exact this
    · cases h
  | .zip2 a b, X, W, C, o, pk, tg, e, M, h => by
    simp only [mI] at h
    split at h
    · rename_i x e1 e2 p hx
      obtain ⟨p', rfl⟩ := vCall_some hx
      simp only [Bool.and_eq_true, decide_eq_true_eq, Bool.not_eq_true'] at h
      obtain ⟨⟨⟨⟨⟨⟨rfl, ht⟩, hg⟩, s1⟩, s2⟩, h1⟩, h2⟩ := h
      obtain ⟨elts, het⟩ := isSome_of ht
      obtain ⟨kk, tp, rfl⟩ := vTup_some het
      have := si_zip2 (pk := pk) (p := p') (pos := p) (elts := elts) (kk := kk) (tpos := tp) (M.bn hg (by decide)) (mX_ok a M h1).md (mX_ok b M h2).md (star_cons s1) (star_cons s2) (back_plain (by simp [noStar, s2]))
      exact this
    · cases h
  | .zip3 a b c, X, W, C, o, pk, tg, e, M, h => by simp [mI] at h
  | .keys a, X, W, C, o, pk, tg, e, M, h => by simp [mI] at h
  | .vals a, X, W, C, o, pk, tg, e, M, h => by simp [mI] at h
end
end
end PP
/-! The matcher of statements. -/
namespace PP
open PySem PySem.Spec L2
open PySem.PyData (strOk)

def vAsg : Stmt → Option (Expr × Expr × Pos)
  | .Assign [t] e p => some (t, e, p)
  | _ => none
theorem vAsg_some {s : Stmt} {t e : Expr} {p : Pos} (h : vAsg s = some (t, e, p)) : s = .Assign [t] e p := by
  unfold vAsg at h
  split at h
  · cases h; rfl
  · cases h
def vExprS : Stmt → Option (Expr × Pos)
  | .Expr e p => some (e, p)
  | _ => none
theorem vExprS_some {s : Stmt} {e : Expr} {p : Pos} (h : vExprS s = some (e, p)) : s = .Expr e p := by
  unfold vExprS at h
  split at h
  · cases h; rfl
  · cases h
def vRet : Stmt → Option Expr
  | .Return (some e) _ => some e
  | _ => none
theorem vRet_some {s : Stmt} {e : Expr} (h : vRet s = some e) : ∃ p, s = .Return (some e) p := by
  unfold vRet at h
  split at h
  · cases h; exact ⟨_, rfl⟩
  · cases h
def vRetN : Stmt → Bool
  | .Return none _ => true
  | _ => false
theorem vRetN_true {s : Stmt} (h : vRetN s = true) : ∃ p, s = .Return none p := by
  unfold vRetN at h
  split at h
  · exact ⟨_, rfl⟩
  · cases h
def vIfS : Stmt → Option (Expr × List Stmt × List Stmt)
  | .If c a b _ => some (c, a, b)
  | _ => none
theorem vIfS_some {s : Stmt} {c : Expr} {a b : List Stmt} (h : vIfS s = some (c, a, b)) : ∃ p, s = .If c a b p := by
  unfold vIfS at h
  split at h
  · cases h; exact ⟨_, rfl⟩
  · cases h
def vFor : Stmt → Option (Expr × Expr × List Stmt)
  | .For t i b [] _ => some (t, i, b)
  | _ => none
theorem vFor_some {s : Stmt} {t i : Expr} {b : List Stmt} (h : vFor s = some (t, i, b)) : ∃ p, s = .For t i b [] p := by
  unfold vFor at h
  split at h
  · cases h; exact ⟨_, rfl⟩
  · cases h
def vWhile : Stmt → Option (Expr × List Stmt)
  | .While c b [] _ => some (c, b)
  | _ => none
theorem vWhile_some {s : Stmt} {c : Expr} {b : List Stmt} (h : vWhile s = some (c, b)) : ∃ p, s = .While c b [] p := by
  unfold vWhile at h
  split at h
  · cases h; exact ⟨_, rfl⟩
  · cases h
def vAug : Stmt → Option (Str × Expr)
  | .AugAssign (.Name x _) .Add e _ => some (x, e)
  | _ => none
theorem vAug_some {s : Stmt} {x : Str} {e : Expr} (h : vAug s = some (x, e)) : ∃ p p', s = .AugAssign (.Name x p') .Add e p := by
  unfold vAug at h
  split at h
  · cases h; exact ⟨_, _, rfl⟩
  · cases h
def vPass : Stmt → Bool
  | .Pass _ => true
  | _ => false
theorem vPass_true {s : Stmt} (h : vPass s = true) : ∃ p, s = .Pass p := by cases s <;> first | exact ⟨_, rfl⟩ | (cases h; done)
def vBrk : Stmt → Bool
  | .Break _ => true
  | _ => false
theorem vBrk_true {s : Stmt} (h : vBrk s = true) : ∃ p, s = .Break p := by cases s <;> first | exact ⟨_, rfl⟩ | (cases h; done)
def vCont : Stmt → Bool
  | .Continue _ => true
  | _ => false
theorem vCont_true {s : Stmt} (h : vCont s = true) : ∃ p, s = .Continue p := by cases s <;> first | exact ⟨_, rfl⟩ | (cases h; done)
/-- a name, with its place -/
def vNameP : Expr → Option (Str × Pos)
  | .Name x p => some (x, p)
  | _ => none
theorem vNameP_some {e : Expr} {x : Str} {p : Pos} (h : vNameP e = some (x, p)) : e = .Name x p := by cases e <;> simp only [vNameP] at h <;> cases h; rfl

/-! ### the two side ways of '=' -/
/-- name = [..]: in one step -/
def swB (C : MC) (tg e : Expr) : Bool := match vNameP tg, vLc e with
  | some (t, tp), some (_, _, _, _, scope, p) => lookB C t .local && (tp.line == p.line) && !(scope.names.any fun (n, k) => n == t && (k == .local || k == .cell))
  | _, _ => false
theorem swapsWith_lc {X : Cx} {W : WX} {cl : Nat → Value} {C : MC} {Φ : Nat → List D → R D} {Γ : Nat → Option D} (M : MOk X W cl C Φ Γ) {elt tg iter : Expr} {ifs : List Expr} {scope : Scope} {p tp : Pos} {t : Str} {l : Nat} :
    swapsWith (.ListComp elt [⟨tg, iter, ifs, 0⟩] scope p) (some (.Name t tp)) l X.env = pure (lookB C t .local && (tp.line == p.line) && !(scope.names.any fun (n, k) => n == t && (k == .local || k == .cell))) := by
  have h1 : X.env.blockKind = .function := M.blkK
  have h2 : X.env.kindOf t = C.sc.names.lookup t := by show X.env.scope.names.lookup t = _; rw [M.sc]
  have h3 : (X.env.kindOf t == some NameKind.local) = lookB C t .local := by
    rw [h2]
    show _ = decide _
    cases hq : decide (List.lookup t C.sc.names = some NameKind.local) with
    | true => rw [of_decide_eq_true hq]; rfl
    | false => exact beq_false_of_ne (of_decide_eq_false hq)
  show pure (X.env.blockKind == .function && X.env.kindOf t == some .local && tp.line == p.line && _) = _
  rw [h1, h3]
  rfl
theorem swapsWith_sub {e o i : Expr} {p : Pos} {l : Nat} {env : PySem.Env} : swapsWith e (some (.Subscript o i p)) l env = pure false := by
  cases e <;> rfl
theorem swapsWith_no {X : Cx} {W : WX} {cl : Nat → Value} {C : MC} {Φ : Nat → List D → R D} {Γ : Nat → Option D} (M : MOk X W cl C Φ Γ) {tg e : Expr} {l : Nat} (ht : isComp e = false ∨ (vLc e).isSome = true) (h : swB C tg e = false) : swapsWith e (some tg) l X.env = pure false := by
  rcases ht with ht | ht
  · exact swap_ok ht
  · obtain ⟨⟨elt, tg', iter, ifs, scope, p⟩, hq⟩ := Option.isSome_iff_exists.mp ht
    have he := vLc_some hq
    subst he
    cases hn : vNameP tg with
    | none => cases tg <;> first | rfl | (cases hn; done)
    | some q =>
      obtain ⟨t, tp⟩ := q
      have := vNameP_some hn
      subst this
      rw [swapsWith_lc M]
      unfold swB at h
      rw [hn, hq] at h
      simp only at h
      rw [h]
/-- a, b = x, y: the names that are stored from the right; none: as any tuple; else it is not told -/
def swS (C : MC) (ts vs : List Expr) : Option (Option (List Str)) :=
  if (!(ts.length == 2 || ts.length == 3) || vs.length != ts.length) = true then some none
  else if (vs.any isStar) = true then some none
  else
    let line := (ts.head?.map (·.pos.line)).getD 0
    let names := ts.filterMap fun
      | .Name id pos => if (C.sc.names.lookup id == some .local && pos.line == line) = true then some id else none
      | _ => none
    if (names.length != ts.length || names.eraseDups.length != names.length) = true then some none
    else if (vs.all (foldedForSure 8)) = true then some none
    else if (vs.all (constantsAlone 8)) = true then none
    else some (some names)
theorem swS_ok {X : Cx} {W : WX} {cl : Nat → Value} {C : MC} {Φ : Nat → List D → R D} {Γ : Nat → Option D} (M : MOk X W cl C Φ Γ) {ts vs : List Expr} {k k2 : Nat} {p p2 : Pos} {r : Option (List Str)} (h : swS C ts vs = some r) :
    swappedStores [.Tuple ts k p] (.Tuple vs k2 p2) X.env = pure r := by
  have h1 : X.env.blockKind = .function := M.blkK
  have h2 : ∀ t, X.env.kindOf t = C.sc.names.lookup t := fun t => by show X.env.scope.names.lookup t = _; rw [M.sc]
  unfold swS at h
  show (if (!(ts.length == 2 || ts.length == 3) || vs.length != ts.length || X.env.blockKind != .function) = true then pure none
    else if (vs.any fun | .Starred .. => true | _ => false) = true then pure none
    else if ((ts.filterMap fun
        | .Name id pos => if X.env.kindOf id == some .local && pos.line == (ts.head?.map (·.pos.line)).getD 0 then some id else none
        | _ => none).length != ts.length || (ts.filterMap fun
        | .Name id pos => if X.env.kindOf id == some .local && pos.line == (ts.head?.map (·.pos.line)).getD 0 then some id else none
        | _ => none).eraseDups.length != (ts.filterMap fun
        | .Name id pos => if X.env.kindOf id == some .local && pos.line == (ts.head?.map (·.pos.line)).getD 0 then some id else none
        | _ => none).length) = true then pure none
    else if vs.all (foldedForSure 8) = true then pure none
    else if vs.all (constantsAlone 8) = true then _ else _ : Sem (Option (List Str))) = pure r
  have e1 : (X.env.blockKind != ScopeKind.function) = false := by rw [h1]; rfl
  rw [e1, Bool.or_false]
  by_cases c1 : (!(ts.length == 2 || ts.length == 3) || vs.length != ts.length) = true
  · rw [if_pos c1] at h ⊢
    cases h; rfl
  · rw [if_neg c1] at h ⊢
    have e2 : (vs.any fun | .Starred .. => true | _ => false) = vs.any isStar := by
      apply congrArg (fun f => vs.any f)
      funext e
      cases e <;> rfl
    rw [e2]
    by_cases c2 : (vs.any isStar) = true
    · rw [if_pos c2] at h ⊢
      cases h; rfl
    · rw [if_neg c2] at h ⊢
      have e3 : (ts.filterMap fun
        | .Name id pos => if X.env.kindOf id == some .local && pos.line == (ts.head?.map (·.pos.line)).getD 0 then some id else none
        | _ => none) = (ts.filterMap fun
        | .Name id pos => if (C.sc.names.lookup id == some .local && pos.line == (ts.head?.map (·.pos.line)).getD 0) = true then some id else none
        | _ => none) := by
        apply congrArg (fun f => ts.filterMap f)
        funext e
        cases e <;> first | rfl | (simp only [h2])
      rw [e3]
      simp only at h
      split at h
      · rename_i c3
        rw [if_pos c3]
        cases h; rfl
      · rename_i c3
        rw [if_neg c3]
        split at h
        · rename_i c4
          rw [if_pos c4]
          cases h; rfl
        · rename_i c4
          rw [if_neg c4]
          split at h
          · cases h
          · rename_i c5
            rw [if_neg c5]
            cases h
            exact congrArg (fun l => (pure (some l) : Sem (Option (List Str)))) e3
def noSwap (C : MC) (tg e : Expr) : Bool := match vTup tg, vTup e with
  | some ts, some vs => decide (swS C ts vs = some none)
  | _, _ => true
end PP
/-! The matcher of statements is sound. -/
namespace PP
open PySem PySem.Spec L2
open PySem.PyData (strOk)

/-- both ends: dead ones say nothing -/
def join : Option (List Bool) → Option (List Bool) → Option (Option (List Bool))
  | none, r => some r
  | r, none => some r
  | some a, some b => if a = b then some (some a) else none
def goesOn (o : List Bool) : Option (Option (List Bool)) → Bool
  | some none => true
  | some (some a) => decide (a = o)
  | none => false
def isLc : E → Bool
  | .lc .. => true
  | _ => false
mutual
def mS (C : MC) (fr : Bool) (oL o : List Bool) : S → Stmt → Option (Option (List Bool))
  | .asg t e, st => match vAsg st with
    | some (tg, ee, p) => if swB C tg ee = true then (match t with
        | .one i => if isLc e && mX C o (some .fr) e ee && mTg C (.one i) tg then some (some (o.set i false)) else none
        | _ => none)
      else if mX C o (some .sh) e ee && mTg C t tg && noSwap C tg ee && (!isComp ee || (vLc ee).isSome) && !isStar tg then some (some (clr o t.slots)) else none
    | none => none
  | .new i e, st => match vAsg st with
    | some (tg, ee, p) => if mX C o (some .fr) e ee && mTg C (.one i) tg && decide (i < o.length) && (!isComp ee || (vLc ee).isSome) && (!swB C tg ee || isLc e) then some (some (o.set i true)) else none
    | none => none
  | .par ts es, st => match vAsg st with
    | some (tg, ee, p) => (match ts, vTup tg, vTup ee with
      | [i, j], some [nx, ny], some [a, b] => (match vNameP nx, vNameP ny with
        | some (x, _), some (y, _) => if decide (C.N[i]? = some x) && decide (C.N[j]? = some y) && decide (i ≠ j) && lookB C x .local && lookB C y .local && noStar [a, b] && decide (swS C [nx, ny] [a, b] = some (some [x, y])) && mA C o es [a, b] then some (some (clr o [i, j])) else none
        | _, _ => none)
      | [i, j, l], some [nx, ny, nz], some [a, b, c] => (match vNameP nx, vNameP ny, vNameP nz with
        | some (x, _), some (y, _), some (z, _) => if decide (C.N[i]? = some x) && decide (C.N[j]? = some y) && decide (C.N[l]? = some z) && decide (i ≠ j) && decide (i ≠ l) && decide (j ≠ l) && lookB C x .local && lookB C y .local && lookB C z .local && noStar [a, b, c] && decide (swS C [nx, ny, nz] [a, b, c] = some (some [x, y, z])) && mA C o es [a, b, c] then some (some (clr o [i, j, l])) else none
        | _, _, _ => none)
      | _, _, _ => none)
    | none => none
  | .aug i e, st => match vAug st with
    | some (x, ee) => if decide (C.N[i]? = some x) && locB C x && mX C o (some .pk) e ee then some (some (o.set i false)) else none
    | none => none
  | .app i e, st => match vExprS st with
    | some (c, _) => (match vMeth c with
      | some (ob, nm, ap, [e1], cp) => (match vName ob with
        | some x => if decide (nm = ("append" : Str)) && nameV C i x && o.getD i false && !isStar e1 && (ap.endLine == cp.line) && mX C o (some .sh) e e1 then some (some o) else none
        | none => none)
      | _ => none)
    | none => none
  | .ext i e, st => match vExprS st with
    | some (c, _) => (match vMeth c with
      | some (ob, nm, ap, [e1], cp) => (match vName ob with
        | some x => if decide (nm = ("extend" : Str)) && nameV C i x && o.getD i false && !isStar e1 && (ap.endLine == cp.line) && mX C o (some .pk) e e1 then some (some o) else none
        | none => none)
      | _ => none)
    | none => none
  | .put i k e, st => match vAsg st with
    | some (tg, ee, _) => (match vSub tg with
      | some (ob, ek) => (match vName ob with
        | some x => if nameV C i x && o.getD i false && !isSlice ek && mX C o (some .pk) k ek && mX C o (some .sh) e ee then some (some o) else none
        | none => none)
      | none => none)
    | none => none
  | .putT i es e, st => match vAsg st with
    | some (tg, ee, _) => (match vSub tg with
      | some (ob, ek) => (match vName ob, vTup ek with
        | some x, some ks => if nameV C i x && o.getD i false && mA C o es ks && noStar ks && decide (ks.length ≤ 1000) && mX C o (some .sh) e ee then some (some o) else none
        | _, _ => none)
      | none => none)
    | none => none
  | .rev i, st => match vExprS st with
    | some (c, _) => (match vMeth c with
      | some (ob, nm, ap, [], cp) => (match vName ob with
        | some x => if decide (nm = ("reverse" : Str)) && nameV C i x && o.getD i false && (ap.endLine == cp.line) then some (some o) else none
        | none => none)
      | _ => none)
    | none => none
  | .ret e, st => match vRet st with
    | some ee => if mX C o (some (mdF fr)) e ee then some none else none
    | none => none
  | .retO i, st => match vRet st with
    | some ee => (match vName ee with
      | some x => if fr && nameV C i x && o.getD i false then some none else none
      | none => none)
    | none => none
  | .retN, st => if vRetN st then some none else none
  | .ife c a b, st => match vIfS st with
    | some (ec, ea, eb) => if mX C o none c ec then (match mSs C fr oL o a ea, mSs C fr oL o b eb with
      | some r1, some r2 => join r1 r2
      | _, _ => none) else none
    | none => none
  | .for_ t it b, st => match vFor st with
    | some (tg, iter, body) => if !isSet iter && mI C o false it tg iter && mTg C t tg && decide (clr o t.slots = o) && goesOn o (mSs C fr o o b body) then some (some o) else none
    | none => none
  | .while_ _ c b, st => match vWhile st with
    | some (ec, body) => if mX C o none c ec && goesOn o (mSs C fr o o b body) then some (some o) else none
    | none => none
  | .never, _ => some none
  | .expr e, st => match vExprS st with
    | some (ee, _) => if !isComp ee && mX C o (some .pk) e ee then some (some o) else none
    | none => none
  | .pass, st => if vPass st then some (some o) else none
  | .brk, st => if vBrk st && decide (oL = o) then some none else none
  | .cont, st => if vCont st && decide (oL = o) then some none else none
  | .share _, _ => none
  | .wipe _, _ => none
def mSs (C : MC) (fr : Bool) (oL o : List Bool) : Ss → List Stmt → Option (Option (List Bool))
  | .nil, [] => some (some o)
  | .nil, _ :: _ => none
  | .cons (.share l) r, sts => mSs C fr oL (clr o l) r sts
  | .cons (.wipe _) r, sts => mSs C fr oL o r sts
  | .cons _ _, [] => none
  | .cons s r, st :: rest => match mS C fr oL o s st with
    | some (some o1) => mSs C fr oL o1 r rest
    | some none => (match r, rest with
      | .nil, [] => some none
      | _, _ => none)
    | none => none
end
section
variable {cl : Nat → Value} {Φ : Nat → List D → R D} {Γ : Nat → Option D} {X : Cx} {W : WX} {C : MC} {S0 : Sh} {fr : Bool}
abbrev Fits (o' : List Bool) (r : Option (List Bool)) : Prop := r = none ∨ r = some o'
theorem join_fits {r1 r2 r : Option (List Bool)} {o' : List Bool} (h : join r1 r2 = some r) (f : Fits o' r) : Fits o' r1 ∧ Fits o' r2 := by
  cases r1 with
  | none => exact ⟨.inl rfl, by cases r2 <;> (simp only [join] at h; cases h; exact f)⟩
  | some a =>
    cases r2 with
    | none => simp only [join] at h; cases h; exact ⟨f, .inl rfl⟩
    | some b =>
      simp only [join] at h
      split at h
      · rename_i e
        cases h
        subst e
        exact ⟨f, f⟩
      · cases h
theorem goesOn_fits {o : List Bool} {r : Option (Option (List Bool))} (h : goesOn o r = true) : ∃ q, r = some q ∧ Fits o q := by
  cases r with
  | none => cases h
  | some q =>
    cases q with
    | none => exact ⟨none, rfl, .inl rfl⟩
    | some a => exact ⟨some a, rfl, .inr (by rw [of_decide_eq_true h])⟩
theorem fits_same {o o' : List Bool} (f : Fits o' (some o)) : o' = o := by
  rcases f with f | f
  · cases f
  · cases f; rfl
theorem noSwap_ok (M : MOk X W cl C Φ Γ) {tg e : Expr} {t : Tg} (h : noSwap C tg e = true) (ht : mTg C t tg = true) : swappedStores [tg] e X.env = pure none := by
  cases h1 : vTup tg with
  | none =>
    cases t with
    | one i =>
      simp only [mTg] at ht
      split at ht
      · rename_i x hx
        obtain ⟨p, rfl⟩ := vName_some hx
        rfl
      · cases ht
    | tup ts =>
      simp only [mTg, h1] at ht
      cases ht
  | some ts =>
    obtain ⟨k, p, rfl⟩ := vTup_some h1
    cases h2 : vTup e with
    | none => cases e <;> first | rfl | (cases h2; done)
    | some vs =>
      obtain ⟨k2, p2, rfl⟩ := vTup_some h2
      simp only [noSwap, h1, h2, decide_eq_true_eq] at h
      exact swS_ok M h
/-- a comprehension's parts, once more -/
theorem lc_parts {o : List Bool} {k : Option Md} {e : E} {ee : Expr} (hl : isLc e = true) (h : mX C o k e ee = true) : ∃ elt tgt it ifs own eelt tg iter eifs scope p, e = .lc elt tgt it ifs own ∧ ee = .ListComp eelt [⟨tg, iter, eifs, 0⟩] scope p ∧
    blkC C.N C.sc scope (ownP C own) = true ∧ scope.kind = .function ∧ (∀ j ∈ tgt.slots, j ∈ own) ∧ isSet iter = false ∧ mTg (blkMC C scope) tgt tg = true ∧ mI C o true it tg iter = true ∧ mF (blkMC C scope) (clr o tgt.slots) ifs eifs = true ∧ mX (blkMC C scope) (clr o tgt.slots) (some .sh) elt eelt = true := by
  cases e with
  | lc elt tgt it ifs own =>
    simp only [mX] at h
    split at h
    · rename_i eelt tg iter eifs scope p hx
      have he := vLc_some hx
      subst he
      simp only [Bool.and_eq_true, decide_eq_true_eq, Bool.not_eq_true', List.all_eq_true] at h
      obtain ⟨⟨⟨⟨⟨⟨⟨hb, hk⟩, hsub⟩, hset⟩, htg⟩, hi⟩, hf⟩, hel⟩ := h
      exact ⟨elt, tgt, it, ifs, own, eelt, tg, iter, eifs, scope, p, rfl, rfl, hb, hk, fun j hj => by have := hsub j hj; simpa using this, hset, htg, hi, hf, hel⟩
    · cases h
  | _ => cases hl
theorem swB_name {tg e : Expr} (h : swB C tg e = true) : ∃ x p, tg = .Name x p ∧ lookB C x .local = true := by
  unfold swB at h
  split at h
  · rename_i t tp elt tg' it ifs scope p h1 h2
    have := vNameP_some h1
    simp only [Bool.and_eq_true] at h
    exact ⟨_, _, this, h.1.1⟩
  · cases h
/-- name = [..] in one step -/
theorem setLc_ok (M : MOk X W cl C Φ Γ) {oL o : List Bool} {e : E} {tg ee : Expr} {i : Nat} {p : Pos} {fr' : Bool} (hsw : swB C tg ee = true) (hl : isLc e = true) (h : mX C o (some .fr) e ee = true) (ht : mTg C (.one i) tg = true) (hfr : fr' = true → i < o.length) :
    SSt X W cl S0 fr oL o (if fr' then o.set i true else o.set i false) (.Assign [tg] ee p) (fun ρ => (ev Φ Γ e ρ).to fun d => put i (some d) ρ) := by
  obtain ⟨x, np, rfl, hloc⟩ := swB_name hsw
  obtain ⟨elt, tgt, it, ifs, own, eelt, tg, iter, eifs, scope, pp, rfl, rfl, hb, hk, hsub, hset, htg, hi, hf, hel⟩ := lc_parts hl h
  have ok : BlkOk X.N X.env.scope scope (ownP C own) := by rw [M.N, M.sc]; exact blkOk_by hb
  have B := fun (s : Shared) (H : Hp) (A : Addr) (clo : List (Str × Addr)) (fp : List Addr) => M.blk hk s H A clo fp
  have hN : X.N[i]? = some x := by
    simp only [mTg, vName, Bool.and_eq_true, decide_eq_true_eq] at ht
    rw [M.N]; exact ht.1
  have hsw' : swapsWith (.ListComp eelt [⟨tg, iter, eifs, 0⟩] scope pp) (some (.Name x np)) p.line X.env = pure true := by
    rw [swapsWith_lc M]
    unfold swB at hsw
    simp only [vNameP, vLc] at hsw
    rw [hsw]
  have ss := ss_setLc (S0 := S0) (fr := fr) (oL := oL) (W := W) (pk := true) (fr' := fr') (fi := evi Φ Γ it) (ft := evt Φ Γ ifs) (fe := ev Φ Γ elt) M.calm (by rw [M.N]; exact M.nd) hN (by rw [M.sc]; exact lookB_iff.mp hloc) hsw' (mI_ok it M hi) ok
    (fun j hj => by rw [own_snd]; exact hsub j hj) (fun s H A clo fp => mTg_ok (B s H A clo fp) tgt htg)
    (fun s H A clo fp => mF_ok ifs (B s H A clo fp) hf) (fun s H A clo fp => (mX_ok elt (B s H A clo fp) hel).sh) (fold_ok hset) hfr
  rw [own_snd] at ss
  exact SSt.congr ss fun ρ => by simp only [ev]; try rfl
theorem mTg_loc (M : MOk X W cl C Φ Γ) {i : Nat} {tg : Expr} (ht : mTg C (.one i) tg = true) : ∃ x p, tg = .Name x p ∧ X.N[i]? = some x ∧ L2.Loc X.env.scope x ∧ (X.fn x = true ∨ X.env.scope.names.lookup x = some .local) := by
  simp only [mTg] at ht
  split at ht
  · rename_i x hx
    obtain ⟨p, rfl⟩ := vName_some hx
    simp only [Bool.and_eq_true, decide_eq_true_eq] at ht
    obtain ⟨l1, l2⟩ := M.loc ht.2
    exact ⟨x, p, rfl, by rw [M.N]; exact ht.1, l1, l2⟩
  · cases ht
theorem comp_or {e : Expr} (h : (!isComp e || (vLc e).isSome) = true) : isComp e = false ∨ (vLc e).isSome = true := by
  simp only [Bool.or_eq_true, Bool.not_eq_true'] at h
  exact h
theorem assign_one {tg : Expr} {env : PySem.Env} (h : isStar tg = false) : (assignEach [tg] env).map (·.2) = [assign tg env] := by
  rw [assign_cons h]; rfl
end
end PP
/-! The matcher of statements is sound: all forms. -/
namespace PP
open PySem PySem.Spec L2
open PySem.PyData (strOk)
section
variable {cl : Nat → Value} {Φ : Nat → List D → R D} {Γ : Nat → Option D} {X : Cx} {W : WX} {C : MC} {S0 : Sh} {fr : Bool}
def isShare : S → Bool
  | .share _ => true
  | .wipe _ => true
  | _ => false
theorem mSs_cons {oL o : List Bool} {s : S} {r : Ss} {st : Stmt} {rest : List Stmt} (h : isShare s = false) : mSs C fr oL o (.cons s r) (st :: rest) = (match mS C fr oL o s st with
    | some (some o1) => mSs C fr oL o1 r rest
    | some none => (match r, rest with
      | .nil, [] => some none
      | _, _ => none)
    | none => none) := by
  cases s <;> first | rfl | (cases h; done)
theorem mSs_cons0 {oL o : List Bool} {s : S} {r : Ss} (h : isShare s = false) : mSs C fr oL o (.cons s r) [] = none := by
  cases s <;> first | rfl | (cases h; done)
theorem exSs_cons (s : S) (r : Ss) (ρ : Env) : exSs Φ Γ (.cons s r) ρ = seqO (exS Φ Γ s ρ) (exSs Φ Γ r) := by
  simp only [exSs, seqO]
  try (cases exS Φ Γ s ρ <;> rfl)
mutual
theorem mS_ok (M : MOk X W cl C Φ Γ) (hp : PassesOwn (model X.prog X.w) X.A X.env X.xe) : ∀ (s : S) {oL o o' : List Bool} {st : Stmt} {r : Option (List Bool)}, mS C fr oL o s st = some r → Fits o' r → SSt X W cl S0 fr oL o o' st (exS Φ Γ s)
  | .asg t e, oL, o, o', st, r, h, f => by
    simp only [mS] at h
    split at h
    · rename_i tg ee p hv
      have hv := vAsg_some hv
      subst hv
      split at h
      · rename_i hsw
        split at h
        · rename_i i
          split at h
          · rename_i hc
            cases h
            have := fits_same f
            subst this
            simp only [Bool.and_eq_true] at hc
            refine SSt.congr (setLc_ok (fr' := false) M hsw hc.1.1 hc.1.2 hc.2 (fun z => by cases z)) fun ρ => ?_
            simp only [exS, PP.asg]
            cases ev Φ Γ e ρ with
            | ok d =>
              show put i (some d) ρ = _
              simp only [put, R.to_ok]
              split <;> rfl
            | err c p => rfl
            | bad => rfl
          · cases h
        · cases h
      · rename_i hsw
        split at h
        · rename_i hc
          cases h
          have := fits_same f
          subst this
          simp only [Bool.and_eq_true, Bool.not_eq_true'] at hc
          obtain ⟨⟨⟨⟨h1, h2⟩, h3⟩, h4⟩, h5⟩ := hc
          exact (ss_asg (mX_ok e M h1).sh (mTg_ok M t h2) (swapsWith_no M (comp_or h4) (by simpa using hsw)) (noSwap_ok M h3 h2) (assign_one h5)).congr fun ρ => by simp only [exS]; try rfl
        · cases h
    · cases h
  | .new i e, oL, o, o', st, r, h, f => by
    simp only [mS] at h
    split at h
    · rename_i tg ee p hv
      have hv := vAsg_some hv
      subst hv
      split at h
      · rename_i hc
        cases h
        have := fits_same f
        subst this
        simp only [Bool.and_eq_true, decide_eq_true_eq] at hc
        obtain ⟨⟨⟨⟨h1, h2⟩, h3⟩, h4⟩, h5⟩ := hc
        cases hsw : swB C tg ee with
        | true =>
          rw [hsw] at h5
          simp only [Bool.not_true, Bool.false_or] at h5
          exact SSt.congr (setLc_ok (fr' := true) M hsw h5 h1 h2 (fun _ => h3)) fun ρ => by simp only [exS]
        | false =>
          obtain ⟨x, np, rfl, hN, l1, l2⟩ := mTg_loc M h2
          exact (ss_new (by rw [M.N]; exact M.nd) hN l1 l2 h3 (mX_ok e M h1).md (swapsWith_no M (comp_or h4) hsw)).congr fun ρ => by simp only [exS]
      · cases h
    · cases h
  | .par ts es, oL, o, o', st, r, h, f => by
    simp only [mS] at h
    split at h
    · rename_i tg ee p hv
      have hv := vAsg_some hv
      subst hv
      split at h
      · rename_i i j nx ny a b ht he
        obtain ⟨k, tp, rfl⟩ := vTup_some ht
        obtain ⟨k2, tp2, rfl⟩ := vTup_some he
        split at h
        · rename_i x px y py hx hy
          have := vNameP_some hx
          subst this
          have := vNameP_some hy
          subst this
          split at h
          · rename_i hc
            cases h
            have := fits_same f
            subst this
            simp only [Bool.and_eq_true, decide_eq_true_eq] at hc
            obtain ⟨⟨⟨⟨⟨⟨⟨h1, h2⟩, h3⟩, h4⟩, h5⟩, h6⟩, h7⟩, h8⟩ := hc
            exact (ss_par M.calm (by rw [M.N]; exact M.nd) (by rw [M.N]; exact h1) (by rw [M.N]; exact h2) h3 (by rw [M.sc]; exact lookB_iff.mp h4) (by rw [M.sc]; exact lookB_iff.mp h5) (mA_ok es M h6 h8).1 (swS_ok M h7)).congr fun ρ => by simp only [exS]; try rfl
          · cases h
        · cases h
      · rename_i i j l nx ny nz a b c ht he
        obtain ⟨k, tp, rfl⟩ := vTup_some ht
        obtain ⟨k2, tp2, rfl⟩ := vTup_some he
        split at h
        · rename_i x px y py z pz hx hy hz
          have := vNameP_some hx
          subst this
          have := vNameP_some hy
          subst this
          have := vNameP_some hz
          subst this
          split at h
          · rename_i hc
            cases h
            have := fits_same f
            subst this
            simp only [Bool.and_eq_true, decide_eq_true_eq] at hc
            obtain ⟨⟨⟨⟨⟨⟨⟨⟨⟨⟨⟨h1, h2⟩, h3⟩, h4⟩, h5⟩, h6⟩, h7⟩, h8⟩, h9⟩, h10⟩, h11⟩, h12⟩ := hc
            exact (ss_par3 M.calm (by rw [M.N]; exact M.nd) (by rw [M.N]; exact h1) (by rw [M.N]; exact h2) (by rw [M.N]; exact h3) h4 h5 h6 (by rw [M.sc]; exact lookB_iff.mp h7) (by rw [M.sc]; exact lookB_iff.mp h8) (by rw [M.sc]; exact lookB_iff.mp h9) (mA_ok es M h10 h12).1 (swS_ok M h11)).congr fun ρ => by simp only [exS]; try rfl
          · cases h
        · cases h
      · cases h
    · cases h
  | .aug i e, oL, o, o', st, r, h, f => by
    simp only [mS] at h
    split at h
    · rename_i x ee hv
      obtain ⟨p, p', rfl⟩ := vAug_some hv
      split at h
      · rename_i hc
        cases h
        have := fits_same f
        subst this
        simp only [Bool.and_eq_true, decide_eq_true_eq] at hc
        obtain ⟨⟨h1, h2⟩, h3⟩ := hc
        obtain ⟨l1, l2⟩ := M.loc h2
        exact (ss_aug (by rw [M.N]; exact M.nd) (by rw [M.N]; exact h1) l1 l2 (mX_ok e M h3).pk).congr fun ρ => by simp only [exS]
      · cases h
    · cases h
  | .app i e, oL, o, o', st, r, h, f => by
    simp only [mS] at h
    split at h
    · rename_i c p hv
      have hv := vExprS_some hv
      subst hv
      split at h
      · rename_i ob nm ap e1 cp hm
        have hm := vMeth_some hm
        subst hm
        split at h
        · rename_i x hx
          obtain ⟨np, rfl⟩ := vName_some hx
          split at h
          · rename_i hc
            cases h
            have := fits_same f
            subst this
            simp only [Bool.and_eq_true, decide_eq_true_eq, Bool.not_eq_true'] at hc
            obtain ⟨⟨⟨⟨⟨rfl, h2⟩, h3⟩, h4⟩, h5⟩, h6⟩ := hc
            obtain ⟨v1, v2, v3, v4⟩ := M.vis h2
            exact (ss_app v1 v2 v3 v4 h3 (mX_ok e M h6).sh (few_ok (by simp [noStar, h4]) (by simp)) h5 (star_cons h4)).congr fun ρ => by simp only [exS]
          · cases h
        · cases h
      · cases h
    · cases h
  | .ext i e, oL, o, o', st, r, h, f => by
    simp only [mS] at h
    split at h
    · rename_i c p hv
      have hv := vExprS_some hv
      subst hv
      split at h
      · rename_i ob nm ap e1 cp hm
        have hm := vMeth_some hm
        subst hm
        split at h
        · rename_i x hx
          obtain ⟨np, rfl⟩ := vName_some hx
          split at h
          · rename_i hc
            cases h
            have := fits_same f
            subst this
            simp only [Bool.and_eq_true, decide_eq_true_eq, Bool.not_eq_true'] at hc
            obtain ⟨⟨⟨⟨⟨rfl, h2⟩, h3⟩, h4⟩, h5⟩, h6⟩ := hc
            obtain ⟨v1, v2, v3, v4⟩ := M.vis h2
            exact (ss_ext v1 v2 v3 v4 h3 (mX_ok e M h6).pk (few_ok (by simp [noStar, h4]) (by simp)) h5 (star_cons h4)).congr fun ρ => by simp only [exS]
          · cases h
        · cases h
      · cases h
    · cases h
  | .put i k e, oL, o, o', st, r, h, f => by
    simp only [mS] at h
    split at h
    · rename_i tg ee p hv
      have hv := vAsg_some hv
      subst hv
      split at h
      · rename_i ob ek hs
        obtain ⟨sp, rfl⟩ := vSub_some hs
        split at h
        · rename_i x hx
          obtain ⟨np, rfl⟩ := vName_some hx
          split at h
          · rename_i hc
            cases h
            have := fits_same f
            subst this
            simp only [Bool.and_eq_true, Bool.not_eq_true'] at hc
            obtain ⟨⟨⟨⟨h1, h2⟩, h3⟩, h4⟩, h5⟩ := hc
            obtain ⟨v1, v2, v3, v4⟩ := M.vis h1
            exact (ss_put M.u v1 v2 v3 v4 h2 (mX_ok e M h5).sh (mX_ok k M h4).pk swapsWith_sub (plain_sub h3)).congr fun ρ => by simp only [exS]
          · cases h
        · cases h
      · cases h
    · cases h
  | .putT i es e, oL, o, o', st, r, h, f => by
    simp only [mS] at h
    split at h
    · rename_i tg ee p hv
      have hv := vAsg_some hv
      subst hv
      split at h
      · rename_i ob ek hs
        obtain ⟨sp, rfl⟩ := vSub_some hs
        split at h
        · rename_i x ks hx hk
          obtain ⟨np, rfl⟩ := vName_some hx
          obtain ⟨j, kp, rfl⟩ := vTup_some hk
          split at h
          · rename_i hc
            cases h
            have := fits_same f
            subst this
            simp only [Bool.and_eq_true, decide_eq_true_eq] at hc
            obtain ⟨⟨⟨⟨⟨h1, h2⟩, h3⟩, h4⟩, h5⟩, h6⟩ := hc
            obtain ⟨v1, v2, v3, v4⟩ := M.vis h1
            obtain ⟨sa, sl⟩ := mA_ok es M h4 h3
            exact (ss_putT M.u v1 v2 v3 v4 h2 (mX_ok e M h6).sh sa (fun ρ ds e => by rw [sl ρ ds e, sizeLine_eq]; omega) swapsWith_sub).congr fun ρ => by simp only [exS]
          · cases h
        · cases h
      · cases h
    · cases h
  | .rev i, oL, o, o', st, r, h, f => by
    simp only [mS] at h
    split at h
    · rename_i c p hv
      have hv := vExprS_some hv
      subst hv
      split at h
      · rename_i ob nm ap cp hm
        have hm := vMeth_some hm
        subst hm
        split at h
        · rename_i x hx
          obtain ⟨np, rfl⟩ := vName_some hx
          split at h
          · rename_i hc
            cases h
            have := fits_same f
            subst this
            simp only [Bool.and_eq_true, decide_eq_true_eq] at hc
            obtain ⟨⟨⟨rfl, h2⟩, h3⟩, h5⟩ := hc
            obtain ⟨v1, v2, v3, v4⟩ := M.vis h2
            exact (ss_rev v1 v2 v3 v4 h3 h5).congr fun ρ => by simp only [exS]
          · cases h
        · cases h
      · cases h
    · cases h
  | .ret e, oL, o, o', st, r, h, f => by
    simp only [mS] at h
    split at h
    · rename_i ee hv
      obtain ⟨p, rfl⟩ := vRet_some hv
      split at h
      · rename_i hc
        exact (ss_ret (mX_ok e M hc).md).congr fun ρ => by simp only [exS]
      · cases h
    · cases h
  | .retO i, oL, o, o', st, r, h, f => by
    simp only [mS] at h
    split at h
    · rename_i ee hv
      obtain ⟨p, rfl⟩ := vRet_some hv
      split at h
      · rename_i x hx
        obtain ⟨np, rfl⟩ := vName_some hx
        split at h
        · rename_i hc
          simp only [Bool.and_eq_true] at hc
          obtain ⟨⟨rfl, h2⟩, h3⟩ := hc
          obtain ⟨v1, v2, v3, v4⟩ := M.vis h2
          exact (ss_retO v1 v2 v3 v4 h3).congr fun ρ => by simp only [exS]
        · cases h
      · cases h
    · cases h
  | .retN, oL, o, o', st, r, h, f => by
    simp only [mS] at h
    split at h
    · rename_i hc
      obtain ⟨p, rfl⟩ := vRetN_true hc
      exact ss_retN.congr fun ρ => by simp only [exS]
    · cases h
  | .ife c a b, oL, o, o', st, r, h, f => by
    simp only [mS] at h
    split at h
    · rename_i ec ea eb hv
      obtain ⟨p, rfl⟩ := vIfS_some hv
      split at h
      · rename_i hc
        split at h
        · rename_i r1 r2 h1 h2
          obtain ⟨f1, f2⟩ := join_fits h f
          exact (ss_ife (mX_ok c M hc).test (mSs_ok M hp a h1 f1) (mSs_ok M hp b h2 f2)).congr fun ρ => by simp only [exS]
        · cases h
      · cases h
    · cases h
  | .for_ t it b, oL, o, o', st, r, h, f => by
    simp only [mS] at h
    split at h
    · rename_i tg iter body hv
      obtain ⟨p, rfl⟩ := vFor_some hv
      split at h
      · rename_i hc
        cases h
        have := fits_same f
        subst this
        simp only [Bool.and_eq_true, decide_eq_true_eq, Bool.not_eq_true'] at hc
        obtain ⟨⟨⟨⟨h1, h2⟩, h3⟩, h4⟩, h5⟩ := hc
        obtain ⟨q, hq, fq⟩ := goesOn_fits h5
        exact (ss_for hp M.calm (mI_ok it M h2) (mTg_ok M t h3) h4 (mSs_ok M hp b hq fq) (fold_ok h1)).congr fun ρ => by simp only [exS]; try rfl
      · cases h
    · cases h
  | .while_ μ c b, oL, o, o', st, r, h, f => by
    simp only [mS] at h
    split at h
    · rename_i ec body hv
      obtain ⟨p, rfl⟩ := vWhile_some hv
      split at h
      · rename_i hc
        cases h
        have := fits_same f
        subst this
        simp only [Bool.and_eq_true] at hc
        obtain ⟨h1, h5⟩ := hc
        obtain ⟨q, hq, fq⟩ := goesOn_fits h5
        exact (ss_while μ hp (mX_ok c M h1).test (mSs_ok M hp b hq fq)).congr fun ρ => by simp only [exS]
      · cases h
    · cases h
  | .never, oL, o, o', st, r, h, f => ss_never.congr fun ρ => by simp only [exS]
  | .expr e, oL, o, o', st, r, h, f => by
    simp only [mS] at h
    split at h
    · rename_i ee p hv
      have hv := vExprS_some hv
      subst hv
      split at h
      · rename_i hc
        cases h
        have := fits_same f
        subst this
        simp only [Bool.and_eq_true, Bool.not_eq_true'] at hc
        exact (ss_expr (mX_ok e M hc.2).pk (swap_ok hc.1)).congr fun ρ => by simp only [exS]
      · cases h
    · cases h
  | .pass, oL, o, o', st, r, h, f => by
    simp only [mS] at h
    split at h
    · rename_i hc
      cases h
      have := fits_same f
      subst this
      obtain ⟨p, rfl⟩ := vPass_true hc
      exact ss_pass.congr fun ρ => by simp only [exS]
    · cases h
  | .brk, oL, o, o', st, r, h, f => by
    simp only [mS] at h
    split at h
    · rename_i hc
      simp only [Bool.and_eq_true, decide_eq_true_eq] at hc
      obtain ⟨hc, rfl⟩ := hc
      obtain ⟨p, rfl⟩ := vBrk_true hc
      exact ss_brk.congr fun ρ => by simp only [exS]
    · cases h
  | .cont, oL, o, o', st, r, h, f => by
    simp only [mS] at h
    split at h
    · rename_i hc
      simp only [Bool.and_eq_true, decide_eq_true_eq] at hc
      obtain ⟨hc, rfl⟩ := hc
      obtain ⟨p, rfl⟩ := vCont_true hc
      exact ss_cont.congr fun ρ => by simp only [exS]
    · cases h
  | .share l, oL, o, o', st, r, h, f => by simp only [mS] at h; cases h
  | .wipe l, oL, o, o', st, r, h, f => by simp only [mS] at h; cases h
theorem mSs_ok (M : MOk X W cl C Φ Γ) (hp : PassesOwn (model X.prog X.w) X.A X.env X.xe) : ∀ (s : Ss) {oL o o' : List Bool} {st : List Stmt} {r : Option (List Bool)}, mSs C fr oL o s st = some r → Fits o' r → SSs X W cl S0 fr oL o o' st (exSs Φ Γ s)
  | .nil, oL, o, o', [], r, h, f => by
    simp only [mSs] at h
    cases h
    have := fits_same f
    subst this
    exact sss_nil.congr fun ρ => by simp only [exSs]
  | .nil, oL, o, o', _ :: _, r, h, f => by simp only [mSs] at h; cases h
  | .cons s rs, oL, o, o', sts, r, h, f => by
    cases hs : isShare s with
    | true =>
      cases s with
      | share l =>
        have h : mSs C fr oL (clr o l) rs sts = some r := by
          cases sts <;> exact h
        exact (sss_share (mSs_ok M hp rs h f)).congr fun ρ => by rw [exSs_cons]; rfl
      | wipe l =>
        have h : mSs C fr oL o rs sts = some r := by
          cases sts <;> exact h
        exact (sss_wipe (mSs_ok M hp rs h f)).congr fun ρ => by rw [exSs_cons]; rfl
      | _ => cases hs
    | false =>
      cases sts with
      | nil => rw [mSs_cons0 hs] at h; cases h
      | cons st rest =>
        rw [mSs_cons hs] at h
        split at h
        · rename_i o1 h1
          exact (sss_cons (mS_ok M hp s h1 (.inr rfl)) (mSs_ok M hp rs h f)).congr fun ρ => (exSs_cons s rs ρ).symm
        · rename_i h1
          split at h
          · cases h
            refine (sss_one (mS_ok M hp s h1 (.inl rfl))).congr fun ρ => ?_
            rw [exSs_cons]
            cases exS Φ Γ s ρ <;> rfl
          · cases h
        · cases h
end
end
end PP
/-! Defs; the whole text. -/
namespace PP
open PySem PySem.Spec L2
open PySem.PyData (strOk)

def sigs (T : Nat → Option Fn) (i : Nat) : Option (Str × Nat × Bool) := (T i).map fun F => (F.name, F.np, F.fresh)
def mcOf (T : Nat → Option Fn) (glb : Nat → Option Str) (F : Fn) (st : Stmt) : MC := ⟨F.N, defScope st, fun _ => true, sigs T, glb⟩
def scB (N P : List Str) (sc : Scope) : Bool :=
  decide (sc.kind = .function) && !sc.isCoroutine && !sc.isGenerator && decide N.Nodup && decide (N.take P.length = P) && P.all (fun x => decide (sc.names.lookup x = some .local) || decide (sc.names.lookup x = some .cell)) && sc.names.all (fun y => !decide (y.2 = .free))
theorem scB_ok {N P : List Str} {sc : Scope} (h : scB N P sc = true) : FnScope N P sc := by
  unfold scB at h
  simp only [Bool.and_eq_true, Bool.not_eq_true', decide_eq_true_eq, List.all_eq_true, Bool.or_eq_true, decide_eq_false_iff_not] at h
  obtain ⟨⟨⟨⟨⟨⟨h1, h2⟩, h3⟩, h4⟩, h5⟩, h6⟩, h7⟩ := h
  exact ⟨h1, h2, h3, h4, h5, h6, h7⟩
def mDef (T : Nat → Option Fn) (glb : Nat → Option Str) (F : Fn) (st : Stmt) : Bool :=
  decide (F.np ≤ F.N.length) && scB F.N (F.N.take F.np) (defScope st) && (mSs (mcOf T glb F st) F.fresh [] (List.replicate F.N.length false) F.body (defBody st)).isSome
/-- a def of the module as the top has left it -/
structure DefK (K : Fg) (x : Str) (st : Stmt) (ps : List Str) (f : Addr) : Prop where
  ns : PySem.W.nsIn K mainGlobals x = some (some (.ref f))
  kp : PySem.W.keepIn K (.ref f) = true
  fn : ∃ fd, L2.Fun K x x st f fd ∧ ∀ us : List Value, us.length = ps.length → bindArgs fd ⟨us, []⟩ = pure (ps.zip us)
theorem defK_mk {K : Fg} {x : Str} {st : Stmt} {ps : List Str} {f : Addr} {oc : Value} {od an : Option Addr} {osl : Array (Option Value)} {kV doc pm cdv ct : Value} (a : PySem.W.nsIn K mainGlobals x = some (some (.ref f)))
    (l : K.lookup f = some ⟨oc, od, .func (PySem.W.fnOf x x (defArgs st) (defBody st) (defScope st) .none kV doc pm an cdv ct), osl⟩) (c : PySem.W.codeIn K cdv x = true) (k : PySem.W.keepIn K (.ref f) = true)
    (b : ∀ (kV doc pm : Value) (an : Option Addr) (cdv ct : Value) (us : List Value), us.length = ps.length → bindArgs (PySem.W.fnOf x x (defArgs st) (defBody st) (defScope st) .none kV doc pm an cdv ct) ⟨us, []⟩ = pure (ps.zip us)) : DefK K x st ps f :=
  ⟨a, k, _, L2.fun_mk l c k, fun us hl => b _ _ _ _ _ _ us hl⟩

section
variable {P : Program} {w : World} {K : Fg} {mg : Str → Option Value} {base : Heap} {cl : Nat → Value} {Γ : Nat → Option D} {Φ : Nat → List D → R D}
theorem RpA.start {S : Sh} {H : Hp} : ∀ {vs : List V} {ds : List D} {n : Nat} {i : Nat} {d : D}, RpA K S H vs ds → (ds.map some ++ List.replicate n none)[i]? = some (some d) → ∃ v, (vs.map some ++ List.replicate n none)[i]? = some (some v) ∧ Rp K S H v d := by
  intro vs ds n i d r e
  have hl := r.len
  by_cases hi : i < ds.length
  · rw [List.getElem?_append_left (by simpa using hi), List.getElem?_map] at e
    cases e2 : ds[i]? with
    | none => rw [e2] at e; cases e
    | some d' =>
      rw [e2] at e
      cases e
      obtain ⟨v, hv, rv⟩ := r.get e2
      exact ⟨v, by rw [List.getElem?_append_left (by simpa [hl] using hi), List.getElem?_map, hv]; rfl, rv⟩
  · rw [List.getElem?_append_right (by simpa using hi), List.getElem?_replicate] at e
    split at e <;> cases e
theorem rep_false (n i : Nat) : (List.replicate n false).getD i false = false := by
  rw [List.getD, List.getElem?_replicate]
  split <;> rfl
theorem pss_hz {X : Cx} {st : List Stmt} {t : TS} (h : PSs X st t) : PSs X st (fun D σ H => HSz X.K H → t D σ H) := ⟨fun pins s σ H D I q => h.run pins s σ H D I (q (hsz_of I))⟩
/-- one def, its callees given -/
theorem def_ok {T : Nat → Option Fn} {glb : Nat → Option Str} {F : Fn} {st : Stmt} {f : Addr} {fd : FuncData} {k : Nat} (D : L2.Fun K F.name F.name st f fd) (hm : mDef T glb F st = true) (blt : ∀ x ∈ bltL, mg x = none)
    (hd : ∀ (i : Nat) (x : Str) (np : Nat) (fr : Bool), sigs T i = some (x, np, fr) → ∃ (fa : Addr) (fd : FuncData) (ps : List Str), FnOk P w K mg base (L2.CX P w) k fa fd ps (spF K cl np fr (Φ i)) ∧ mg x = some (.ref fa) ∧
      PySem.W.keepIn K (.ref fa) = true ∧ Binds K fd ps [] ∧ ∀ ds, Φ i ds ≠ .bad → ds.length = np)
    (hg : ∀ (g : Nat) (x : Str), glb g = some x → ∃ v u d, mg x = some u ∧ RelV v u ∧ Γ g = some d ∧ isMut d = false ∧ ∀ S H, Rp K S H v d) :
    FnOk P w K mg base (L2.CX P w) (k + 1) f fd (F.N.take F.np) (spF K cl F.np F.fresh (callFn Φ Γ F)) := by
  simp only [mDef, Bool.and_eq_true, decide_eq_true_eq] at hm
  obtain ⟨⟨hnp, hsc⟩, hms⟩ := hm
  have S := scB_ok hsc
  obtain ⟨r, hr⟩ := Option.isSome_iff_exists.mp hms
  refine L2.Fun.okX D S (fun vs H Q E h => ?_) (fun cdv A outer s H vs Q E hroom h => ?_)
  · rw [h.1, List.length_take]
    omega
  · obtain ⟨hlen, S0, ds, sd0, rvs, p⟩ := h
    let X := cxOf (L2.CX P w) P w K mg base F.N F.name (defScope st) f cdv A outer s H E
    have M : MOk X (fun cls d _ H => E cls d H) cl (mcOf T glb F st) Φ Γ :=
      ⟨rfl, rfl, rfl, S.nd, rfl, by have := hroom.un; show (A.deeper _).units + 104 < cLine; omega, S.kind, takes_of rfl rfl rfl rfl, blt, fun i x np fr hi => by
        obtain ⟨fa, fd, ps, q1, q2, q3, q4, q5⟩ := hd i x np fr hi
        exact ⟨k, fa, fd, ps, q1, hroom, q2, q3, q4, q5⟩, hg⟩
    have hp : PassesOwn (model X.prog X.w) X.A X.env X.xe := passes_of rfl
    let o' : List Bool := r.getD []
    have ss := mSs_ok (S0 := S0) (o' := o') M hp F.body hr (by
      cases r with
      | none => exact .inl rfl
      | some a => exact .inr rfl)
    refine ⟨_, pss_hz ss, fun z => ?_⟩
    have hds : ds.length = F.np := by rw [← rvs.len]; exact hlen
    have he : callFn Φ Γ F ds = (match exSs Φ Γ F.body (ds.map some ++ List.replicate (F.N.length - F.np) none) with
      | .nx _ => .ok .non
      | .rt d => .ok d
      | .er c p => .err c p
      | _ => .bad) := by
      unfold callFn
      rw [if_pos hds]
      try rfl
    rw [he] at p
    have hsize : F.N.length - vs.length = F.N.length - F.np := by rw [hlen]
    refine ⟨S0, ds.map some ++ List.replicate (F.N.length - F.np) none, z, ⟨Gr.refl sd0, ⟨?_, fun i d e => ?_, fun i j a di dj _ oi => ?_⟩, fun i d a oi => ?_⟩, ?_⟩
    · unfold L2.start
      simp only [List.length_append, List.length_map, List.length_replicate, hsize, hds, hlen]
    · obtain ⟨v, hv, rv⟩ := rvs.start e
      refine ⟨v, ?_, ?_⟩
      · unfold L2.start
        rw [hsize]
        exact hv
      · rw [rep_false]
        exact rv
    · rw [rep_false] at oi; cases oi
    · rw [rep_false] at oi; cases oi
    · cases eo : exSs Φ Γ F.body (ds.map some ++ List.replicate (F.N.length - F.np) none) with
      | nx ρ =>
        rw [eo] at p
        exact fun σ' S' H' gs s' z' => p .non S' H' s'.gr z' (by
          cases F.fresh with
          | true => exact .inl ⟨rfl, by simp only [Rp]⟩
          | false => show Rp _ _ _ _ _; simp only [Rp])
      | rt d =>
        rw [eo] at p
        exact fun v S' H' g' z' r' => p v S' H' g' z' r'
      | er c p' =>
        rw [eo] at p
        exact fun σ' S' H' g' => p S' H' g'
      | bk ρ => rw [eo] at p; exact False.elim p
      | ct ρ => rw [eo] at p; exact False.elim p
      | bad => rw [eo] at p; exact False.elim p
end
end PP
/-! The whole text, and the law's end. -/
namespace PP
open PySem PySem.Spec L2
open PySem.PyData (strOk)

section
variable {P : Program} {w : World} {K : Fg} {mg : Str → Option Value} {base : Heap} {cl : Nat → Value} {Γ : Nat → Option D}
theorem callFn_len {Φ : Nat → List D → R D} {F : Fn} {ds : List D} (h : callFn Φ Γ F ds ≠ .bad) : ds.length = F.np := by
  unfold callFn at h
  split at h
  · assumption
  · exact absurd rfl h
theorem run_len {T : Nat → Option Fn} {n i : Nat} {F : Fn} {ds : List D} (hT : T i = some F) (h : run T Γ n i ds ≠ .bad) : ds.length = F.np := by
  cases n with
  | zero => exact absurd rfl h
  | succ n =>
    simp only [run, hT] at h
    exact callFn_len h
/-- at each place of the list a def of the text -/
structure TextK (K : Fg) (T : Nat → Option Fn) (glb : Nat → Option Str) : Prop where
  at_ : ∀ (i : Nat) (F : Fn), T i = some F → ∃ st f, mDef T glb F st = true ∧ DefK K F.name st (F.N.take F.np) f
theorem runs {T : Nat → Option Fn} {glb : Nat → Option Str} (X : TextK K T glb) (hmg : ∀ x v, PySem.W.nsIn K mainGlobals x = some (some v) → mg x = some v) (blt : ∀ x ∈ bltL, mg x = none)
    (hg : ∀ (g : Nat) (x : Str), glb g = some x → ∃ v u d, mg x = some u ∧ RelV v u ∧ Γ g = some d ∧ isMut d = false ∧ ∀ S H, Rp K S H v d) :
    ∀ (n i : Nat) (F : Fn), T i = some F → ∀ (st : Stmt) (f : Addr) (fd : FuncData), L2.Fun K F.name F.name st f fd → mDef T glb F st = true → FnOk P w K mg base (L2.CX P w) n f fd (F.N.take F.np) (spF K cl F.np F.fresh (run T Γ n i))
  | 0, i, F, hT, st, f, fd, D, hm => by
    have hno : ∀ {vs : List V} {H : Hp} {Q : VK} {E : XK}, spF K cl F.np F.fresh (run T Γ 0 i) vs H Q E → False := fun {vs H Q E} h => by
      obtain ⟨_, S, ds, _, _, p⟩ := h
      simp only [run] at p
      exact p
    exact ⟨fun vs H Q E h => (hno h).elim, fun A outer s H args us vs Q E _ _ _ _ h => (hno h).elim⟩
  | n + 1, i, F, hT, st, f, fd, D, hm => by
    have e : run T Γ (n + 1) i = callFn (run T Γ n) Γ F := by
      funext ds
      simp only [run, hT]
    rw [e]
    refine def_ok D hm blt (fun j x np fr hj => ?_) hg
    unfold sigs at hj
    cases hG : T j with
    | none => rw [hG] at hj; cases hj
    | some G =>
      rw [hG] at hj
      cases hj
      obtain ⟨st', f', hm', DK⟩ := X.at_ j G hG
      obtain ⟨fd', D', hb⟩ := DK.fn
      exact ⟨f', fd', G.N.take G.np, runs X hmg blt hg n j G hG st' f' fd' D' hm', hmg _ _ DK.ns, DK.kp, Binds.all hb, fun ds h => run_len hG h⟩
end
/-- a law's end: its text runs to True -/
theorem law_end {l : PySem.W.OpenLaw} {q : Program} {loose : List Str} {XP : (Str → Option Value) → Heap → Prop} {YP : World → Heap → Prop} {d : DefRec} {K : Params → PySem.W.Frag} (hn : l.most = some 63) (hdf : d.params.defaults = [])
    (hY : ∀ (w : World) (h : Heap), YP w h → (K w.params).In h) (T : Nat → Option Fn) (glb : Nat → Option Str) (Γ : Nat → Option D) (cl : Fg → Nat → Value) (n i : Nat) (F : Fn) (hr : Room n callerA) (hT : T i = some F) (hname : F.name = d.name) (hps : F.N.take F.np = [("script" : Str)]) (h1 : F.np = 1) (hfr : F.fresh = false)
    (X : ∀ w : World, (∃ h, (K w.params).In h) → TextK (K w.params) T glb) (blt : ∀ w : World, (∃ h, (K w.params).In h) → ∀ x ∈ bltL, PySem.W.nsIn (K w.params) mainGlobals x = some none)
    (hg : ∀ (w : World) (mg : Str → Option Value) (h : Heap), (K w.params).In h → h.Ns mainGlobals mg → ∀ (g : Nat) (x : Str), glb g = some x → ∃ v u d, mg x = some u ∧ RelV v u ∧ Γ g = some d ∧ isMut d = false ∧ ∀ S H, Rp (K w.params) S H v d)
    (law : ∀ ns : List Int, ns.length ≤ 63 → (∀ z ∈ ns, Builtin.Int.intBits z ≤ 1048576) → run T Γ n i [.fl (ns.map D.int)] = .ok (.bl true)) :
    PySem.W.WalkO q loose XP YP l.row.toRowW d [] (fun f vs => PySem.call f vs) := by
  refine L2.walk_ofB (n := 63) (k := n) (x := "script") (CX := fun w => L2.CX l.prog w) (sp := fun w => spF (K w.params) (cl (K w.params)) 1 false (run T Γ n i)) hn (by decide) hdf hr hY ?_ ?_ ?_
  · intro w mg fa h KX G hmg
    obtain ⟨st, f, hm, DK⟩ := (X w ⟨h, KX⟩).at_ i F hT
    obtain ⟨fd, D, hb⟩ := DK.fn
    have e := (PySem.W.mg_of KX G DK.ns)
    rw [hname, hmg] at e
    cases e
    refine ⟨fd, fun s u => .of_eq ?_, fun base _ _ => ?_⟩
    · have := hb [u] (by rw [hps]; rfl)
      rw [hps] at this
      exact this
    · have R := runs (P := l.prog) (w := w) (base := base) (cl := cl (K w.params)) (X w ⟨h, KX⟩) (fun x v hx => PySem.W.mg_of KX G hx) (fun x hx => PySem.W.mg_none_of KX G (blt w ⟨h, KX⟩ x hx)) (hg w mg h KX G) n i F hT st fa fd D hm
      rw [hps, h1, hfr] at R
      exact R
  · intro w H a ns hl hbits hO hS
    refine ⟨rfl, fun _ => False, [.fl (ns.map D.int)], fun _ z => z.elim, ?_, ?_⟩
    · simp only [RpA, Rp]
      refine ⟨⟨a, ns.map V.int, rfl, ?_, ?_⟩, trivial⟩
      · rcases hS with (hS | ⟨o, hS⟩) | hS
        · rcases hO a with h | ⟨o, xs, h⟩
          · rw [h] at hS; cases hS
          · rw [h] at hS; cases hS
        · exact .inl ⟨o, hS⟩
        · exact .inr (.inr hS)
      · clear hl hbits hS
        induction ns with
        | nil => simp only [List.map_nil, RpA]
        | cons z zs ih =>
          simp only [List.map_cons, RpA, Rp]
          exact ⟨trivial, ih⟩
    · rw [law ns hl hbits]
      intro v S' H' _ _ r
      exact Rt.bl (K := K w.params) (S := S') (H := H') (.inl r)
  · intro w H s e s' z
    obtain ⟨_, _, _, _, _, _, _, _, _, _, _, _, z⟩ := z
    exact z
end PP
/-! To reckon with the small language: one equation for each form. -/
namespace PP
open PySem
section
variable {Φ : Nat → List D → R D} {Γ : Nat → Option D} {ρ : Env}
@[simp] theorem r_var (i : Nat) : ev Φ Γ (.var i) ρ = getE ρ i := by simp only [ev]; try rfl
@[simp] theorem getE_0 (d : D) (r : Env) : getE (some d :: r) 0 = .ok d := (rfl)
@[simp] theorem getE_s (o : Option D) (r : Env) (i : Nat) : getE (o :: r) (i + 1) = getE r i := (rfl)
@[simp] theorem r_glb (g : Nat) : ev Φ Γ (.glb g) ρ = ofOp (Γ g) := by simp only [ev]
@[simp] theorem r_int (z : Int) : ev Φ Γ (.int z) ρ = .ok (.int z) := by simp only [ev]
@[simp] theorem r_bl (z : Bool) : ev Φ Γ (.bl z) ρ = .ok (.bl z) := by simp only [ev]
@[simp] theorem r_non : ev Φ Γ .non ρ = .ok .non := by simp only [ev]
@[simp] theorem r_str (z : Str) : ev Φ Γ (.str z) ρ = .ok (.str z) := by simp only [ev]
@[simp] theorem r_tup (es : Es) : ev Φ Γ (.tup es) ρ = (evs Φ Γ es ρ).bind fun ds => .ok (.tup ds) := by simp only [ev]
@[simp] theorem r_lst (es : Es) : ev Φ Γ (.lst es) ρ = (evs Φ Γ es ρ).bind fun ds => .ok (.lst ds) := by simp only [ev]
@[simp] theorem r_dk0 : ev Φ Γ .dk0 ρ = .ok (.dk []) := by simp only [ev]
@[simp] theorem r_dt0 : ev Φ Γ .dt0 ρ = .ok (.dt []) := by simp only [ev]
@[simp] theorem r_bin (o : O2) (a b : E) : ev Φ Γ (.bin o a b) ρ = (ev Φ Γ a ρ).bind fun x => (ev Φ Γ b ρ).bind fun y => o2D o x y := by simp only [ev]
@[simp] theorem r_cmp (c : Cm) (a b : E) : ev Φ Γ (.cmp c a b) ρ = (ev Φ Γ a ρ).bind fun x => (ev Φ Γ b ρ).bind fun y => cmD c x y := by simp only [ev]
@[simp] theorem r_and (a b : E) : ev Φ Γ (.and_ a b) ρ = (ev Φ Γ a ρ).bind fun x => (tr x).bind fun k => if k then ev Φ Γ b ρ else .ok x := by simp only [ev]
@[simp] theorem r_or (a b : E) : ev Φ Γ (.or_ a b) ρ = (ev Φ Γ a ρ).bind fun x => (tr x).bind fun k => if k then .ok x else ev Φ Γ b ρ := by simp only [ev]
@[simp] theorem r_not (a : E) : ev Φ Γ (.not_ a) ρ = (ev Φ Γ a ρ).bind fun x => (tr x).bind fun k => .ok (.bl (!k)) := by simp only [ev]
@[simp] theorem r_neg (a : E) : ev Φ Γ (.neg a) ρ = (ev Φ Γ a ρ).bind fun x => (intD x).bind fun i => .ok (.int (-i)) := by simp only [ev]
@[simp] theorem r_ife (c a b : E) : ev Φ Γ (.ife c a b) ρ = (ev Φ Γ c ρ).bind fun x => (tr x).bind fun k => if k then ev Φ Γ a ρ else ev Φ Γ b ρ := by simp only [ev]
@[simp] theorem r_ix (a i : E) : ev Φ Γ (.ix a i) ρ = (ev Φ Γ a ρ).bind fun x => (ev Φ Γ i ρ).bind fun y => ixD x y := by simp only [ev]
@[simp] theorem r_slc (a : E) (lo hi : Eo) : ev Φ Γ (.slc a lo hi) ρ = (ev Φ Γ a ρ).bind fun x => (evo Φ Γ lo ρ).bind fun l => (evo Φ Γ hi ρ).bind fun h => slD x l h := by simp only [ev]
@[simp] theorem r_rev (a : E) : ev Φ Γ (.rev a) ρ = (ev Φ Γ a ρ).bind revD := by simp only [ev]
@[simp] theorem r_call (f : Nat) (es : Es) : ev Φ Γ (.call f es) ρ = (evs Φ Γ es ρ).bind fun ds => Φ f ds := by simp only [ev]
@[simp] theorem r_bi (b : Bi) (es : Es) : ev Φ Γ (.bi b es) ρ = (evs Φ Γ es ρ).bind fun ds => biD b ds := by simp only [ev]
@[simp] theorem r_mt (m : Mt) (a : E) (es : Es) : ev Φ Γ (.mt m a es) ρ = (ev Φ Γ a ρ).bind fun x => .when (mtTy m x) ((evs Φ Γ es ρ).bind fun ds => mtD m x ds) := by simp only [ev]
@[simp] theorem r_isi (a : E) (t : Ty) : ev Φ Γ (.isi a t) ρ = (ev Φ Γ a ρ).bind fun x => .ok (.bl (tyB t x)) := by simp only [ev]
@[simp] theorem r_call0 (f : Nat) : ev Φ Γ (.call0 f) ρ = Φ f [] := by simp only [ev]
@[simp] theorem r_lr1 (a : E) : ev Φ Γ (.lr1 a) ρ = (ev Φ Γ a ρ).bind fun x => (intD x).bind fun j => .when (sm62 j && decide (j.toNat ≤ 2 ^ 24)) (.ok (.lst (rngL 0 j.toNat))) := by simp only [ev]
@[simp] theorem r_lr2 (a b : E) : ev Φ Γ (.lr2 a b) ρ = (ev Φ Γ a ρ).bind fun x => (ev Φ Γ b ρ).bind fun y => (intD x).bind fun i => (intD y).bind fun j => .when (sm62 i && sm62 j && decide ((j - i).toNat ≤ 2 ^ 24)) (.ok (.lst (rngL i (j - i).toNat))) := by simp only [ev]
@[simp] theorem r_bor (fr : Bool) (l : List Nat) (e : E) : ev Φ Γ (.bor fr l e) ρ = (ev Φ Γ e ρ).bind fun d => .when (if fr then fix1 d else fixB d) (.ok d) := by simp only [ev]
/-- one item of a comprehension -/
def lcI (Φ : Nat → List D → R D) (Γ : Nat → Option D) (elt : E) (tgt : Tg) (ifs : Es) (own : List Nat) (ρ : Env) (x : D) : R (Option D) :=
  (ofE (asg tgt x (wipeE ρ own))).bind fun ρ1 => (evt Φ Γ ifs ρ1).bind fun k => if k then (ev Φ Γ elt ρ1).bind fun d => .ok (some d) else .ok none
@[simp] theorem r_lc (elt : E) (tgt : Tg) (it : Wk) (ifs : Es) (own : List Nat) : ev Φ Γ (.lc elt tgt it ifs own) ρ = (evi Φ Γ it ρ).bind fun items => .when (fits items.length) <| ((mapR (lcI Φ Γ elt tgt ifs own ρ) items).calm).bind fun ds => .ok (.lst ds) := by
  simp only [ev]; try rfl
@[simp] theorem r_snil : evs Φ Γ .nil ρ = .ok [] := by simp only [evs]
@[simp] theorem r_scons (e : E) (es : Es) : evs Φ Γ (.cons e es) ρ = (ev Φ Γ e ρ).bind fun d => (evs Φ Γ es ρ).bind fun ds => .ok (d :: ds) := by simp only [evs]
@[simp] theorem r_tnil : evt Φ Γ .nil ρ = .ok true := by simp only [evt]
@[simp] theorem r_tcons (e : E) (es : Es) : evt Φ Γ (.cons e es) ρ = (ev Φ Γ e ρ).bind fun d => (tr d).bind fun k => if k then evt Φ Γ es ρ else .ok false := by simp only [evt]
@[simp] theorem r_onone : evo Φ Γ .none ρ = .ok none := by simp only [evo]
@[simp] theorem r_osome (e : E) : evo Φ Γ (.some e) ρ = (ev Φ Γ e ρ).bind fun d => (intD d).bind fun i => .ok (some i) := by simp only [evo]
@[simp] theorem r_seq (e : E) : evi Φ Γ (.seq e) ρ = (ev Φ Γ e ρ).bind itemsD := by simp only [evi]
@[simp] theorem r_rng1 (e : E) : evi Φ Γ (.rng1 e) ρ = (ev Φ Γ e ρ).bind fun x => (intD x).bind fun j => .when (sm62 j) (.ok (rngL 0 j.toNat)) := by simp only [evi]
@[simp] theorem r_enum (e : E) : evi Φ Γ (.enum e) ρ = (ev Φ Γ e ρ).bind fun x => (lstR x).bind fun xs => .ok (enumD xs) := by simp only [evi]
@[simp] theorem r_zip2 (a b : E) : evi Φ Γ (.zip2 a b) ρ = (ev Φ Γ a ρ).bind fun x => (ev Φ Γ b ρ).bind fun y => zip2D x y := by simp only [evi]
@[simp] theorem x_asg (t : Tg) (e : E) : exS Φ Γ (.asg t e) ρ = (ev Φ Γ e ρ).to fun d => (match asg t d ρ with
    | some ρ1 => .nx ρ1
    | none => .bad) := by simp only [exS]; try rfl
@[simp] theorem x_new (i : Nat) (e : E) : exS Φ Γ (.new i e) ρ = (ev Φ Γ e ρ).to fun d => put i (some d) ρ := by simp only [exS]
@[simp] theorem x_par (ts : List Nat) (es : Es) : exS Φ Γ (.par ts es) ρ = (evs Φ Γ es ρ).to fun ds => (match setAll ts ds ρ with
    | some ρ1 => .nx ρ1
    | none => .bad) := by simp only [exS]; try rfl
@[simp] theorem x_app (i : Nat) (e : E) : exS Φ Γ (.app i e) ρ = ((getE ρ i).bind ownL).to fun xs => (ev Φ Γ e ρ).to fun y => if xs.length < sizeLine then put i (some (.lst (xs ++ [y]))) ρ else .bad := by simp only [exS]
@[simp] theorem x_put (i : Nat) (k e : E) : exS Φ Γ (.put i k e) ρ = (ev Φ Γ e ρ).to fun y => (getE ρ i).to fun x => (ev Φ Γ k ρ).to fun z => put i (putS x z y) ρ := by simp only [exS]
@[simp] theorem x_putT (i : Nat) (es : Es) (e : E) : exS Φ Γ (.putT i es e) ρ = (ev Φ Γ e ρ).to fun y => (getE ρ i).to fun x => (evs Φ Γ es ρ).to fun ds => put i (putD' x (.tup ds) y) ρ := by simp only [exS]
@[simp] theorem putS_int (x d : D) (i : Int) : putS x (.int i) d = putD' x (.int i) d := (rfl)
@[simp] theorem putS_str (x d : D) (i : Str) : putS x (.str i) d = putD' x (.str i) d := (rfl)
@[simp] theorem x_revS (i : Nat) : exS Φ Γ (.rev i) ρ = ((getE ρ i).bind ownL).to fun xs => put i (some (.lst xs.reverse)) ρ := by simp only [exS]
@[simp] theorem x_ret (e : E) : exS Φ Γ (.ret e) ρ = (ev Φ Γ e ρ).to fun d => .rt d := by simp only [exS]
@[simp] theorem x_retO (i : Nat) : exS Φ Γ (.retO i) ρ = (getE ρ i).to fun d => .rt d := by simp only [exS]
@[simp] theorem x_retN : exS Φ Γ .retN ρ = .rt .non := by simp only [exS]
@[simp] theorem x_ife (c : E) (a b : Ss) : exS Φ Γ (.ife c a b) ρ = ((ev Φ Γ c ρ).bind tr).to fun k => if k then exSs Φ Γ a ρ else exSs Φ Γ b ρ := by simp only [exS]
/-- a turn of a for -/
def turn (Φ : Nat → List D → R D) (Γ : Nat → Option D) (t : Tg) (b : Ss) (x : D) (ρ0 : Env) : O := match asg t x ρ0 with
    | some ρ1 => exSs Φ Γ b ρ1
    | none => .bad
@[simp] theorem x_for (t : Tg) (it : Wk) (b : Ss) : exS Φ Γ (.for_ t it b) ρ = (evi Φ Γ it ρ).to fun items => forGo (turn Φ Γ t b) items ρ := by simp only [exS]; try rfl
@[simp] theorem r_cmp2 (c c' : Cm) (a b d : E) : ev Φ Γ (.cmp2 c c' a b d) ρ = (ev Φ Γ a ρ).bind fun x => (ev Φ Γ b ρ).bind fun y => (cmD c x y).bind fun k => (match k with
    | .bl true => (ev Φ Γ d ρ).bind fun z => cmD c' y z
    | .bl false => .ok (.bl false)
    | _ => .bad) := by simp only [ev]; try rfl
@[simp] theorem r_rng2 (a b : E) : evi Φ Γ (.rng2 a b) ρ = (ev Φ Γ a ρ).bind fun x => (ev Φ Γ b ρ).bind fun y => (intD x).bind fun i => (intD y).bind fun j => .when (sm62 i && sm62 j) (.ok (rngL i (j - i).toNat)) := by simp only [evi]
@[simp] theorem r_zip3 (a b c : E) : evi Φ Γ (.zip3 a b c) ρ = (ev Φ Γ a ρ).bind fun x => (ev Φ Γ b ρ).bind fun y => (ev Φ Γ c ρ).bind fun z => (seqR x).bind fun xs => (seqR y).bind fun ys => (seqR z).bind fun zs => .ok (zip3D xs ys zs) := by simp only [evi]
@[simp] theorem x_aug (i : Nat) (e : E) : exS Φ Γ (.aug i e) ρ = ((getE ρ i).bind intD).to fun x => ((ev Φ Γ e ρ).bind intD).to fun y => put i (some (.int (x + y))) ρ := by simp only [exS]
@[simp] theorem x_ext (i : Nat) (e : E) : exS Φ Γ (.ext i e) ρ = ((getE ρ i).bind ownL).to fun xs => ((ev Φ Γ e ρ).bind ownL).to fun ys => if xs.length + ys.length ≤ sizeLine then put i (some (.lst (xs ++ ys))) ρ else .bad := by simp only [exS]
@[simp] theorem x_brk : exS Φ Γ .brk ρ = .bk ρ := by simp only [exS]
@[simp] theorem x_cont : exS Φ Γ .cont ρ = .ct ρ := by simp only [exS]
@[simp] theorem x_never : exS Φ Γ .never ρ = .bad := by simp only [exS]
@[simp] theorem x_while (μ : Env → Nat) (c : E) (b : Ss) : exS Φ Γ (.while_ μ c b) ρ = whGo (fun ρ0 => (ev Φ Γ c ρ0).bind tr) (fun ρ0 => exSs Φ Γ b ρ0) (μ ρ) ρ := by simp only [exS]
@[simp] theorem x_expr (e : E) : exS Φ Γ (.expr e) ρ = (ev Φ Γ e ρ).to fun _ => .nx ρ := by simp only [exS]
@[simp] theorem x_pass : exS Φ Γ .pass ρ = .nx ρ := by simp only [exS]
@[simp] theorem x_wipe (l : List Nat) : exS Φ Γ (.wipe l) ρ = .nx (wipeE ρ l) := by simp only [exS]
@[simp] theorem x_share (l : List Nat) : exS Φ Γ (.share l) ρ = .nx ρ := by simp only [exS]
/-- then the rest -/
def andO (r : O) (k : Env → O) : O := match r with
    | .nx ρ1 => k ρ1
    | .rt d => .rt d
    | .bk ρ1 => .bk ρ1
    | .ct ρ1 => .ct ρ1
    | .er c p => .er c p
    | .bad => .bad
@[simp] theorem andO_nx (ρ : Env) (k : Env → O) : andO (.nx ρ) k = k ρ := (rfl)
@[simp] theorem andO_bk (ρ : Env) (k : Env → O) : andO (.bk ρ) k = .bk ρ := (rfl)
@[simp] theorem andO_ct (ρ : Env) (k : Env → O) : andO (.ct ρ) k = .ct ρ := (rfl)
@[simp] theorem andO_rt (d : D) (k : Env → O) : andO (.rt d) k = .rt d := (rfl)
@[simp] theorem x_nil : exSs Φ Γ .nil ρ = .nx ρ := by simp only [exSs]
@[simp] theorem x_cons (s : S) (r : Ss) : exSs Φ Γ (.cons s r) ρ = andO (exS Φ Γ s ρ) fun ρ1 => exSs Φ Γ r ρ1 := by
  simp only [exSs, andO]
  try (cases exS Φ Γ s ρ <;> rfl)
@[simp] theorem bind_ok {α β : Type} (a : α) (f : α → R β) : (R.ok a).bind f = f a := (rfl)
@[simp] theorem ofOp_some (d : D) : ofOp (some d) = .ok d := (rfl)
@[simp] theorem tr_bl (b : Bool) : tr (.bl b) = .ok b := (rfl)
@[simp] theorem intD_int (i : Int) : intD (.int i) = .ok i := (rfl)
@[simp] theorem asg_one (i : Nat) (d : D) (ρ : Env) : asg (.one i) d ρ = if i < ρ.length then some (ρ.set i (some d)) else none := by simp only [asg]
@[simp] theorem asg_tup (ts : List Tg) (ds : List D) (ρ : Env) : asg (.tup ts) (.tup ds) ρ = asgs ts ds ρ := by simp only [asg]
@[simp] theorem asgs_nil (ρ : Env) : asgs [] [] ρ = some ρ := by simp only [asgs]
@[simp] theorem asgs_cons (t : Tg) (ts : List Tg) (d : D) (ds : List D) (ρ : Env) : asgs (t :: ts) (d :: ds) ρ = (match asg t d ρ with
    | some ρ1 => asgs ts ds ρ1
    | none => none) := by simp only [asgs]; try rfl
@[simp] theorem o_add (i j : Int) : o2D .add (.int i) (.int j) = .ok (.int (i + j)) := (rfl)
@[simp] theorem o_sub (i j : Int) : o2D .sub (.int i) (.int j) = .ok (.int (i - j)) := (rfl)
theorem o_mod {i j : Int} (h : 0 < j) : o2D .mod (.int i) (.int j) = .ok (.int (i % j)) := by simp [o2D, R.when, h]
theorem o_mulR {i j : Int} (h : -(18446744073709551616) < j ∧ j < 18446744073709551616) : o2D .mul (.int i) (.int j) = .ok (.int (i * j)) := by
  have e : sm64 j = true := by simp only [sm64, Bool.and_eq_true, decide_eq_true_eq]; exact h
  simp [o2D, R.when, e]
theorem o_mulL {i j : Int} (h : -(18446744073709551616) < i ∧ i < 18446744073709551616) : o2D .mul (.int i) (.int j) = .ok (.int (i * j)) := by
  have e : sm64 i = true := by simp only [sm64, Bool.and_eq_true, decide_eq_true_eq]; exact h
  simp [o2D, R.when, e]
end
@[simp] theorem len_lst (xs : List D) : biD .len [.lst xs] = .ok (.int xs.length) := (rfl)
@[simp] theorem len_fl (xs : List D) : biD .len [.fl xs] = .ok (.int xs.length) := (rfl)
@[simp] theorem len_tup (xs : List D) : biD .len [.tup xs] = .ok (.int xs.length) := (rfl)
@[simp] theorem abs_int (i : Int) : biD .abs [.int i] = .ok (.int (if i < 0 then -i else i)) := (rfl)
@[simp] theorem int_bl (b : Bool) : biD .int [.bl b] = .ok (.int (if b then 1 else 0)) := (rfl)
@[simp] theorem tuple_lst (xs : List D) : biD .tuple [.lst xs] = .ok (.tup xs) := (rfl)
@[simp] theorem list_tup (xs : List D) : biD .list [.tup xs] = .ok (.lst xs) := (rfl)
@[simp] theorem max_two (i j : Int) : biD .max [.int i, .int j] = .ok (.int (if j > i then j else i)) := (rfl)
@[simp] theorem min_two (i j : Int) : biD .min [.int i, .int j] = .ok (.int (if j < i then j else i)) := (rfl)
@[simp] theorem c_lt (i j : Int) : cmD .lt (.int i) (.int j) = .ok (.bl (decide (i < j))) := by simp [cmD, R.when, D.dep, D.lt, ofO]
@[simp] theorem c_gt (i j : Int) : cmD .gt (.int i) (.int j) = .ok (.bl (decide (j < i))) := (rfl)
@[simp] theorem c_le (i j : Int) : cmD .le (.int i) (.int j) = .ok (.bl (decide (i ≤ j))) := (rfl)
@[simp] theorem c_ge (i j : Int) : cmD .ge (.int i) (.int j) = .ok (.bl (decide (j ≤ i))) := (rfl)
@[simp] theorem c_eq (i j : Int) : cmD .eq (.int i) (.int j) = .ok (.bl (decide (i = j))) := by
  have : (i == j) = decide (i = j) := by by_cases h : i = j <;> simp [h]
  simp [cmD, R.when, cmpOk, D.nd, D.dep, D.eq, this]
@[simp] theorem c_ne (i j : Int) : cmD .ne (.int i) (.int j) = .ok (.bl (!decide (i = j))) := by
  have : (i == j) = decide (i = j) := by by_cases h : i = j <;> simp [h]
  simp [cmD, R.when, cmpOk, D.nd, D.dep, D.eq, this]
@[simp] theorem items_lst (xs : List D) : itemsD (.lst xs) = .ok xs := (rfl)
@[simp] theorem items_fl (xs : List D) : itemsD (.fl xs) = .ok xs := (rfl)
@[simp] theorem items_tup (xs : List D) : itemsD (.tup xs) = .ok xs := (rfl)
theorem atI_nat {α : Type} {xs : List α} {k : Nat} (h : k < xs.length) : L2.atI xs (k : Int) = some xs[k] := by
  simp [L2.atI, L2.ixN, h]
theorem ix_fl {xs : List D} {k : Nat} {d : D} (h : xs[k]? = some d) : ixD (.fl xs) (.int (k : Int)) = .ok d := by
  obtain ⟨hk, e⟩ := List.getElem?_eq_some_iff.mp h
  show ofOp (L2.atI xs (k : Int)) = _
  rw [atI_nat hk, e]; rfl
theorem ix_lst {xs : List D} {k : Nat} {d : D} (h : xs[k]? = some d) : ixD (.lst xs) (.int (k : Int)) = .ok d := by
  obtain ⟨hk, e⟩ := List.getElem?_eq_some_iff.mp h
  show ofOp (L2.atI xs (k : Int)) = _
  rw [atI_nat hk, e]; rfl
theorem ix_tup {xs : List D} {k : Nat} {d : D} (h : xs[k]? = some d) : ixD (.tup xs) (.int (k : Int)) = .ok d := by
  obtain ⟨hk, e⟩ := List.getElem?_eq_some_iff.mp h
  show ofOp (L2.atI xs (k : Int)) = _
  rw [atI_nat hk, e]; rfl
theorem to_okM {α : Type} (a : α) (f : α → O) : (R.ok a).to f = f a := (rfl)
/-- what a def hands back -/
def outO : O → R D
    | .nx _ => .ok .non
    | .rt d => .ok d
    | .er c p => .err c p
    | _ => .bad
@[simp] theorem outO_rt (d : D) : outO (.rt d) = .ok d := (rfl)
@[simp] theorem outO_nx (ρ : Env) : outO (.nx ρ) = .ok .non := (rfl)
theorem callFn_eq {Φ : Nat → List D → R D} {Γ : Nat → Option D} {F : Fn} {ds : List D} (h : ds.length = F.np) : callFn Φ Γ F ds = outO (exSs Φ Γ F.body (ds.map some ++ List.replicate (F.N.length - F.np) none)) := by
  unfold callFn
  rw [if_pos h]
  cases exSs Φ Γ F.body (ds.map some ++ List.replicate (F.N.length - F.np) none) <;> rfl
theorem run_eq {T : Nat → Option Fn} {Γ : Nat → Option D} {n f : Nat} {F : Fn} {ds : List D} (h : T f = some F) : run T Γ (n + 1) f ds = callFn (run T Γ n) Γ F ds := by simp only [run, h]
/-- a for: what holds at its turns -/
theorem for_ind {f : D → Env → O} {I : List D → Env → Prop} {Rr : O → Prop} (step : ∀ x xs ρ, I (x :: xs) ρ → (∃ ρ', (f x ρ = .nx ρ' ∨ f x ρ = .ct ρ') ∧ I xs ρ') ∨ ∃ d, f x ρ = .rt d ∧ Rr (.rt d)) (fin : ∀ ρ, I [] ρ → Rr (.nx ρ)) :
    ∀ (items : List D) (ρ : Env), I items ρ → Rr (forGo f items ρ)
  | [], ρ, h => fin ρ h
  | x :: xs, ρ, h => by
    rcases step x xs ρ h with ⟨ρ', e, h'⟩ | ⟨d, e, h'⟩
    · have := for_ind step fin xs ρ' h'
      simp only [forGo]
      rcases e with e | e <;> (rw [e]; exact this)
    · simp only [forGo]
      rw [e]; exact h'
/-- no return within -/
theorem for_nx {f : D → Env → O} {I : List D → Env → Prop} (step : ∀ x xs ρ, I (x :: xs) ρ → ∃ ρ', f x ρ = .nx ρ' ∧ I xs ρ') : ∀ (items : List D) (ρ : Env), I items ρ → ∃ ρ', forGo f items ρ = .nx ρ' ∧ I [] ρ'
  | [], ρ, h => ⟨ρ, rfl, h⟩
  | x :: xs, ρ, h => by
    obtain ⟨ρ', e, h'⟩ := step x xs ρ h
    obtain ⟨ρ2, e2, h2⟩ := for_nx step xs ρ' h'
    exact ⟨ρ2, by simp only [forGo]; rw [e]; exact e2, h2⟩
end PP
/-! Sorted rows of texts. -/
namespace PP
open PySem
/-- texts in order -/
def StrLe (a b : Str) : Prop := a.cps.toList ≤ b.cps.toList
theorem nd_strs : ∀ ss : List Str, D.nd.ndA (ss.map D.str) = true
  | [] => rfl
  | s :: ss => by simp [D.nd.ndA, D.nd, nd_strs ss]
theorem dep_strs : ∀ ss : List Str, D.dep.depA (ss.map D.str) = 0
  | [] => rfl
  | s :: ss => by simp [D.dep.depA, D.dep, dep_strs ss]
theorem sortOk_strs (ss : List Str) : sortOk (ss.map D.str) = true := by
  simp only [sortOk, Bool.and_eq_true, Bool.or_eq_true, decide_eq_true_eq, List.all_eq_true, List.mem_map]
  refine ⟨⟨⟨nd_strs ss, by rw [dep_strs]; omega⟩, ?_⟩, .inr ?_⟩
  · rintro _ ⟨a, _, rfl⟩ _ ⟨b, _, rfl⟩
    simp [D.py, PySem.W.alike]
  · rintro _ ⟨a, _, rfl⟩
    exact ⟨rfl, rfl⟩
theorem sortD_strs (ss : List Str) : ∃ ts : List Str, sortD (ss.map D.str) = ts.map D.str ∧ ts.Perm ss ∧ ts.Pairwise StrLe := by
  have e : (ss.mergeSort (PySem.W.dataLe false fun s => D.py (.str s))).map D.str = sortD (ss.map D.str) := by
    unfold sortD
    exact List.map_mergeSort fun _ _ _ _ => rfl
  refine ⟨ss.mergeSort (PySem.W.dataLe false fun s => D.py (.str s)), e.symm, List.mergeSort_perm _ _, ?_⟩
  have e2 : (PySem.W.dataLe false fun s : Str => D.py (.str s)) = fun a b => decide (a.cps.toList ≤ b.cps.toList) := PySem.W.dataLe_str (fun s : Str => s)
  rw [e2]
  have := List.pairwise_mergeSort (le := fun (a b : Str) => decide (a.cps.toList ≤ b.cps.toList))
    (fun a b c h1 h2 => by
      simp only [decide_eq_true_eq] at *
      exact List.le_trans h1 h2)
    (fun a b => by
      simp only [Bool.or_eq_true, decide_eq_true_eq]
      exact List.le_total _ _) ss
  exact this.imp fun h => of_decide_eq_true h
theorem sorted_strs {ss : List Str} : ∃ ts : List Str, PP.biD .sorted [D.lst (ss.map D.str)] = .ok (.lst (ts.map D.str)) ∧ ts.Perm ss ∧ ts.Pairwise StrLe := by
  obtain ⟨ts, e, p, q⟩ := sortD_strs ss
  refine ⟨ts, ?_, p, q⟩
  show PP.R.when (sortOk (ss.map D.str)) (PP.R.ok (D.lst (sortD (ss.map D.str)))) = _
  rw [sortOk_strs, e]
  rfl
end PP
/-! Walking: what operations give on values of known kinds; loops. -/
namespace PW
open PP
open PySem
/-- values that are compared as they are, n deep -/
class Flat {α : Type} (e : α → D) (n : outParam Nat) : Prop where
  nd : ∀ a, (e a).nd = true
  dep : ∀ a, (e a).dep ≤ n
  eq : ∀ a b, D.eq (e a) (e b) = true ↔ a = b
theorem beqW {α : Type} [BEq α] [LawfulBEq α] [DecidableEq α] (a b : α) : (a == b) = decide (a = b) := by
  by_cases h : a = b
  · subst h; simp
  · simp [h]
instance : Flat D.int 0 := ⟨fun _ => rfl, fun _ => Nat.le_refl _, fun a b => by simp [D.eq]⟩
instance : Flat D.str 0 := ⟨fun _ => rfl, fun _ => Nat.le_refl _, fun a b => by simp [D.eq]⟩
instance : Flat D.bl 0 := ⟨fun _ => rfl, fun _ => Nat.le_refl _, fun a b => by simp [D.eq]⟩
section
variable {α : Type} {e : α → D} {n : Nat} [F : Flat e n]
include F
theorem Flat.nds : ∀ xs : List α, D.nd.ndA (xs.map e) = true
  | [] => rfl
  | x :: xs => by simp only [List.map_cons, D.nd.ndA, F.nd x, Flat.nds xs, Bool.and_self]
theorem Flat.deps : ∀ xs : List α, D.dep.depA (xs.map e) ≤ n
  | [] => by simp [D.dep.depA]
  | x :: xs => by
    have h1 := F.dep x
    have h2 := Flat.deps xs
    simp only [List.map_cons, D.dep.depA]
    omega
theorem Flat.eqA : ∀ xs ys : List α, D.eqA (xs.map e) (ys.map e) = true ↔ xs = ys
  | [], [] => by simp [D.eqA]
  | [], y :: ys => by simp [D.eqA]
  | x :: xs, [] => by simp [D.eqA]
  | x :: xs, y :: ys => by simp only [List.map_cons, D.eqA, Bool.and_eq_true, F.eq, Flat.eqA xs ys, List.cons.injEq]
theorem Flat.cmpOk (h : n ≤ 50) (a b : α) : cmpOk (e a) (e b) = true := by
  have h1 := F.dep a
  simp only [PP.cmpOk, F.nd, Bool.true_and, Bool.or_eq_true, decide_eq_true_eq]
  omega
variable [DecidableEq α]
theorem Flat.eqd (a b : α) : D.eq (e a) (e b) = decide (a = b) := by rw [Bool.eq_iff_iff, F.eq]; simp
theorem c_eqF (h : n ≤ 50) (a b : α) : cmD .eq (e a) (e b) = .ok (.bl (decide (a = b))) := by
  show R.when (PP.cmpOk (e a) (e b)) (R.ok (D.bl (D.eq (e a) (e b)))) = _
  rw [F.cmpOk h, F.eqd]; rfl
theorem c_neF (h : n ≤ 50) (a b : α) : cmD .ne (e a) (e b) = .ok (.bl (!decide (a = b))) := by
  show R.when (PP.cmpOk (e a) (e b)) (R.ok (D.bl (!D.eq (e a) (e b)))) = _
  rw [F.cmpOk h, F.eqd]; rfl
theorem any_eq (x : α) : ∀ ys : List α, ((ys.map e).any fun y => D.eq y (e x)) = decide (x ∈ ys)
  | [] => by simp
  | y :: ys => by
    rw [List.map_cons, List.any_cons, any_eq x ys, F.eqd, Bool.eq_iff_iff]
    simp only [Bool.or_eq_true, decide_eq_true_eq, List.mem_cons]
    exact ⟨fun h => h.imp_left Eq.symm, fun h => h.imp_left Eq.symm⟩
theorem Flat.seqOk (h : n ≤ 50) (x : α) (ys : List α) : seqOk (e x) (ys.map e) = true := by
  have h1 := F.dep x
  simp only [PP.seqOk, F.nd, Flat.nds, Bool.true_and, decide_eq_true_eq]
  omega
theorem in_tupF (h : n ≤ 50) (x : α) (ys : List α) : inD (e x) (.tup (ys.map e)) = .ok (decide (x ∈ ys)) := by
  show R.when (PP.seqOk (e x) (ys.map e)) (R.ok ((ys.map e).any fun y => D.eq y (e x))) = _
  rw [F.seqOk h, any_eq]; rfl
theorem in_lstF (h : n ≤ 50) (x : α) (ys : List α) : inD (e x) (.lst (ys.map e)) = .ok (decide (x ∈ ys)) := by
  show R.when (PP.seqOk (e x) (ys.map e)) (R.ok ((ys.map e).any fun y => D.eq y (e x))) = _
  rw [F.seqOk h, any_eq]; rfl
end
theorem c_in (x y : D) : cmD .isIn x y = (inD x y).bind fun b => .ok (.bl b) := rfl
theorem c_notIn (x y : D) : cmD .notIn x y = (inD x y).bind fun b => .ok (.bl (!b)) := rfl
/-- a tuple of such, a list of such -/
instance flatT {α : Type} {e : α → D} {n : Nat} [F : Flat e n] : Flat (fun xs : List α => D.tup (xs.map e)) (n + 1) :=
  ⟨fun xs => by simp only [D.nd]; exact Flat.nds xs, fun xs => by simp only [D.dep]; have := Flat.deps (e := e) xs; omega, fun xs ys => by simp only [D.eq]; exact Flat.eqA xs ys⟩
instance flatL {α : Type} {e : α → D} {n : Nat} [F : Flat e n] : Flat (fun xs : List α => D.lst (xs.map e)) (n + 1) :=
  ⟨fun xs => by simp only [D.nd]; exact Flat.nds xs, fun xs => by simp only [D.dep]; have := Flat.deps (e := e) xs; omega, fun xs ys => by simp only [D.eq]; exact Flat.eqA xs ys⟩

@[simp] theorem slot0 {α : Type} (a : α) (l : List α) : (a :: l)[0]? = some a := rfl
/-! ### the side questions of operations -/
theorem fits_ok {n : Nat} (h : n ≤ 16777216) : fits n = true := by
  have : n ≤ sizeLine := by rw [sizeLine_eq]; exact h
  simp only [fits, this, decide_true]
theorem sm62_ok {i : Int} (h : -(4611686018427387904) ≤ i ∧ i < 4611686018427387904) : sm62 i = true := by simp only [sm62, Bool.and_eq_true, decide_eq_true_eq]; exact h
theorem sz_lt {n : Nat} (h : n < 16777216) : (n < sizeLine) = True := by rw [sizeLine_eq]; simp [h]
theorem sz_le {n : Nat} (h : n ≤ 16777216) : (n ≤ sizeLine) = True := by rw [sizeLine_eq]; simp [h]
@[simp] theorem when_if {α : Type} (b : Bool) (a : R α) : R.when b a = if b = true then a else .bad := rfl
theorem o_fdivB {i j : Int} (h : 0 < j) (hb : big j = true) : o2D .fdiv (.int i) (.int j) = .ok (.int (i / j)) := by simp [o2D, h, hb]
theorem big_ok {j : Int} (h : j.natAbs < 18446744073709551616) : big j = true := by
  simp only [big, decide_eq_true_eq]
  by_cases hz : j.natAbs = 0
  · rw [hz]; decide
  · have := (Nat.log2_lt hz (k := 64)).mpr h
    omega
theorem o_fdiv {i j : Int} (h : 0 < j ∧ j < 18446744073709551616) : o2D .fdiv (.int i) (.int j) = .ok (.int (i / j)) := o_fdivB h.1 (big_ok (by omega))
theorem o_powI {i j : Int} (h : 0 ≤ j ∧ j ≤ 1000) (hs : -(18446744073709551616) < i ∧ i < 18446744073709551616) : o2D .pow (.int i) (.int j) = .ok (.int (i ^ j.toNat)) := by
  have e : sm64 i = true := by simp only [sm64, Bool.and_eq_true, decide_eq_true_eq]; exact hs
  simp [o2D, e, h.1, h.2]
theorem o_shlI {i j : Int} (h : 0 ≤ j ∧ j ≤ 1000) (hs : -(18446744073709551616) < i ∧ i < 18446744073709551616) : o2D .shl (.int i) (.int j) = .ok (.int (i * 2 ^ j.toNat)) := by
  have e : sm64 i = true := by simp only [sm64, Bool.and_eq_true, decide_eq_true_eq]; exact hs
  simp [o2D, e, h.1, h.2]
theorem o_shrI {i j : Int} (h : 0 ≤ j) : o2D .shr (.int i) (.int j) = .ok (.int (i / 2 ^ j.toNat)) := by simp [o2D, h]
@[simp] theorem o_band (i j : Int) : o2D .band (.int i) (.int j) = .ok (.int (Builtin.bitAnd i j)) := rfl
theorem o_addS {s t : Str} (h : s.length + t.length ≤ 16777216) : o2D .add (.str s) (.str t) = .ok (.str (s ++ t)) := by
  simp [o2D, fits_ok h]
theorem o_addT {s t : List D} (h : s.length + t.length ≤ 16777216) : o2D .add (.tup s) (.tup t) = .ok (.tup (s ++ t)) := by
  simp [o2D, fits_ok h]
theorem o_addL {s t : List D} (h : s.length + t.length ≤ 16777216) : o2D .add (.lst s) (.lst t) = .ok (.lst (s ++ t)) := by
  simp [o2D, fits_ok h]
theorem o_mulS {s : Str} {n : Int} (h : n < 4611686018427387904 ∧ -(4611686018427387904) < n) (hs : s.length * n.toNat ≤ 16777216) : o2D .mul (.str s) (.int n) = .ok (.str (Str.rep s n.toNat)) := by
  have h1 : n < 4611686018427387904 := by omega
  have h2 : -4611686018427387904 < n := by omega
  simp [o2D, h1, h2, fits_ok hs]
theorem o_mulLst {s : List D} {n : Int} (h : n < 4611686018427387904 ∧ -(4611686018427387904) < n) (hs : s.length * n.toNat ≤ 16777216) : o2D .mul (.lst s) (.int n) = .ok (.lst (List.replicate n.toNat s).flatten) := by
  have h1 : n < 4611686018427387904 := by omega
  have h2 : -4611686018427387904 < n := by omega
  simp [o2D, h1, h2, fits_ok hs]
theorem two_pow (k : Nat) : (2 : Int) ^ k = ((2 ^ k : Nat) : Int) := by rw [Int.natCast_pow]; rfl
@[simp] theorem bind_ite {α β : Type} {p : Prop} [Decidable p] (a b : R α) (f : α → R β) : (if p then a else b).bind f = if p then a.bind f else b.bind f := by split <;> rfl
@[simp] theorem to_ite {α : Type} {p : Prop} [Decidable p] (a b : R α) (f : α → O) : (if p then a else b).to f = if p then a.to f else b.to f := by split <;> rfl
theorem andO_ite {p : Prop} [Decidable p] (a b : O) (f : PP.Env → O) : andO (if p then a else b) f = if p then andO a f else andO b f := by split <;> rfl
theorem outO_ite {p : Prop} [Decidable p] (a b : O) : outO (if p then a else b) = if p then outO a else outO b := by split <;> rfl
/-! items -/
theorem atI_in {α : Type} [Inhabited α] {xs : List α} {i : Int} (h : 0 ≤ i ∧ i < xs.length) : L2.atI xs i = some (xs.getD i.toNat default) := by
  obtain ⟨k, rfl⟩ := Int.eq_ofNat_of_zero_le h.1
  have hk : k < xs.length := by omega
  simp [L2.atI, L2.ixN, hk]
theorem ix_lstM {α : Type} [Inhabited α] {e : α → D} {xs : List α} {i : Int} (h : 0 ≤ i ∧ i < xs.length) : ixD (.lst (xs.map e)) (.int i) = .ok (e (xs.getD i.toNat default)) := by
  show ofOp (L2.atI (xs.map e) i) = _
  rw [atI_in (by simpa using h), List.getD, List.getD, List.getElem?_map]
  have hk : i.toNat < xs.length := by omega
  simp [hk]
theorem ix_tupM {α : Type} [Inhabited α] {e : α → D} {xs : List α} {i : Int} (h : 0 ≤ i ∧ i < xs.length) : ixD (.tup (xs.map e)) (.int i) = .ok (e (xs.getD i.toNat default)) := ix_lstM h
theorem ix_flM {α : Type} [Inhabited α] {e : α → D} {xs : List α} {i : Int} (h : 0 ≤ i ∧ i < xs.length) : ixD (.fl (xs.map e)) (.int i) = .ok (e (xs.getD i.toNat default)) := ix_lstM h
theorem ix_lstL {xs : List D} {i : Int} (h : 0 ≤ i ∧ i < xs.length) : ixD (.lst xs) (.int i) = .ok (xs.getD i.toNat .non) := by
  show ofOp (L2.atI xs i) = _
  rw [@atI_in D ⟨D.non⟩ _ _ h]; rfl
theorem ix_tupL {xs : List D} {i : Int} (h : 0 ≤ i ∧ i < xs.length) : ixD (.tup xs) (.int i) = .ok (xs.getD i.toNat .non) := ix_lstL h
@[simp] theorem ix_l0 {a0 : D} {r : List D} : ixD (.lst (a0 :: r)) (.int 0) = .ok a0 := by rw [ix_lstL (by simp only [List.length_cons]; omega)]; rfl
@[simp] theorem ix_t0 {a0 : D} {r : List D} : ixD (.tup (a0 :: r)) (.int 0) = .ok a0 := by rw [ix_tupL (by simp only [List.length_cons]; omega)]; rfl
@[simp] theorem ix_l1 {a0 a1 : D} {r : List D} : ixD (.lst (a0 :: a1 :: r)) (.int 1) = .ok a1 := by rw [ix_lstL (by simp only [List.length_cons]; omega)]; rfl
@[simp] theorem ix_t1 {a0 a1 : D} {r : List D} : ixD (.tup (a0 :: a1 :: r)) (.int 1) = .ok a1 := by rw [ix_tupL (by simp only [List.length_cons]; omega)]; rfl
@[simp] theorem ix_l2 {a0 a1 a2 : D} {r : List D} : ixD (.lst (a0 :: a1 :: a2 :: r)) (.int 2) = .ok a2 := by rw [ix_lstL (by simp only [List.length_cons]; omega)]; rfl
@[simp] theorem ix_t2 {a0 a1 a2 : D} {r : List D} : ixD (.tup (a0 :: a1 :: a2 :: r)) (.int 2) = .ok a2 := by rw [ix_tupL (by simp only [List.length_cons]; omega)]; rfl
@[simp] theorem ix_l3 {a0 a1 a2 a3 : D} {r : List D} : ixD (.lst (a0 :: a1 :: a2 :: a3 :: r)) (.int 3) = .ok a3 := by rw [ix_lstL (by simp only [List.length_cons]; omega)]; rfl
@[simp] theorem ix_t3 {a0 a1 a2 a3 : D} {r : List D} : ixD (.tup (a0 :: a1 :: a2 :: a3 :: r)) (.int 3) = .ok a3 := by rw [ix_tupL (by simp only [List.length_cons]; omega)]; rfl
@[simp] theorem ix_l4 {a0 a1 a2 a3 a4 : D} {r : List D} : ixD (.lst (a0 :: a1 :: a2 :: a3 :: a4 :: r)) (.int 4) = .ok a4 := by rw [ix_lstL (by simp only [List.length_cons]; omega)]; rfl
@[simp] theorem ix_t4 {a0 a1 a2 a3 a4 : D} {r : List D} : ixD (.tup (a0 :: a1 :: a2 :: a3 :: a4 :: r)) (.int 4) = .ok a4 := by rw [ix_tupL (by simp only [List.length_cons]; omega)]; rfl
@[simp] theorem ix_l5 {a0 a1 a2 a3 a4 a5 : D} {r : List D} : ixD (.lst (a0 :: a1 :: a2 :: a3 :: a4 :: a5 :: r)) (.int 5) = .ok a5 := by rw [ix_lstL (by simp only [List.length_cons]; omega)]; rfl
@[simp] theorem ix_t5 {a0 a1 a2 a3 a4 a5 : D} {r : List D} : ixD (.tup (a0 :: a1 :: a2 :: a3 :: a4 :: a5 :: r)) (.int 5) = .ok a5 := by rw [ix_tupL (by simp only [List.length_cons]; omega)]; rfl
@[simp] theorem ix_l6 {a0 a1 a2 a3 a4 a5 a6 : D} {r : List D} : ixD (.lst (a0 :: a1 :: a2 :: a3 :: a4 :: a5 :: a6 :: r)) (.int 6) = .ok a6 := by rw [ix_lstL (by simp only [List.length_cons]; omega)]; rfl
@[simp] theorem ix_t6 {a0 a1 a2 a3 a4 a5 a6 : D} {r : List D} : ixD (.tup (a0 :: a1 :: a2 :: a3 :: a4 :: a5 :: a6 :: r)) (.int 6) = .ok a6 := by rw [ix_tupL (by simp only [List.length_cons]; omega)]; rfl
@[simp] theorem ix_l7 {a0 a1 a2 a3 a4 a5 a6 a7 : D} {r : List D} : ixD (.lst (a0 :: a1 :: a2 :: a3 :: a4 :: a5 :: a6 :: a7 :: r)) (.int 7) = .ok a7 := by rw [ix_lstL (by simp only [List.length_cons]; omega)]; rfl
@[simp] theorem ix_t7 {a0 a1 a2 a3 a4 a5 a6 a7 : D} {r : List D} : ixD (.tup (a0 :: a1 :: a2 :: a3 :: a4 :: a5 :: a6 :: a7 :: r)) (.int 7) = .ok a7 := by rw [ix_tupL (by simp only [List.length_cons]; omega)]; rfl
@[simp] theorem ix_l8 {a0 a1 a2 a3 a4 a5 a6 a7 a8 : D} {r : List D} : ixD (.lst (a0 :: a1 :: a2 :: a3 :: a4 :: a5 :: a6 :: a7 :: a8 :: r)) (.int 8) = .ok a8 := by rw [ix_lstL (by simp only [List.length_cons]; omega)]; rfl
@[simp] theorem ix_t8 {a0 a1 a2 a3 a4 a5 a6 a7 a8 : D} {r : List D} : ixD (.tup (a0 :: a1 :: a2 :: a3 :: a4 :: a5 :: a6 :: a7 :: a8 :: r)) (.int 8) = .ok a8 := by rw [ix_tupL (by simp only [List.length_cons]; omega)]; rfl
@[simp] theorem ix_l9 {a0 a1 a2 a3 a4 a5 a6 a7 a8 a9 : D} {r : List D} : ixD (.lst (a0 :: a1 :: a2 :: a3 :: a4 :: a5 :: a6 :: a7 :: a8 :: a9 :: r)) (.int 9) = .ok a9 := by rw [ix_lstL (by simp only [List.length_cons]; omega)]; rfl
@[simp] theorem ix_t9 {a0 a1 a2 a3 a4 a5 a6 a7 a8 a9 : D} {r : List D} : ixD (.tup (a0 :: a1 :: a2 :: a3 :: a4 :: a5 :: a6 :: a7 :: a8 :: a9 :: r)) (.int 9) = .ok a9 := by rw [ix_tupL (by simp only [List.length_cons]; omega)]; rfl
@[simp] theorem ix_l10 {a0 a1 a2 a3 a4 a5 a6 a7 a8 a9 a10 : D} {r : List D} : ixD (.lst (a0 :: a1 :: a2 :: a3 :: a4 :: a5 :: a6 :: a7 :: a8 :: a9 :: a10 :: r)) (.int 10) = .ok a10 := by rw [ix_lstL (by simp only [List.length_cons]; omega)]; rfl
@[simp] theorem ix_t10 {a0 a1 a2 a3 a4 a5 a6 a7 a8 a9 a10 : D} {r : List D} : ixD (.tup (a0 :: a1 :: a2 :: a3 :: a4 :: a5 :: a6 :: a7 :: a8 :: a9 :: a10 :: r)) (.int 10) = .ok a10 := by rw [ix_tupL (by simp only [List.length_cons]; omega)]; rfl
@[simp] theorem ix_l11 {a0 a1 a2 a3 a4 a5 a6 a7 a8 a9 a10 a11 : D} {r : List D} : ixD (.lst (a0 :: a1 :: a2 :: a3 :: a4 :: a5 :: a6 :: a7 :: a8 :: a9 :: a10 :: a11 :: r)) (.int 11) = .ok a11 := by rw [ix_lstL (by simp only [List.length_cons]; omega)]; rfl
@[simp] theorem ix_t11 {a0 a1 a2 a3 a4 a5 a6 a7 a8 a9 a10 a11 : D} {r : List D} : ixD (.tup (a0 :: a1 :: a2 :: a3 :: a4 :: a5 :: a6 :: a7 :: a8 :: a9 :: a10 :: a11 :: r)) (.int 11) = .ok a11 := by rw [ix_tupL (by simp only [List.length_cons]; omega)]; rfl
@[simp] theorem ix_l12 {a0 a1 a2 a3 a4 a5 a6 a7 a8 a9 a10 a11 a12 : D} {r : List D} : ixD (.lst (a0 :: a1 :: a2 :: a3 :: a4 :: a5 :: a6 :: a7 :: a8 :: a9 :: a10 :: a11 :: a12 :: r)) (.int 12) = .ok a12 := by rw [ix_lstL (by simp only [List.length_cons]; omega)]; rfl
@[simp] theorem ix_t12 {a0 a1 a2 a3 a4 a5 a6 a7 a8 a9 a10 a11 a12 : D} {r : List D} : ixD (.tup (a0 :: a1 :: a2 :: a3 :: a4 :: a5 :: a6 :: a7 :: a8 :: a9 :: a10 :: a11 :: a12 :: r)) (.int 12) = .ok a12 := by rw [ix_tupL (by simp only [List.length_cons]; omega)]; rfl
/-! parts -/
theorem cut_map {α β : Type} (e : α → β) (xs : List α) (lo hi : Option Int) : cutD (xs.map e) lo hi = (cutD xs lo hi).map e := by
  unfold cutD
  rw [List.map_take, List.map_drop, List.length_map]
@[simp] theorem sl_fl (xs : List D) (lo hi : Option Int) : slD (.fl xs) lo hi = .ok (.lst (cutD xs lo hi)) := rfl
@[simp] theorem sl_lst (xs : List D) (lo hi : Option Int) : slD (.lst xs) lo hi = .ok (.lst (cutD xs lo hi)) := rfl
@[simp] theorem sl_tup (xs : List D) (lo hi : Option Int) : slD (.tup xs) lo hi = .ok (.tup (cutD xs lo hi)) := rfl
theorem sIx_in {n d : Nat} {i : Int} (h : 0 ≤ i) : HT.sIx n d (some i) = min i.toNat n := by
  obtain ⟨k, rfl⟩ := Int.eq_ofNat_of_zero_le h
  rw [HT.sIx_nat]; simp
theorem cut_to {α : Type} {xs : List α} {j : Int} (h : 0 ≤ j) : cutD xs none (some j) = xs.take j.toNat := by
  unfold cutD
  rw [sIx_in h, HT.sIx_none]
  simp only [List.drop_zero, Nat.sub_zero]
  rw [List.take_eq_take_iff]; omega
theorem cut_from {α : Type} {xs : List α} {i : Int} (h : 0 ≤ i) : cutD xs (some i) none = xs.drop i.toNat := by
  unfold cutD
  rw [sIx_in h, HT.sIx_none]
  by_cases hk : i.toNat ≤ xs.length
  · rw [Nat.min_eq_left hk, List.take_of_length_le (by rw [List.length_drop]; omega)]
  · have e1 : xs.drop i.toNat = [] := List.drop_eq_nil_of_le (by omega)
    have e2 : xs.drop (min i.toNat xs.length) = [] := List.drop_eq_nil_of_le (by omega)
    rw [e1, e2]; simp
theorem cut_in {α : Type} {xs : List α} {i j : Int} (h : 0 ≤ i ∧ 0 ≤ j) : cutD xs (some i) (some j) = (xs.drop i.toNat).take (j.toNat - i.toNat) := by
  unfold cutD
  rw [sIx_in h.1, sIx_in h.2]
  by_cases hk : i.toNat ≤ xs.length
  · rw [Nat.min_eq_left hk, List.take_eq_take_iff]
    rw [List.length_drop]; omega
  · have e1 : xs.drop i.toNat = [] := List.drop_eq_nil_of_le (by omega)
    have e2 : xs.drop (min i.toNat xs.length) = [] := List.drop_eq_nil_of_le (by omega)
    rw [e1, e2]; simp
/-! comprehensions -/
theorem mapR_map {α β γ : Type} (f : β → R (Option γ)) (e : α → β) : ∀ xs : List α, mapR f (xs.map e) = mapR (fun x => f (e x)) xs
  | [] => rfl
  | x :: xs => by simp only [List.map_cons, mapR, mapR_map f e xs]
theorem mapR_ok {α β : Type} {f : α → R (Option β)} {g : α → β} : ∀ {xs : List α}, (∀ x ∈ xs, f x = .ok (some (g x))) → mapR f xs = .ok (xs.map g)
  | [], _ => rfl
  | x :: xs, h => by
    have e1 := h x List.mem_cons_self
    have e2 := mapR_ok (xs := xs) fun y hy => h y (List.mem_cons_of_mem _ hy)
    simp only [mapR, e1, e2, R.bind_ok, List.map_cons]
theorem mapR_if {α β : Type} {f : α → R (Option β)} {p : α → Bool} {g : α → β} : ∀ {xs : List α}, (∀ x ∈ xs, f x = if p x = true then .ok (some (g x)) else .ok none) → mapR f xs = .ok ((xs.filter p).map g)
  | [], _ => rfl
  | x :: xs, h => by
    have e1 := h x List.mem_cons_self
    have e2 := mapR_if (xs := xs) fun y hy => h y (List.mem_cons_of_mem _ hy)
    cases hp : p x with
    | true => simp only [hp, if_true] at e1; simp only [mapR, e1, e2, R.bind_ok, List.filter_cons, hp, if_true, List.map_cons]
    | false => simp only [hp] at e1; simp [mapR, e1, e2, List.filter_cons, hp]
@[simp] theorem mapR_pure {α β : Type} (g : α → β) (xs : List α) : mapR (fun x => R.ok (some (g x))) xs = .ok (xs.map g) := mapR_ok fun _ _ => rfl
@[simp] theorem mapR_pureIf {α β : Type} (p : α → Bool) (g : α → β) (xs : List α) : mapR (fun x => if p x = true then R.ok (some (g x)) else .ok none) xs = .ok ((xs.filter p).map g) := mapR_if fun _ _ => rfl
@[simp] theorem mapR_pureIfP {α β : Type} (p : α → Prop) [DecidablePred p] (g : α → β) (xs : List α) : mapR (fun x => if p x then R.ok (some (g x)) else .ok none) xs = .ok ((xs.filter fun x => decide (p x)).map g) := mapR_if fun x _ => by by_cases h : p x <;> simp [h]
theorem mapR_congr {α β : Type} {f g : α → R (Option β)} : ∀ {xs : List α}, (∀ x ∈ xs, f x = g x) → mapR f xs = mapR g xs
  | [], _ => rfl
  | x :: xs, h => by
    have e2 := mapR_congr (xs := xs) fun y hy => h y (List.mem_cons_of_mem _ hy)
    simp only [mapR, h x List.mem_cons_self, e2]
@[simp] theorem allB_map {α : Type} (g : α → Bool) : ∀ xs : List α, allB (xs.map fun x => D.bl (g x)) = some (xs.map g)
  | [] => rfl
  | x :: xs => by simp [allB, allB_map g xs]
@[simp] theorem all_map {α : Type} (g : α → Bool) (xs : List α) : biD .all [.lst (xs.map fun x => D.bl (g x))] = .ok (.bl (xs.all g)) := by
  simp [biD]
@[simp] theorem any_map {α : Type} (g : α → Bool) (xs : List α) : biD .any [.lst (xs.map fun x => D.bl (g x))] = .ok (.bl (xs.any g)) := by
  simp [biD]
theorem rng0 (n : Nat) : rngL 0 n = (List.range n).map fun k : Nat => D.int k := by
  unfold rngL
  congr 1
  funext k
  rw [Int.zero_add]
theorem rngI (i : Int) (n : Nat) : rngL i n = (List.range n).map fun k : Nat => D.int (i + k) := rfl
/-! loops -/
/-- a loop whose turns do the same to what is kept -/
theorem for_fold {α σ : Type} {f : D → PP.Env → O} {enc : α → D} {E : σ → PP.Env} {step : σ → α → σ} (P : List α → σ → Prop) (h : ∀ x xs s, P (x :: xs) s → f (enc x) (E s) = .nx (E (step s x)) ∧ P xs (step s x)) :
    ∀ (xs : List α) (s : σ), P xs s → forGo f (xs.map enc) (E s) = .nx (E (xs.foldl step s)) ∧ P [] (xs.foldl step s)
  | [], s, hs => ⟨rfl, hs⟩
  | x :: xs, s, hs => by
    obtain ⟨e, hp⟩ := h x xs s hs
    have := for_fold P h xs (step s x) hp
    simp only [List.map_cons, forGo, e, List.foldl_cons]
    exact this
theorem for_fold' {α σ : Type} {f : D → PP.Env → O} {enc : α → D} {E : σ → PP.Env} {step : σ → α → σ} (h : ∀ s x, f (enc x) (E s) = .nx (E (step s x))) (xs : List α) (s : σ) : forGo f (xs.map enc) (E s) = .nx (E (xs.foldl step s)) :=
  (for_fold (fun _ _ => True) (fun x xs s _ => ⟨h s x, trivial⟩) xs s trivial).1
/-- a loop, by what holds between its turns -/
theorem for_inv {α σ : Type} {f : D → PP.Env → O} {enc : α → D} {E : σ → PP.Env} (P : List α → σ → Prop) (h : ∀ x xs s, P (x :: xs) s → ∃ s', f (enc x) (E s) = .nx (E s') ∧ P xs s') :
    ∀ (xs : List α) (s : σ), P xs s → ∃ s', forGo f (xs.map enc) (E s) = .nx (E s') ∧ P [] s'
  | [], s, hs => ⟨s, rfl, hs⟩
  | x :: xs, s, hs => by
    obtain ⟨s', e, hp⟩ := h x xs s hs
    obtain ⟨s2, e2, h2⟩ := for_inv P h xs s' hp
    exact ⟨s2, by simp only [List.map_cons, forGo, e]; exact e2, h2⟩
/-- a loop that looks for one and hands back -/
theorem for_search {α : Type} {f : D → PP.Env → O} {enc : α → D} {ρ : PP.Env} {p : α → Bool} {d : D} : ∀ {xs : List α}, (∀ x ∈ xs, f (enc x) ρ = if p x = true then .rt d else .nx ρ) → forGo f (xs.map enc) ρ = if xs.any p = true then .rt d else .nx ρ
  | [], _ => rfl
  | x :: xs, h => by
    have e := h x List.mem_cons_self
    have e2 := for_search (xs := xs) fun y hy => h y (List.mem_cons_of_mem _ hy)
    by_cases hp : p x = true
    · simp only [hp, if_true] at e
      simp [forGo, e, hp]
    · simp only [hp] at e
      simp [forGo, e, hp, e2]
/-- .. whose turns all pass -/
theorem for_pass {α : Type} {f : D → PP.Env → O} {enc : α → D} {ρ : PP.Env} : ∀ {xs : List α}, (∀ x ∈ xs, f (enc x) ρ = .nx ρ) → forGo f (xs.map enc) ρ = .nx ρ
  | [], _ => rfl
  | x :: xs, h => by
    simp only [List.map_cons, forGo, h x List.mem_cons_self]
    exact for_pass fun y hy => h y (List.mem_cons_of_mem _ hy)
/-- a while, by what holds between its turns and a number that falls -/
theorem while_inv {σ : Type} {c : PP.Env → R Bool} {b : PP.Env → O} {E : σ → PP.Env} (P : σ → Prop) (μ : σ → Nat) (h : ∀ s, P s → (c (E s) = .ok false) ∨ (c (E s) = .ok true ∧ ∃ s', b (E s) = .nx (E s') ∧ P s' ∧ μ s' < μ s)) :
    ∀ (n : Nat) (s : σ), P s → μ s < n → ∃ s', whGo c b n (E s) = .nx (E s') ∧ P s' ∧ c (E s') = .ok false
  | 0, s, _, hn => absurd hn (Nat.not_lt_zero _)
  | n + 1, s, hp, hn => by
    rcases h s hp with e | ⟨e, s', e2, hp', hl⟩
    · exact ⟨s, by simp [whGo, e], hp, e⟩
    · obtain ⟨s2, e3, h3⟩ := while_inv P μ h n s' hp' (by omega)
      exact ⟨s2, by simp [whGo, e, e2, e3], h3⟩
/-- a table has a def at a number -/
class Has (T : Nat → Option Fn) (i : Nat) (F : outParam Fn) : Prop where
  at_ : T i = some F
theorem run_at {T : Nat → Option Fn} {Γ : Nat → Option D} {n i : Nat} {F : Fn} [h : Has T i F] {ds : List D} (hn : 0 < n) (hl : ds.length = F.np) :
    run T Γ n i ds = outO (exSs (run T Γ (n - 1)) Γ F.body (ds.map some ++ List.replicate (F.N.length - F.np) none)) := by
  obtain ⟨m, rfl⟩ : ∃ m, n = m + 1 := ⟨n - 1, by omega⟩
  rw [run_eq h.at_, callFn_eq hl]; rfl
end PW
/-! Texts of defs, by their numbers. -/
namespace G
open PySem PP
def b_198_0 : Ss :=
    .cons (.asg (.one 2) (.bin .mod (.bin .add (.bin .mul (.var 2) (.int 69621)) (.var 3)) (.int 2147483647))) <|
    .cons (.wipe [3]) <|
    .nil

/-- _law_cell -/
def b_198 : Ss :=
    .cons (.ife (.cmp .lt (.var 1) (.bi .len (.cons (.var 0) .nil)))
      (.cons (.ret (.ix (.var 0) (.var 1))) <|
      .nil)
      (.nil)) <|
    .cons (.asg (.one 2) (.bin .mod (.bin .mul (.int 48271) (.bin .add (.bin .add (.bin .mul (.var 1) (.var 1)) (.bin .mul (.int 7) (.var 1))) (.int 11))) (.int 2147483647))) <|
    .cons (.for_ (.one 3) (.seq (.slc (.var 0) .none (.some (.int 3)))) b_198_0) <|
    .cons (.ret (.var 2)) <|
    .nil

def f_198 : Fn := ⟨"_law_cell", 2, ["script", "k", "state", "cell"], b_198, false⟩

def b_199_0 : Ss :=
    .cons (.asg (.one 3) (.bin .mod (.bin .add (.bin .add (.bin .mul (.var 3) (.bin .add (.bin .mod (.var 3) (.int 65521)) (.int 40487))) (.bin .mul (.int 7) (.var 5))) (.int 5)) (.int 1999999973))) <|
    .cons (.app 2 (.ix (.lst (.cons (.var 3) (.cons (.bin .mod (.var 4) (.int 1000000)) .nil))) (.bi .int (.cons (.cmp .gt (.var 4) (.int 0)) .nil)))) <|
    .cons (.asg (.one 4) (.bin .fdiv (.var 4) (.int 1000000))) <|
    .cons (.wipe [5]) <|
    .nil

/-- _law_numbers -/
def b_199 : Ss :=
    .cons (.new 2 (.lst .nil)) <|
    .cons (.asg (.one 3) (.bin .mod (.bin .mul (.bin .add (.bin .mod (.var 0) (.int 1999999973)) (.int 31)) (.int 765432101)) (.int 1999999973))) <|
    .cons (.asg (.one 4) (.int 0)) <|
    .cons (.ife (.or_ (.cmp .lt (.var 0) (.int 0)) (.cmp .ge (.var 0) (.bin .pow (.int 10) (.int 18))))
      (.cons (.asg (.one 4) (.bi .abs (.cons (.var 0) .nil))) <|
      .nil)
      (.nil)) <|
    .cons (.for_ (.one 5) (.rng1 (.var 1)) b_199_0) <|
    .cons (.retO 2) <|
    .nil

def f_199 : Fn := ⟨"_law_numbers", 2, ["cell", "many", "found", "state", "digits", "k"], b_199, true⟩

def b_200_0 : Ss :=
    .cons (.asg (.one 5) (.bin .mul (.ix (.var 2) (.bin .mod (.bin .add (.ix (.var 0) (.int 0)) (.bin .mul (.int 7) (.var 4))) (.int 26))) (.bin .add (.int 1) (.bin .mod (.bin .add (.ix (.var 0) (.int 2)) (.bin .mul (.int 3) (.var 4))) (.ix (.lst (.cons (.int 1) (.cons (.int 5) .nil))) (.bin .mod (.ix (.var 0) (.int 3)) (.int 2))))))) <|
    .cons (.ife (.cmp .eq (.bin .mod (.ix (.var 0) (.int 1)) (.int 4)) (.int 1))
      (.cons (.asg (.one 5) (.bin .add (.ix (.str "abcdefgh") (.var 4)) (.bin .mul (.ix (.var 2) (.bin .mod (.ix (.var 0) (.int 2)) (.int 26))) (.bin .mod (.ix (.var 0) (.int 3)) (.int 8))))) <|
      .nil)
      (.nil)) <|
    .cons (.ife (.cmp .eq (.bin .mod (.ix (.var 0) (.int 1)) (.int 4)) (.int 2))
      (.cons (.asg (.one 5) (.bin .mul (.ix (.var 2) (.bin .mod (.ix (.var 0) (.int 2)) (.int 26))) (.bin .add (.int 1) (.var 4)))) <|
      .nil)
      (.nil)) <|
    .cons (.ife (.cmp .eq (.bin .mod (.ix (.var 0) (.int 1)) (.int 4)) (.int 3))
      (.cons (.asg (.one 6) (.ix (.var 2) (.bin .mod (.bin .add (.ix (.var 0) (.int 3)) (.bin .mul (.int 5) (.var 4))) (.int 26)))) <|
      .cons (.asg (.one 5) (.bin .add (.bin .add (.ix (.var 2) (.bin .mod (.ix (.var 0) (.int 2)) (.int 26))) (.var 6)) (.ix (.var 2) (.bin .mod (.ix (.var 0) (.int 0)) (.int 26))))) <|
      .nil)
      (.nil)) <|
    .cons (.app 3 (.var 5)) <|
    .cons (.wipe [4, 5, 6]) <|
    .nil

/-- _law_names -/
def b_200 : Ss :=
    .cons (.asg (.one 2) (.str "abcdefghijklmnopqrstuvwxyz")) <|
    .cons (.new 3 (.lst .nil)) <|
    .cons (.for_ (.one 4) (.rng1 (.var 1)) b_200_0) <|
    .cons (.ret (.bi .sorted (.cons (.var 3) .nil))) <|
    .nil

def f_200 : Fn := ⟨"_law_names", 2, ["xs", "many", "letters", "found", "k", "name", "middle"], b_200, true⟩

def b_202_0 : Ss :=
    .cons (.asg (.one 7) (.call 199 (.cons (.call 198 (.cons (.var 1) (.cons (.bin .add (.var 2) (.var 6)) .nil))) (.cons (.int 5) .nil)))) <|
    .cons (.asg (.one 8) (.bin .mod (.ix (.var 7) (.int 0)) (.bi .len (.cons (.var 0) .nil)))) <|
    .cons (.asg (.one 9) (.bin .mod (.bin .add (.bin .add (.var 8) (.int 1)) (.bin .mod (.ix (.var 7) (.int 1)) (.bi .max (.cons (.int 1) (.cons (.bin .sub (.bi .len (.cons (.var 0) .nil)) (.int 1)) .nil))))) (.bi .len (.cons (.var 0) .nil)))) <|
    .cons (.asg (.one 10) (.ix (.lst (.cons (.bin .add (.int 1) (.bin .mod (.ix (.var 7) (.int 2)) (.int 4))) (.cons (.bin .add (.int 1) (.bin .mod (.ix (.var 7) (.int 2)) (.int 30))) (.cons (.bin .add (.int 1) (.bin .mod (.ix (.var 7) (.int 2)) (.int 999))) (.cons (.bin .add (.int 1) (.bin .mod (.ix (.var 7) (.int 2)) (.int 999))) .nil))))) (.var 4))) <|
    .cons (.ife (.cmp .ne (.var 8) (.var 9))
      (.cons (.putT 5 (.cons (.ix (.var 0) (.var 8)) (.cons (.ix (.var 0) (.var 9)) .nil)) (.var 10)) <|
      .cons (.ife (.and_ (.cmp .eq (.bin .mod (.ix (.var 7) (.int 3)) (.int 3)) (.int 1)) (.cmp .lt (.bi .len (.cons (.var 5) .nil)) (.int 16)))
        (.cons (.putT 5 (.cons (.ix (.var 0) (.var 9)) (.cons (.ix (.var 0) (.var 8)) .nil)) (.bin .add (.int 1) (.bin .mod (.ix (.var 7) (.int 4)) (.int 9)))) <|
        .nil)
        (.nil)) <|
      .nil)
      (.nil)) <|
    .cons (.wipe [6, 7, 8, 9, 10]) <|
    .nil

/-- _law_ties -/
def b_202 : Ss :=
    .cons (.new 5 .dt0) <|
    .cons (.for_ (.one 6) (.rng1 (.var 3)) b_202_0) <|
    .cons (.ret (.bi .tuple (.cons (.slc (.lc (.bin .add (.var 11) (.tup (.cons (.ix (.var 5) (.var 11)) .nil))) (.one 11) (.seq (.bi .sorted (.cons (.var 5) .nil))) .nil [11]) .none (.some (.int 16))) .nil))) <|
    .nil

def f_202 : Fn := ⟨"_law_ties", 5, ["names", "script", "at", "many", "wide", "found", "k", "xs", "one", "other", "size", "pair"], b_202, false⟩

/-- _law_place -/
def b_204 : Ss :=
    .cons (.asg (.one 4) (.ix (.lst (.cons (.int 4) (.cons (.int 10) (.cons (.int 100) (.cons (.int 100) .nil))))) (.var 3))) <|
    .cons (.asg (.one 5) (.bin .mod (.ix (.var 1) (.int 0)) (.var 4))) <|
    .cons (.asg (.one 6) (.bin .mod (.ix (.var 1) (.int 1)) (.ix (.lst (.cons (.int 3) (.cons (.int 5) (.cons (.int 100) (.cons (.int 100) .nil))))) (.var 3)))) <|
    .cons (.asg (.one 7) (.bin .mod (.ix (.var 1) (.int 2)) (.ix (.lst (.cons (.int 2) (.cons (.int 4) (.cons (.int 100) (.cons (.int 100) .nil))))) (.var 3)))) <|
    .cons (.asg (.one 8) (.bin .add (.bin .mul (.var 7) (.var 2)) (.bin .mod (.ix (.var 1) (.int 3)) (.ix (.lst (.cons (.int 5) (.cons (.int 20) (.cons (.int 100) (.cons (.int 100) .nil))))) (.var 3))))) <|
    .cons (.ife (.cmp .eq (.bin .mod (.ix (.var 1) (.int 4)) (.int 5)) (.int 1))
      (.cons (.par [5, 6] (.cons (.int 0) (.cons (.bin .mod (.bin .fdiv (.ix (.var 1) (.int 1)) (.int 8)) (.int 3)) .nil))) <|
      .nil)
      (.nil)) <|
    .cons (.ife (.cmp .eq (.bin .mod (.ix (.var 1) (.int 4)) (.int 5)) (.int 2))
      (.cons (.asg (.one 7) (.int 0)) <|
      .cons (.asg (.one 8) (.bin .mod (.ix (.var 1) (.int 3)) (.ix (.lst (.cons (.int 5) (.cons (.int 20) (.cons (.int 1000) (.cons (.int 1000) .nil))))) (.var 3)))) <|
      .nil)
      (.nil)) <|
    .cons (.ret (.tup (.cons (.var 0) (.cons (.var 5) (.cons (.var 6) (.cons (.var 8) (.cons (.var 7) .nil))))))) <|
    .nil

def f_204 : Fn := ⟨"_law_place", 4, ["name", "xs", "top", "wide", "most", "a", "b", "d", "c"], b_204, false⟩

/-- _law_place -/
def b_219 : Ss :=
    .cons (.asg (.one 4) (.bin .mod (.ix (.var 1) (.int 0)) (.ix (.lst (.cons (.int 4) (.cons (.int 10) (.cons (.int 100) (.cons (.int 100) .nil))))) (.var 3)))) <|
    .cons (.asg (.one 5) (.bin .mod (.ix (.var 1) (.int 1)) (.ix (.lst (.cons (.int 3) (.cons (.int 5) (.cons (.int 100) (.cons (.int 100) .nil))))) (.var 3)))) <|
    .cons (.asg (.one 6) (.bin .mod (.ix (.var 1) (.int 2)) (.ix (.lst (.cons (.int 2) (.cons (.int 4) (.cons (.int 100) (.cons (.int 100) .nil))))) (.var 3)))) <|
    .cons (.asg (.one 7) (.bin .add (.bin .mul (.var 6) (.var 2)) (.bin .mod (.ix (.var 1) (.int 3)) (.ix (.lst (.cons (.int 5) (.cons (.int 20) (.cons (.int 100) (.cons (.int 100) .nil))))) (.var 3))))) <|
    .cons (.ife (.cmp .eq (.bin .mod (.ix (.var 1) (.int 4)) (.int 5)) (.int 1))
      (.cons (.par [4, 5] (.cons (.int 0) (.cons (.bin .mod (.bin .fdiv (.ix (.var 1) (.int 1)) (.int 8)) (.int 3)) .nil))) <|
      .nil)
      (.nil)) <|
    .cons (.ife (.cmp .eq (.bin .mod (.ix (.var 1) (.int 4)) (.int 5)) (.int 2))
      (.cons (.asg (.one 6) (.int 0)) <|
      .cons (.asg (.one 7) (.bin .mod (.ix (.var 1) (.int 3)) (.ix (.lst (.cons (.int 5) (.cons (.int 20) (.cons (.int 1000) (.cons (.int 1000) .nil))))) (.var 3)))) <|
      .nil)
      (.nil)) <|
    .cons (.ret (.tup (.cons (.var 0) (.cons (.var 4) (.cons (.var 5) (.cons (.var 7) (.cons (.var 6) .nil))))))) <|
    .nil

def f_219 : Fn := ⟨"_law_place", 4, ["name", "xs", "top", "wide", "a", "b", "d", "c"], b_219, false⟩

def b_206_0 : Ss :=
    .cons (.app 8 (.call 204 (.cons (.ix (.var 7) (.var 9)) (.cons (.call 199 (.cons (.call 198 (.cons (.var 0) (.cons (.bin .add (.bin .add (.var 1) (.int 1)) (.var 9)) .nil))) (.cons (.int 5) .nil))) (.cons (.var 4) (.cons (.var 6) .nil)))))) <|
    .cons (.wipe [9]) <|
    .nil

/-- _law_web -/
def b_206 : Ss :=
    .cons (.asg (.one 3) (.call 199 (.cons (.call 198 (.cons (.var 0) (.cons (.var 1) .nil))) (.cons (.int 12) .nil)))) <|
    .cons (.asg (.one 4) (.bin .add (.int 1) (.bin .mod (.ix (.var 3) (.int 4)) (.int 9)))) <|
    .cons (.asg (.one 5) (.bin .add (.int 1) (.bin .mod (.ix (.var 3) (.int 5)) (.var 2)))) <|
    .cons (.asg (.one 6) (.ix (.lst (.cons (.int 0) (.cons (.int 1) (.cons (.int 0) (.cons (.int 1) (.cons (.int 2) .nil)))))) (.bin .mod (.ix (.var 3) (.int 6)) (.int 5)))) <|
    .cons (.asg (.one 7) (.call 200 (.cons (.var 3) (.cons (.var 5) .nil)))) <|
    .cons (.new 8 (.lst .nil)) <|
    .cons (.for_ (.one 9) (.rng1 (.var 5)) b_206_0) <|
    .cons (.asg (.one 10) (.call 202 (.cons (.var 7) (.cons (.var 0) (.cons (.bin .add (.bin .add (.var 1) (.int 1)) (.var 5)) (.cons (.bin .mod (.ix (.var 3) (.int 7)) (.bin .add (.bin .mul (.int 2) (.var 5)) (.int 1))) (.cons (.var 6) .nil))))))) <|
    .cons (.ret (.tup (.cons (.var 4) (.cons (.bi .tuple (.cons (.var 8) .nil)) (.cons (.var 10) .nil))))) <|
    .nil

def f_206 : Fn := ⟨"_law_web", 3, ["script", "at", "most", "head", "top", "many", "wide", "names", "places", "k", "ties"], b_206, false⟩

def b_220_0 : Ss :=
    .cons (.app 8 (.call 219 (.cons (.ix (.var 7) (.var 9)) (.cons (.call 199 (.cons (.call 198 (.cons (.var 0) (.cons (.bin .add (.bin .add (.var 1) (.int 1)) (.var 9)) .nil))) (.cons (.int 5) .nil))) (.cons (.var 4) (.cons (.var 6) .nil)))))) <|
    .cons (.wipe [9]) <|
    .nil

/-- _law_web -/
def b_220 : Ss :=
    .cons (.asg (.one 3) (.call 199 (.cons (.call 198 (.cons (.var 0) (.cons (.var 1) .nil))) (.cons (.int 12) .nil)))) <|
    .cons (.asg (.one 4) (.bin .add (.int 1) (.bin .mod (.ix (.var 3) (.int 4)) (.int 9)))) <|
    .cons (.asg (.one 5) (.bin .add (.int 1) (.bin .mod (.ix (.var 3) (.int 5)) (.var 2)))) <|
    .cons (.asg (.one 6) (.ix (.lst (.cons (.int 0) (.cons (.int 1) (.cons (.int 0) (.cons (.int 1) (.cons (.int 2) .nil)))))) (.bin .mod (.ix (.var 3) (.int 6)) (.int 5)))) <|
    .cons (.asg (.one 7) (.call 200 (.cons (.var 3) (.cons (.var 5) .nil)))) <|
    .cons (.new 8 (.lst .nil)) <|
    .cons (.for_ (.one 9) (.rng1 (.var 5)) b_220_0) <|
    .cons (.asg (.one 10) (.call 202 (.cons (.var 7) (.cons (.var 0) (.cons (.bin .add (.bin .add (.var 1) (.int 1)) (.var 5)) (.cons (.bin .mod (.ix (.var 3) (.int 7)) (.bin .add (.bin .mul (.int 2) (.var 5)) (.int 1))) (.cons (.var 6) .nil))))))) <|
    .cons (.ret (.tup (.cons (.var 4) (.cons (.bi .tuple (.cons (.var 8) .nil)) (.cons (.var 10) .nil))))) <|
    .nil

def f_220 : Fn := ⟨"_law_web", 3, ["script", "at", "most", "head", "top", "many", "wide", "names", "places", "k", "ties"], b_220, false⟩

/-- _law_names_of -/
def b_205 : Ss :=
    .cons (.ret (.lc (.ix (.var 1) (.int 0)) (.one 1) (.seq (.ix (.var 0) (.int 1))) .nil [1])) <|
    .nil

def f_205 : Fn := ⟨"_law_names_of", 1, ["web", "place"], b_205, true⟩

def b_211_0 : Ss :=
    .cons (.app 2 (.bi .tuple (.cons (.lc (.ix (.var 1) (.var 4)) (.one 4) (.rng1 (.bi .len (.cons (.var 1) .nil))) (.cons (.cmp .eq (.bin .band (.bin .shr (.var 3) (.var 4)) (.int 1)) (.int 1)) .nil) [4]) .nil))) <|
    .cons (.wipe [3]) <|
    .nil

/-- _law_cuts -/
def b_211 : Ss :=
    .cons (.asg (.one 1) (.call 205 (.cons (.var 0) .nil))) <|
    .cons (.new 2 (.lst .nil)) <|
    .cons (.for_ (.one 3) (.rng1 (.bin .shl (.int 1) (.bi .len (.cons (.var 1) .nil)))) b_211_0) <|
    .cons (.ret (.bi .sorted (.cons (.var 2) .nil))) <|
    .nil

def f_211 : Fn := ⟨"_law_cuts", 1, ["web", "names", "found", "mask", "k"], b_211, true⟩

end G
/-! What is drawn. -/
namespace G
open PySem PP PW
variable {T : Nat → Option Fn} {Γ : Nat → Option D} {n : Nat}
section
variable [Has T 198 f_198]
theorem cell_any (ns : List Int) (k : Int) (hk : 0 ≤ k ∧ k < 1000000) (hn : 1 ≤ n) : ∃ z : Int, run T Γ n 198 [.fl (ns.map D.int), .int k] = .ok (.int z) := by
  rw [run_at (by omega) rfl]
  by_cases h : k < ns.length
  · exact ⟨_, by simp (disch := omega) [f_198, b_198, ix_flM, h]; rfl⟩
  · obtain ⟨z, e, _⟩ := for_inv (f := turn (run T Γ (n - 1)) Γ (.one 3) b_198_0) (enc := D.int) (E := fun z : Int => [some (D.fl (ns.map D.int)), some (D.int k), some (D.int z), none]) (fun _ _ => True)
      (fun x xs s _ => ⟨_, by simp (disch := omega) [turn, b_198_0, o_mod, o_mulR, wipeE]; rfl, trivial⟩) (ns.take 3) (48271 * (k * k + 7 * k + 11) % 2147483647) trivial
    simp only [List.map_take] at e
    exact ⟨z, by simp (disch := omega) [f_198, b_198, ix_flM, h, o_mod, o_mulL, cut_to, e]⟩
end
/-- whole numbers from 0 on, not great -/
def Small (xs : List Int) : Prop := ∀ x ∈ xs, 0 ≤ x ∧ x < 2000000000
theorem Small.at_ {xs : List Int} (h : Small xs) {i : Nat} (hi : i < xs.length) : 0 ≤ xs.getD i default ∧ xs.getD i default < 2000000000 := by
  rw [List.getD, List.getElem?_eq_getElem hi]
  exact h _ (List.getElem_mem hi)
section
variable [Has T 199 f_199]
theorem numbers_any (cell many : Int) (hm : 0 ≤ many ∧ many < 100000) (hn : 1 ≤ n) : ∃ xs : List Int, run T Γ n 199 [.int cell, .int many] = .ok (.lst (xs.map D.int)) ∧ xs.length = many.toNat ∧ Small xs := by
  rw [run_at (by omega) rfl]
  have loop : ∀ (st dg : Int), (0 ≤ st ∧ st < 1999999973) → 0 ≤ dg → ∃ xs st' dg', forGo (turn (run T Γ (n - 1)) Γ (.one 5) b_199_0) ((List.range many.toNat).map fun k : Nat => D.int k) [some (.int cell), some (.int many), some (.lst []), some (.int st), some (.int dg), none]
      = .nx [some (.int cell), some (.int many), some (.lst (List.map D.int xs)), some (.int st'), some (.int dg'), none] ∧ xs.length = many.toNat ∧ Small xs := by
    intro st dg h1 h2
    obtain ⟨s, e, h3, h4, _⟩ := for_inv (f := turn (run T Γ (n - 1)) Γ (.one 5) b_199_0) (enc := fun k : Nat => D.int (k : Nat))
      (E := fun s : List Int × Int × Int => [some (D.int cell), some (D.int many), some (.lst (s.1.map D.int)), some (D.int s.2.1), some (D.int s.2.2), none])
      (fun r s => s.1.length + r.length = many.toNat ∧ Small s.1 ∧ (0 ≤ s.2.1 ∧ s.2.1 < 1999999973) ∧ 0 ≤ s.2.2)
      (fun k r s ⟨q1, q2, q3, q4⟩ => by
        obtain ⟨xs, st, dg⟩ := s
        simp only at q1 q2 q3 q4
        generalize hs' : (st * (st % 65521 + 40487) + 7 * (k : Int) + 5) % 1999999973 = st'
        have b1 : 0 ≤ st' ∧ st' < 1999999973 := by omega
        rw [List.length_cons] at q1
        refine ⟨(xs ++ [if 0 < dg then dg % 1000000 else st'], st', dg / 1000000), ?_, by simp; omega, ?_, b1, by simp only; omega⟩
        · by_cases hp : 0 < dg <;> simp (disch := omega) [turn, b_199_0, o_mod, o_mulL, o_mulR, o_fdiv, ix_lstL, put, ownL, hs', hp, sz_lt, wipeE]
        · intro y hy
          rcases List.mem_append.mp hy with hy | hy
          · exact q2 y hy
          · rw [List.mem_singleton.mp hy]; split <;> omega) (List.range many.toNat) ([], st, dg) ⟨by simp, fun y hy => (nomatch hy), h1, h2⟩
    exact ⟨s.1, s.2.1, s.2.2, e, by simpa using h3, h4⟩
  obtain ⟨xs, st', dg', e, l1, l2⟩ := loop ((cell % 1999999973 + 31) * 765432101 % 1999999973) (if cell < 0 ∨ 1000000000000000000 ≤ cell then (if cell < 0 then -cell else cell) else 0) (by omega) (by split <;> (try split) <;> omega)
  refine ⟨xs, ?_, l1, l2⟩
  clear loop
  by_cases hc : cell < 0
  · simp only [hc, true_or, if_true] at e
    simp (disch := omega) [f_199, b_199, o_mod, o_mulR, o_powI, put, hc, sm62_ok, rng0, e]
  · by_cases hd : 1000000000000000000 ≤ cell
    · simp only [hc, hd, or_true, if_true, if_false] at e
      simp (disch := omega) [f_199, b_199, o_mod, o_mulR, o_powI, put, hc, hd, sm62_ok, rng0, e]
    · simp only [hc, hd, or_false, if_false] at e
      simp (disch := omega) [f_199, b_199, o_mod, o_mulR, o_powI, put, hc, hd, sm62_ok, rng0, e]
end
end G
/-! What is sorted. -/
namespace PW
open PP
open PySem
/-- values that are sorted: less, as data are -/
class Srt {α : Type} (e : α → D) (lt : outParam (α → α → Prop)) : Prop where
  data : ∀ a b, PySem.W.dataLt (e a).py (e b).py = true ↔ lt a b
  eqv : ∀ a b, PyData.eqv (e a).py (e b).py = true ↔ a = b
  alike : ∀ a b, PySem.W.alike (e a).py (e b).py = true
  irr : ∀ a, ¬ lt a a
  tr : ∀ a b c, lt a b → lt b c → lt a c
  tot : ∀ a b, lt a b ∨ a = b ∨ lt b a
/-- texts in order -/
def SLt (a b : Str) : Prop := a.cps.toList < b.cps.toList
theorem str_ext {a b : Str} (h : a.cps.toList = b.cps.toList) : a = b := by
  cases a; cases b
  simp only [Str.mk.injEq]
  exact Array.toList_inj.mp h
instance srtS : Srt D.str SLt where
  data a b := by
    show PySem.W.dataLt (.str a) (.str b) = true ↔ _
    rw [PySem.W.dataLt_str, decide_eq_true_eq]; rfl
  eqv a b := by simp [D.py, PyData.eqv]
  alike a b := by simp [D.py, PySem.W.alike]
  irr a := List.lt_irrefl _
  tr a b c := List.lt_trans
  tot a b := by
    by_cases h1 : a.cps.toList < b.cps.toList
    · exact .inl h1
    · by_cases h2 : b.cps.toList < a.cps.toList
      · exact .inr (.inr h2)
      · exact .inr (.inl (str_ext (List.le_antisymm (List.not_lt.mp h2) (List.not_lt.mp h1))))
instance srtI : Srt D.int (· < ·) where
  data a b := by
    show PySem.W.dataLt (.int a) (.int b) = true ↔ _
    rw [PySem.W.dataLt_int, decide_eq_true_eq]
  eqv a b := by simp [D.py, PyData.eqv]
  alike a b := by simp [D.py, PySem.W.alike]
  irr a := Int.lt_irrefl a
  tr a b c := Int.lt_trans
  tot a b := by omega
theorem pyA_map {α : Type} (e : α → D) : ∀ xs : List α, D.pyA (xs.map e) = xs.map fun x => (e x).py
  | [] => by simp [D.pyA]
  | x :: xs => by simp [D.pyA, pyA_map e xs]
/-- rows: the first items that differ decide -/
inductive RLt {α : Type} (lt : α → α → Prop) : List α → List α → Prop
  | nil {y : α} {ys : List α} : RLt lt [] (y :: ys)
  | head {x y : α} {xs ys : List α} : lt x y → RLt lt (x :: xs) (y :: ys)
  | tail {x : α} {xs ys : List α} : RLt lt xs ys → RLt lt (x :: xs) (x :: ys)
section
variable {α : Type} {e : α → D} {lt : α → α → Prop} [S : Srt e lt]
include S
theorem rowLt_map : ∀ xs ys : List α, PySem.W.rowLt (xs.map fun x => (e x).py) (ys.map fun x => (e x).py) = true ↔ RLt lt xs ys
  | [], [] => by
    have h : PySem.W.rowLt [] [] = false := rfl
    simp only [List.map_nil, h]
    exact ⟨fun h => (by cases h), fun h => (by cases h)⟩
  | [], y :: ys => by
    have h : PySem.W.rowLt [] ((e y).py :: ys.map fun x => (e x).py) = true := by
      unfold PySem.W.rowLt
      cases (e y).py <;> rfl
    simp only [List.map_nil, List.map_cons, h]
    exact ⟨fun _ => .nil, fun _ => trivial⟩
  | x :: xs, [] => by
    have h : PySem.W.rowLt ((e x).py :: xs.map fun x => (e x).py) [] = false := by
      unfold PySem.W.rowLt
      cases (e x).py <;> rfl
    simp only [List.map_nil, List.map_cons, h]
    exact ⟨fun h => (by cases h), fun h => (by cases h)⟩
  | x :: xs, y :: ys => by
    have ih := rowLt_map xs ys
    simp only [List.map_cons]
    unfold PySem.W.rowLt at ih ⊢
    rw [PySem.W.dataLt_cons (S.alike x y)]
    by_cases h : x = y
    · subst h
      rw [if_pos ((S.eqv x x).mpr rfl), ih]
      exact ⟨.tail, fun h => by
        cases h with
        | head h => exact absurd h (S.irr x)
        | tail h => exact h⟩
    · rw [if_neg (fun q => h ((S.eqv x y).mp q)), S.data]
      exact ⟨.head, fun q => by
        cases q with
        | head q => exact q
        | tail q => exact absurd rfl h⟩
theorem eqvAll_map : ∀ xs ys : List α, PyData.eqv (.tuple (xs.map fun x => (e x).py)) (.tuple (ys.map fun x => (e x).py)) = true ↔ xs = ys
  | [], [] => by simp [PyData.eqv, PyData.eqvAll]
  | [], y :: ys => by simp [PyData.eqv, PyData.eqvAll]
  | x :: xs, [] => by simp [PyData.eqv, PyData.eqvAll]
  | x :: xs, y :: ys => by
    have ih := eqvAll_map xs ys
    simp only [PyData.eqv] at ih
    simp only [List.map_cons, PyData.eqv, PyData.eqvAll, Bool.and_eq_true, S.eqv, ih, List.cons.injEq]
end
/-- a tuple of such -/
instance srtT {α : Type} {e : α → D} {lt : α → α → Prop} [S : Srt e lt] : Srt (fun xs : List α => D.tup (xs.map e)) (RLt lt) where
  data a b := by
    simp only [D.py, pyA_map]
    rw [PySem.W.dataLt_tuple]
    exact rowLt_map a b
  eqv a b := by
    simp only [D.py, pyA_map]
    exact eqvAll_map a b
  alike a b := by
    simp only [D.py, pyA_map, PySem.W.alike]
    induction a generalizing b with
    | nil => cases b <;> rfl
    | cons x xs ih =>
      cases b with
      | nil => rfl
      | cons y ys => simp [PySem.W.alikeAll, S.alike, ih]
  irr a h := by
    induction a with
    | nil => cases h
    | cons x xs ih =>
      cases h with
      | head h => exact S.irr x h
      | tail h => exact ih h
  tr a b c h1 h2 := by
    induction h1 generalizing c with
    | nil => cases h2 <;> exact .nil
    | head h =>
      cases h2 with
      | head h' => exact .head (S.tr _ _ _ h h')
      | tail h' => exact .head h
    | tail h ih =>
      cases h2 with
      | head h' => exact .head h'
      | tail h' => exact .tail (ih _ h')
  tot a b := by
    induction a generalizing b with
    | nil =>
      cases b with
      | nil => exact .inr (.inl rfl)
      | cons y ys => exact .inl .nil
    | cons x xs ih =>
      cases b with
      | nil => exact .inr (.inr .nil)
      | cons y ys =>
        rcases S.tot x y with h | rfl | h
        · exact .inl (.head h)
        · rcases ih ys with h | rfl | h
          · exact .inl (.tail h)
          · exact .inr (.inl rfl)
          · exact .inr (.inr (.tail h))
        · exact .inr (.inr (.head h))
/-- pairs: the first parts, then the second -/
def PLt {α β : Type} (lt : α → α → Prop) (lt' : β → β → Prop) (p q : α × β) : Prop := lt p.1 q.1 ∨ (p.1 = q.1 ∧ lt' p.2 q.2)
instance srt2 {α β : Type} {e : α → D} {f : β → D} {lt : α → α → Prop} {lt' : β → β → Prop} [S : Srt e lt] [S' : Srt f lt'] : Srt (fun p : α × β => D.tup [e p.1, f p.2]) (PLt lt lt') where
  data a b := by
    simp only [D.py, D.pyA]
    rw [PySem.W.dataLt_pair (S.alike _ _) (S'.alike _ _)]
    unfold PLt
    by_cases h : a.1 = b.1
    · rw [if_pos ((S.eqv _ _).mpr h)]
      by_cases h' : a.2 = b.2
      · rw [if_pos ((S'.eqv _ _).mpr h'), h, h']
        exact ⟨fun q => (by cases q), fun q => by
          rcases q with q | q
          · exact absurd q (S.irr _)
          · exact absurd q.2 (S'.irr _)⟩
      · rw [if_neg (fun q => h' ((S'.eqv _ _).mp q)), S'.data]
        exact ⟨fun q => .inr ⟨h, q⟩, fun q => by
          rcases q with q | q
          · rw [h] at q; exact absurd q (S.irr _)
          · exact q.2⟩
    · rw [if_neg (fun q => h ((S.eqv _ _).mp q)), S.data]
      exact ⟨.inl, fun q => by
        rcases q with q | q
        · exact q
        · exact absurd q.1 h⟩
  eqv a b := by
    obtain ⟨a1, a2⟩ := a
    obtain ⟨b1, b2⟩ := b
    simp only [D.py, D.pyA, PyData.eqv, PyData.eqvAll, Bool.and_eq_true, S.eqv, S'.eqv, Prod.mk.injEq, and_true]
  alike a b := by simp only [D.py, D.pyA, PySem.W.alike, PySem.W.alikeAll, S.alike, S'.alike, Bool.and_self]
  irr a h := by
    rcases h with h | h
    · exact S.irr _ h
    · exact S'.irr _ h.2
  tr a b c h1 h2 := by
    unfold PLt at *
    rcases h1 with h1 | ⟨e1, h1⟩ <;> rcases h2 with h2 | ⟨e2, h2⟩
    · exact .inl (S.tr _ _ _ h1 h2)
    · rw [← e2]; exact .inl h1
    · rw [e1]; exact .inl h2
    · exact .inr ⟨e1.trans e2, S'.tr _ _ _ h1 h2⟩
  tot a b := by
    obtain ⟨a1, a2⟩ := a
    obtain ⟨b1, b2⟩ := b
    unfold PLt
    rcases S.tot a1 b1 with h | rfl | h
    · exact .inl (.inl h)
    · rcases S'.tot a2 b2 with h | rfl | h
      · exact .inl (.inr ⟨rfl, h⟩)
      · exact .inr (.inl rfl)
      · exact .inr (.inr (.inr ⟨rfl, h⟩))
    · exact .inr (.inr (.inl h))
open Classical in
/-- a list in order -/
noncomputable def srt {α : Type} (lt : α → α → Prop) (xs : List α) : List α := xs.mergeSort fun a b => !decide (lt b a)
section
variable {α : Type} {e : α → D} {lt : α → α → Prop}
theorem srt_perm (lt : α → α → Prop) (xs : List α) : (srt lt xs).Perm xs := List.mergeSort_perm _ _
theorem srt_len (lt : α → α → Prop) (xs : List α) : (srt lt xs).length = xs.length := (srt_perm lt xs).length_eq
theorem srt_mem {lt : α → α → Prop} {xs : List α} {x : α} : x ∈ srt lt xs ↔ x ∈ xs := (srt_perm lt xs).mem_iff
open Classical in
theorem srt_le (S : Srt e lt) (xs : List α) : (srt lt xs).Pairwise fun a b => ¬ lt b a := by
  have := List.pairwise_mergeSort (le := fun a b => !decide (lt b a)) (fun a b c h1 h2 => by
    simp only [Bool.not_eq_true', decide_eq_false_iff_not] at *
    intro h3
    rcases S.tot a b with q | rfl | q
    · exact h2 (S.tr _ _ _ h3 q)
    · exact h2 h3
    · exact h1 q) (fun a b => by
    simp only [Bool.or_eq_true, Bool.not_eq_true', decide_eq_false_iff_not]
    by_cases h : lt b a
    · exact .inr fun q => S.irr _ (S.tr _ _ _ h q)
    · exact .inl h) xs
  exact this.imp fun h => by simpa using h
theorem srt_lt (S : Srt e lt) {xs : List α} (h : xs.Nodup) : (srt lt xs).Pairwise lt := by
  have h1 : (srt lt xs).Nodup := (srt_perm lt xs).nodup_iff.mpr h
  refine ((srt_le S xs).and h1).imp fun {a b} q => ?_
  rcases S.tot a b with z | z | z
  · exact z
  · exact absurd z q.2
  · exact absurd z q.1
open Classical in
theorem sortD_map [S : Srt e lt] (xs : List α) : sortD (xs.map e) = (srt lt xs).map e := by
  unfold sortD srt
  symm
  apply List.map_mergeSort
  intro a _ b _
  show (!decide (lt b a)) = !PySem.W.dataLt (e b).py (e a).py
  congr 1
  rw [Bool.eq_iff_iff, decide_eq_true_eq, S.data]
end
/-- what may be sorted -/
class SrtOk {α : Type} (e : α → D) : Prop where
  ok : ∀ xs : List α, sortOk (xs.map e) = true
section
variable {α : Type} {e : α → D} {lt : α → α → Prop} {n : Nat}
theorem sortOk_of [S : Srt e lt] [F : Flat e n] (hn : n ≤ 50) (h : (∀ a, isTup (e a) = true) ∨ ∀ a, isTup (e a) = false ∧ isNon (e a) = false) (xs : List α) : sortOk (xs.map e) = true := by
  simp only [sortOk, Bool.and_eq_true, Bool.or_eq_true, decide_eq_true_eq, List.all_eq_true, List.mem_map]
  refine ⟨⟨⟨Flat.nds xs, Nat.le_trans (Flat.deps xs) hn⟩, ?_⟩, ?_⟩
  · rintro _ ⟨a, _, rfl⟩ _ ⟨b, _, rfl⟩
    exact S.alike a b
  · rcases h with h | h
    · exact .inl (by rintro _ ⟨a, _, rfl⟩; exact h a)
    · exact .inr (by rintro _ ⟨a, _, rfl⟩; simp [(h a).1, (h a).2])
theorem sorted_lst [S : Srt e lt] [K : SrtOk e] (xs : List α) : biD .sorted [.lst (xs.map e)] = .ok (.lst ((srt lt xs).map e)) := by
  show R.when (sortOk (xs.map e)) (R.ok (D.lst (sortD (xs.map e)))) = _
  rw [K.ok, sortD_map]; rfl
theorem sorted_fl [S : Srt e lt] [K : SrtOk e] (xs : List α) : biD .sorted [.fl (xs.map e)] = .ok (.lst ((srt lt xs).map e)) := sorted_lst xs
end
instance flat2 {α β : Type} {e : α → D} {f : β → D} {n m : Nat} [F : Flat e n] [F' : Flat f m] : Flat (fun p : α × β => D.tup [e p.1, f p.2]) (max n m + 1) where
  nd a := by simp [D.nd, D.nd.ndA, F.nd, F'.nd]
  dep a := by
    have h1 := F.dep a.1
    have h2 := F'.dep a.2
    simp only [D.dep, D.dep.depA]
    omega
  eq a b := by
    obtain ⟨a1, a2⟩ := a
    obtain ⟨b1, b2⟩ := b
    simp only [D.eq, D.eqA, Bool.and_eq_true, F.eq, F'.eq, Prod.mk.injEq, and_true]
instance flat3 {α β γ : Type} {e : α → D} {f : β → D} {g : γ → D} {n m k : Nat} [F : Flat e n] [F' : Flat f m] [F'' : Flat g k] : Flat (fun p : α × β × γ => D.tup [e p.1, f p.2.1, g p.2.2]) (max n (max m k) + 1) where
  nd a := by simp [D.nd, D.nd.ndA, F.nd, F'.nd, F''.nd]
  dep a := by
    have h1 := F.dep a.1
    have h2 := F'.dep a.2.1
    have h3 := F''.dep a.2.2
    simp only [D.dep, D.dep.depA]
    omega
  eq a b := by
    obtain ⟨a1, a2, a3⟩ := a
    obtain ⟨b1, b2, b3⟩ := b
    simp only [D.eq, D.eqA, Bool.and_eq_true, F.eq, F'.eq, F''.eq, Prod.mk.injEq, and_true]
instance : SrtOk D.str := ⟨sortOk_of (by decide) (.inr fun _ => ⟨rfl, rfl⟩)⟩
instance : SrtOk D.int := ⟨sortOk_of (by decide) (.inr fun _ => ⟨rfl, rfl⟩)⟩
instance : SrtOk (fun xs : List Str => D.tup (xs.map D.str)) := ⟨sortOk_of (by decide) (.inl fun _ => rfl)⟩
instance : SrtOk (fun p : Str × Str => D.tup [.str p.1, .str p.2]) := ⟨sortOk_of (e := fun p : Str × Str => D.tup [.str p.1, .str p.2]) (by decide) (.inl fun _ => rfl)⟩
/-- two lists in order with the same things -/
theorem perm_eq {α : Type} {lt : α → α → Prop} (irr : ∀ a, ¬ lt a a) (tr : ∀ a b c, lt a b → lt b c → lt a c) : ∀ {xs ys : List α}, xs.Perm ys → xs.Pairwise lt → ys.Pairwise lt → xs = ys
  | [], ys, p, _, _ => by rw [List.nil_perm.mp p]
  | x :: xs, [], p, _, _ => absurd p.length_eq (by simp)
  | x :: xs, y :: ys, p, h1, h2 => by
    have h1' := List.pairwise_cons.mp h1
    have h2' := List.pairwise_cons.mp h2
    have e : x = y := by
      rcases List.mem_cons.mp (p.mem_iff.mp List.mem_cons_self) with h | h
      · exact h
      · rcases List.mem_cons.mp (p.mem_iff.mpr List.mem_cons_self) with h' | h'
        · exact h'.symm
        · exact absurd (tr _ _ _ (h1'.1 _ h') (h2'.1 _ h)) (irr _)
    subst e
    rw [perm_eq irr tr (List.perm_cons x |>.mp p) h1'.2 h2'.2]
end PW
/-! Names, places, ties, webs. -/
namespace G
open PySem PP PW
variable {T : Nat → Option Fn} {Γ : Nat → Option D} {n : Nat}
/-- the letter of a number -/
def chr (i : Nat) : Str := ⟨#[97 + i]⟩
theorem abc_codes : (("abcdefghijklmnopqrstuvwxyz" : Str)).cps.toList = (List.range 26).map (97 + ·) := by decide +kernel
theorem ah_codes : (("abcdefgh" : Str)).cps.toList = (List.range 8).map (97 + ·) := by decide +kernel
theorem ix_letter {z : Str} {m : Nat} (hz : z.cps.toList = (List.range m).map (97 + ·)) {i : Int} (h : 0 ≤ i ∧ i < m) : ixD (.str z) (.int i) = .ok (.str (chr i.toNat)) := by
  show (match L2.atI z.cps.toList i with
    | some c => R.ok (D.str ⟨#[c]⟩)
    | none => .bad) = _
  have e : L2.atI z.cps.toList i = some (97 + i.toNat) := by
    rw [hz, atI_in (by simpa using h), List.getD, List.getElem?_map, List.getElem?_range (by omega)]; rfl
  rw [e]; rfl
theorem ix_abc {i : Int} (h : 0 ≤ i ∧ i < 26) : ixD (.str "abcdefghijklmnopqrstuvwxyz") (.int i) = .ok (.str (chr i.toNat)) := ix_letter abc_codes (by omega)
theorem ix_ah {i : Int} (h : 0 ≤ i ∧ i < 8) : ixD (.str "abcdefgh") (.int i) = .ok (.str (chr i.toNat)) := ix_letter ah_codes (by omega)
theorem len_codes (s : Str) : s.length = s.cps.toList.length := by
  show s.cps.size = _
  simp
theorem app_codes (s t : Str) : (s ++ t).cps.toList = s.cps.toList ++ t.cps.toList := by
  show (s.cps ++ t.cps).toList = _
  simp
theorem rep_codes (s : Str) (m : Nat) : (PP.Str.rep s m).cps.toList = (List.replicate m s.cps.toList).flatten := by
  simp [PP.Str.rep]
theorem chr_codes (i : Nat) : (chr i).cps.toList = [97 + i] := rfl
theorem repc_codes (i m : Nat) : (PP.Str.rep (chr i) m).cps.toList = List.replicate m (97 + i) := by
  rw [rep_codes, chr_codes]
  induction m with
  | zero => rfl
  | succ m ih => rw [List.replicate_succ, List.flatten_cons, ih, List.replicate_succ]; rfl
@[simp] theorem chr_len (i : Nat) : (chr i).length = 1 := rfl
@[simp] theorem repW_len (s : Str) (m : Nat) : (PP.Str.rep s m).length = m * s.length := by
  rw [len_codes, rep_codes, len_codes]; simp
@[simp] theorem appW_len (s t : Str) : (s ++ t).length = s.length + t.length := by
  rw [len_codes, app_codes, len_codes, len_codes, List.length_append]
/-- a name -/
def NameOk (s : Str) : Prop := (1 ≤ s.length ∧ s.length ≤ 8) ∧ ∀ c ∈ s.cps.toList, 97 ≤ c ∧ c ≤ 122
/-- the names that are drawn -/
def nameOf (x0 x1 x2 x3 : Int) (k : Nat) : Str :=
  if x1 % 4 = 1 then chr k ++ PP.Str.rep (chr (x2 % 26).toNat) (x3 % 8).toNat
  else if x1 % 4 = 2 then PP.Str.rep (chr (x2 % 26).toNat) (1 + (k : Int)).toNat
  else if x1 % 4 = 3 then chr (x2 % 26).toNat ++ chr ((x3 + 5 * k) % 26).toNat ++ chr (x0 % 26).toNat
  else PP.Str.rep (chr ((x0 + 7 * k) % 26).toNat) (1 + (x2 + 3 * k) % (if x3 % 2 = 0 then 1 else 5)).toNat
theorem nameOf_ok (x0 x1 x2 x3 : Int) {k : Nat} (hk : k < 8) : NameOk (nameOf x0 x1 x2 x3 k) := by
  unfold nameOf
  split
  · refine ⟨by simp only [appW_len, chr_len, repW_len]; omega, fun c hc => ?_⟩
    rw [app_codes, chr_codes, repc_codes, List.mem_append, List.mem_singleton, List.mem_replicate] at hc
    omega
  · split
    · refine ⟨by simp only [appW_len, chr_len, repW_len]; omega, fun c hc => ?_⟩
      rw [repc_codes, List.mem_replicate] at hc
      omega
    · split
      · refine ⟨by simp only [appW_len, chr_len, repW_len]; omega, fun c hc => ?_⟩
        simp only [app_codes, chr_codes, List.mem_append, List.mem_singleton] at hc
        omega
      · refine ⟨?_, fun c hc => ?_⟩
        · simp only [appW_len, chr_len, repW_len]
          split <;> omega
        · rw [repc_codes, List.mem_replicate] at hc
          omega
theorem nameOf_inj (x0 x1 x2 x3 : Int) {j k : Nat} (hj : j < 8) (hk : k < 8) (h : nameOf x0 x1 x2 x3 j = nameOf x0 x1 x2 x3 k) : j = k := by
  have h := congrArg (fun s : Str => s.cps.toList) h
  unfold nameOf at h
  split at h
  · simp only [app_codes, chr_codes, List.cons_append, List.nil_append, List.cons.injEq] at h
    omega
  · split at h
    · have h := congrArg List.length h
      simp only [repc_codes, List.length_replicate] at h
      omega
    · split at h
      · simp only [app_codes, chr_codes, List.cons_append, List.nil_append, List.cons.injEq] at h
        omega
      · simp only [repc_codes] at h
        have e1 : (1 + (x2 + 3 * (j : Int)) % (if x3 % 2 = 0 then 1 else 5)).toNat ≠ 0 := by split <;> omega
        have e2 : (1 + (x2 + 3 * (k : Int)) % (if x3 % 2 = 0 then 1 else 5)).toNat ≠ 0 := by split <;> omega
        have h := congrArg List.head? h
        rw [List.head?_replicate, List.head?_replicate, if_neg e1, if_neg e2] at h
        simp only [Option.some.injEq] at h
        omega
local macro_rules | `(tactic| wtm_at "d") => `(tactic| first | decide | omega | (simp only [List.length_map, List.length_append, List.length_cons, List.length_nil, appW_len, chr_len, repW_len]; omega))
section
variable [Has T 200 f_200]
theorem names_turn (x0 x1 x2 x3 : Int) (r : List Int) (m : Int) (k : Nat) (acc : List Str) (hk : k < 8) (ha : acc.length < 1000) :
    turn (run T Γ (n - 1)) Γ (.one 4) b_200_0 (.int (k : Nat)) [some (.lst ((x0 :: x1 :: x2 :: x3 :: r).map D.int)), some (.int m), some (.str "abcdefghijklmnopqrstuvwxyz"), some (.lst (acc.map D.str)), none, none, none]
      = .nx [some (.lst ((x0 :: x1 :: x2 :: x3 :: r).map D.int)), some (.int m), some (.str "abcdefghijklmnopqrstuvwxyz"), some (.lst ((acc ++ [nameOf x0 x1 x2 x3 k]).map D.str)), none, none, none] := by
  have hq : ixD (.lst [.int 1, .int 5]) (.int (x3 % 2)) = .ok (.int (if x3 % 2 = 0 then 1 else 5)) := by
    rcases (by omega : x3 % 2 = 0 ∨ x3 % 2 = 1) with h | h <;> rw [h] <;> simp
  have hq2 : (0 : Int) < (if x3 % 2 = 0 then 1 else 5) ∧ (if x3 % 2 = 0 then (1 : Int) else 5) ≤ 5 := by split <;> omega
  unfold nameOf
  generalize (if x3 % 2 = 0 then (1 : Int) else 5) = q at *
  have hb : 0 ≤ (x2 + 3 * (k : Int)) % q ∧ (x2 + 3 * (k : Int)) % q < q := ⟨Int.emod_nonneg _ (by omega), Int.emod_lt_of_pos _ (by omega)⟩
  by_cases c1 : x1 % 4 = 1
  · simp (disch := wtm_at "d") [turn, b_200_0, put, ownL, hq, o_mod, o_mulL, o_mulS, o_addS, ix_abc, ix_ah, c1, sz_lt, wipeE]
  · by_cases c2 : x1 % 4 = 2
    · simp (disch := wtm_at "d") [turn, b_200_0, put, ownL, hq, o_mod, o_mulL, o_mulS, o_addS, ix_abc, ix_ah, c1, c2, sz_lt, wipeE]
    · by_cases c3 : x1 % 4 = 3
      · simp (disch := wtm_at "d") [turn, b_200_0, put, ownL, hq, o_mod, o_mulL, o_mulS, o_addS, ix_abc, ix_ah, c1, c2, c3, sz_lt, wipeE]
      · simp (disch := wtm_at "d") [turn, b_200_0, put, ownL, hq, o_mod, o_mulL, o_mulS, o_addS, ix_abc, ix_ah, c1, c2, c3, sz_lt, wipeE]
theorem names_any (xs : List Int) (hx : 4 ≤ xs.length) (many : Int) (hm : 0 ≤ many ∧ many ≤ 8) (hn : 1 ≤ n) : ∃ ts : List Str, run T Γ n 200 [.lst (xs.map D.int), .int many] = .ok (.lst (ts.map D.str)) ∧ ts.length = many.toNat ∧ (∀ t ∈ ts, NameOk t) ∧ ts.Pairwise SLt := by
  match xs, hx with
  | x0 :: x1 :: x2 :: x3 :: r, _ =>
    rw [run_at (by omega) rfl]
    have e := (for_fold (f := turn (run T Γ (n - 1)) Γ (.one 4) b_200_0) (enc := fun k : Nat => D.int (k : Nat)) (step := fun acc k => acc ++ [nameOf x0 x1 x2 x3 k])
      (E := fun acc => [some (.lst ((x0 :: x1 :: x2 :: x3 :: r).map D.int)), some (.int many), some (.str "abcdefghijklmnopqrstuvwxyz"), some (.lst (acc.map D.str)), none, none, none])
      (fun ks acc => (∀ k ∈ ks, k < 8) ∧ acc.length + ks.length < 1000)
      (fun k ks acc ⟨h1, h2⟩ => by
        rw [List.length_cons] at h2
        exact ⟨names_turn x0 x1 x2 x3 r many k acc (h1 k List.mem_cons_self) (by omega), fun j hj => h1 j (List.mem_cons_of_mem _ hj), by simp; omega⟩)
      (List.range many.toNat) [] ⟨fun k hk => by have := List.mem_range.mp hk; omega, by simp; omega⟩).1
    have ef : (List.range many.toNat).foldl (fun acc k => acc ++ [nameOf x0 x1 x2 x3 k]) [] = (List.range many.toNat).map (nameOf x0 x1 x2 x3) := by
      rw [← List.nil_append (List.map _ _), List.map_eq_flatMap]
      exact List.foldl_append_eq_append ..
    rw [ef] at e
    refine ⟨srt SLt ((List.range many.toNat).map (nameOf x0 x1 x2 x3)), ?_, by rw [srt_len]; simp, fun t ht => ?_, srt_lt srtS ?_⟩
    · simp only [List.map_cons, List.map_nil] at e
      have es := sorted_lst (e := D.str) ((List.range many.toNat).map (nameOf x0 x1 x2 x3))
      simp (disch := omega) [f_200, b_200, put, sm62_ok, rng0, e, -List.map_map, es]
    · obtain ⟨k, hk, rfl⟩ := List.mem_map.mp (srt_mem.mp ht)
      exact nameOf_ok _ _ _ _ (by have := List.mem_range.mp hk; omega)
    · rw [List.nodup_iff_pairwise_ne, List.pairwise_map]
      refine (List.nodup_range (n := many.toNat)).imp_of_mem fun {a b} ha hb hab h => hab ?_
      exact nameOf_inj x0 x1 x2 x3 (by have := List.mem_range.mp ha; omega) (by have := List.mem_range.mp hb; omega) h
end
end G
namespace G
open PySem PP PW
variable {T : Nat → Option Fn} {Γ : Nat → Option D} {n : Nat}
local macro_rules | `(tactic| wtm_at "d") => `(tactic| first | decide | omega | (simp only [List.length_map, List.length_append, List.length_cons, List.length_nil, appW_len, chr_len, repW_len]; omega))
/-- a place -/
structure Pl where
  n : Str
  a : Int
  b : Int
  c : Int
  d : Int
  deriving DecidableEq, Inhabited
def plD (p : Pl) : D := .tup [.str p.n, .int p.a, .int p.b, .int p.c, .int p.d]
/-- a tie -/
structure Ti where
  u : Str
  v : Str
  z : Int
  deriving DecidableEq, Inhabited
def tiD (t : Ti) : D := .tup [.str t.u, .str t.v, .int t.z]
structure Web where
  top : Int
  ps : List Pl
  ts : List Ti
  deriving DecidableEq, Inhabited
def webD (w : Web) : D := .tup [.int w.top, .tup (w.ps.map plD), .tup (w.ts.map tiD)]
def Web.ns (w : Web) : List Str := w.ps.map Pl.n
structure PlOk (top : Int) (p : Pl) : Prop where
  name : NameOk p.n
  a : 0 ≤ p.a ∧ p.a ≤ 99
  b : 0 ≤ p.b ∧ p.b ≤ 99
  d : 0 ≤ p.d ∧ p.d ≤ 99
  c : p.d * top ≤ p.c ∧ p.c ≤ 999
structure TiOk (ns : List Str) (t : Ti) : Prop where
  u : t.u ∈ ns
  v : t.v ∈ ns
  ne : t.u ≠ t.v
  z : 1 ≤ t.z ∧ t.z ≤ 999
structure Web.Ok (w : Web) : Prop where
  top : 1 ≤ w.top ∧ w.top ≤ 9
  len : 1 ≤ w.ps.length ∧ w.ps.length ≤ 8
  pl : ∀ p ∈ w.ps, PlOk w.top p
  srt : w.ns.Pairwise SLt
  tlen : w.ts.length ≤ 16
  ti : ∀ t ∈ w.ts, TiOk w.ns t
  tsrt : (w.ts.map fun t => (t.u, t.v)).Pairwise (PLt SLt SLt)
/-- by one of three, drawn -/
theorem ix_wide {a b c d : D} {w : Int} (h : 0 ≤ w ∧ w < 3) : ixD (.lst [a, b, c, d]) (.int w) = .ok (if w = 0 then a else if w = 1 then b else c) := by
  rcases (by omega : w = 0 ∨ w = 1 ∨ w = 2) with rfl | rfl | rfl <;> simp
theorem ite_int {p : Prop} [Decidable p] {a b : Int} : (if p then D.int a else D.int b) = D.int (if p then a else b) := by split <;> rfl
theorem place_main {xs : List Int} (x0 x1 x2 x3 x4 : Int) (h0 : 0 ≤ x0) (h1 : 0 ≤ x1) (h2 : 0 ≤ x2) (h3 : 0 ≤ x3) (name : Str) (hN : NameOk name) (top w : Int) (ht : 1 ≤ top ∧ top ≤ 9) (hw : 0 ≤ w ∧ w < 3) :
    PlOk top ⟨name, if x4 % 5 = 1 then 0 else x0 % (if w = 0 then 4 else if w = 1 then 10 else 100), if x4 % 5 = 1 then x1 / 8 % 3 else x1 % (if w = 0 then 3 else if w = 1 then 5 else 100),
      if x4 % 5 = 2 then x3 % (if w = 0 then 5 else if w = 1 then 20 else 1000) else x2 % (if w = 0 then 2 else if w = 1 then 4 else 100) * top + x3 % (if w = 0 then 5 else if w = 1 then 20 else 100),
      if x4 % 5 = 2 then 0 else x2 % (if w = 0 then 2 else if w = 1 then 4 else 100)⟩ := by
  rcases (by omega : w = 0 ∨ w = 1 ∨ w = 2) with rfl | rfl | rfl
  all_goals
    simp only [if_true, if_false, Int.reduceEq]
    constructor
    · exact hN
    · simp only; split <;> omega
    · simp only; split <;> omega
    · simp only; split <;> omega
    · simp only
      split
      · omega
      · generalize hd : x2 % _ = d
        generalize hc : x3 % _ = c
        have hdb : 0 ≤ d ∧ d ≤ 99 := by omega
        have hcb : 0 ≤ c ∧ c ≤ 99 := by omega
        have hm : d * top ≤ 99 * 9 := Int.mul_le_mul hdb.2 ht.2 (by omega) (by omega)
        omega
theorem place_204 [Has T 204 f_204] (name : Str) (hN : NameOk name) (xs : List Int) (hx : xs.length = 5) (hs : Small xs) (top w : Int) (ht : 1 ≤ top ∧ top ≤ 9) (hw : 0 ≤ w ∧ w < 3) (hn : 1 ≤ n) :
    ∃ p : Pl, run T Γ n 204 [.str name, .lst (xs.map D.int), .int top, .int w] = .ok (plD p) ∧ p.n = name ∧ PlOk top p := by
  match xs, hx with
  | [x0, x1, x2, x3, x4], _ =>
    simp only [Small, List.forall_mem_cons] at hs
    obtain ⟨h0, h1, h2, h3, h4, _⟩ := hs
    refine ⟨_, ?_, rfl, place_main (xs := []) x0 x1 x2 x3 x4 h0.1 h1.1 h2.1 h3.1 name hN top w ht hw⟩
    rw [run_at (by omega) rfl]
    generalize e1 : (if w = 0 then (4 : Int) else if w = 1 then 10 else 100) = p1
    generalize e2 : (if w = 0 then (3 : Int) else if w = 1 then 5 else 100) = p2
    generalize e3 : (if w = 0 then (2 : Int) else if w = 1 then 4 else 100) = p3
    generalize e4 : (if w = 0 then (5 : Int) else if w = 1 then 20 else 100) = p4
    generalize e5 : (if w = 0 then (5 : Int) else if w = 1 then 20 else 1000) = p5
    have q1 : 0 < p1 := by subst e1; split <;> (try split) <;> omega
    have q2 : 0 < p2 := by subst e2; split <;> (try split) <;> omega
    have q3 : 0 < p3 := by subst e3; split <;> (try split) <;> omega
    have q4 : 0 < p4 := by subst e4; split <;> (try split) <;> omega
    have q5 : 0 < p5 := by subst e5; split <;> (try split) <;> omega
    by_cases c1 : x4 % 5 = 1
    · have c2 : ¬ x4 % 5 = 2 := by omega
      simp (disch := wtm_at "d") [f_204, b_204, put, setAll, ix_wide, ite_int, e1, e2, e3, e4, e5, o_mod, o_fdiv, o_mulR, c1, plD]
    · by_cases c2 : x4 % 5 = 2 <;> simp (disch := wtm_at "d") [f_204, b_204, put, setAll, ix_wide, ite_int, e1, e2, e3, e4, e5, o_mod, o_fdiv, o_mulR, c1, c2, plD]
theorem place_219 [Has T 219 f_219] (name : Str) (hN : NameOk name) (xs : List Int) (hx : xs.length = 5) (hs : Small xs) (top w : Int) (ht : 1 ≤ top ∧ top ≤ 9) (hw : 0 ≤ w ∧ w < 3) (hn : 1 ≤ n) :
    ∃ p : Pl, run T Γ n 219 [.str name, .lst (xs.map D.int), .int top, .int w] = .ok (plD p) ∧ p.n = name ∧ PlOk top p := by
  match xs, hx with
  | [x0, x1, x2, x3, x4], _ =>
    simp only [Small, List.forall_mem_cons] at hs
    obtain ⟨h0, h1, h2, h3, h4, _⟩ := hs
    refine ⟨_, ?_, rfl, place_main (xs := []) x0 x1 x2 x3 x4 h0.1 h1.1 h2.1 h3.1 name hN top w ht hw⟩
    rw [run_at (by omega) rfl]
    generalize e1 : (if w = 0 then (4 : Int) else if w = 1 then 10 else 100) = p1
    generalize e2 : (if w = 0 then (3 : Int) else if w = 1 then 5 else 100) = p2
    generalize e3 : (if w = 0 then (2 : Int) else if w = 1 then 4 else 100) = p3
    generalize e4 : (if w = 0 then (5 : Int) else if w = 1 then 20 else 100) = p4
    generalize e5 : (if w = 0 then (5 : Int) else if w = 1 then 20 else 1000) = p5
    have q1 : 0 < p1 := by subst e1; split <;> (try split) <;> omega
    have q2 : 0 < p2 := by subst e2; split <;> (try split) <;> omega
    have q3 : 0 < p3 := by subst e3; split <;> (try split) <;> omega
    have q4 : 0 < p4 := by subst e4; split <;> (try split) <;> omega
    have q5 : 0 < p5 := by subst e5; split <;> (try split) <;> omega
    by_cases c1 : x4 % 5 = 1
    · have c2 : ¬ x4 % 5 = 2 := by omega
      simp (disch := wtm_at "d") [f_219, b_219, put, setAll, ix_wide, ite_int, e1, e2, e3, e4, e5, o_mod, o_fdiv, o_mulR, c1, plD]
    · by_cases c2 : x4 % 5 = 2 <;> simp (disch := wtm_at "d") [f_219, b_219, put, setAll, ix_wide, ite_int, e1, e2, e3, e4, e5, o_mod, o_fdiv, o_mulR, c1, c2, plD]
end G
namespace G
open PySem PP PW
variable {T : Nat → Option Fn} {Γ : Nat → Option D} {n : Nat}
local macro_rules | `(tactic| wtm_at "d") => `(tactic| first | decide | omega | (simp only [List.length_map, List.length_append, List.length_cons, List.length_nil, appW_len, chr_len, repW_len]; omega))
theorem nodup_inj {α : Type} {xs : List α} (h : xs.Nodup) {i j : Nat} (hi : i < xs.length) (hj : j < xs.length) (e : xs[i] = xs[j]) : i = j := by
  rw [List.nodup_iff_pairwise_ne, List.pairwise_iff_getElem] at h
  rcases Nat.lt_trichotomy i j with q | q | q
  · exact absurd e (h i j hi hj q)
  · exact q
  · exact absurd e.symm (h j i hj hi q)
/-! a dict whose keys are two texts -/
abbrev Two := List ((Str × Str) × Int)
def twoD (m : Two) : D := .dt (m.map fun p => ([Sum.inr p.1.1, Sum.inr p.1.2], .int p.2))
def putA {κ β : Type} [DecidableEq κ] (m : List (κ × β)) (k : κ) (v : β) : List (κ × β) := if (m.any fun p => decide (p.1 = k)) = true then m.map fun p => if p.1 = k then (p.1, v) else p else m ++ [(k, v)]
theorem putA_map {κ κ' β : Type} [DecidableEq κ] [DecidableEq κ'] {ek : κ → κ'} {ev : β → D} (h : ∀ a b, ek a = ek b → a = b) (m : List (κ × β)) (k : κ) (v : β) : putD (m.map fun p => (ek p.1, ev p.2)) (ek k) (ev v) = (putA m k v).map fun p => (ek p.1, ev p.2) := by
  unfold putD putA
  have e : ∀ a b, (ek a = ek b) = (a = b) := fun a b => propext ⟨h a b, fun q => by rw [q]⟩
  rw [List.any_map]
  have e2 : ((fun p : κ' × D => decide (p.1 = ek k)) ∘ fun p : κ × β => (ek p.1, ev p.2)) = fun p => decide (p.1 = k) := by
    funext p; simp [e]
  rw [e2]
  split
  · rw [List.map_map, List.map_map]
    congr 1
    funext p
    simp only [Function.comp, e]
    split <;> rfl
  · simp
theorem putA_keys {κ β : Type} [DecidableEq κ] (m : List (κ × β)) (k : κ) (v : β) : (putA m k v).map (·.1) = if k ∈ m.map (·.1) then m.map (·.1) else m.map (·.1) ++ [k] := by
  unfold putA
  have e : (m.any fun p => decide (p.1 = k)) = true ↔ k ∈ m.map (·.1) := by simp
  by_cases h : k ∈ m.map (·.1)
  · rw [if_pos (e.mpr h), if_pos h, List.map_map]
    congr 1
    funext p
    simp only [Function.comp]
    split <;> rfl
  · rw [if_neg (fun q => h (e.mp q)), if_neg h]; simp
theorem putA_nodup {κ β : Type} [DecidableEq κ] {m : List (κ × β)} {k : κ} {v : β} (h : (m.map (·.1)).Nodup) : ((putA m k v).map (·.1)).Nodup := by
  rw [putA_keys]
  split
  · exact h
  · rename_i hk
    rw [List.nodup_append]
    exact ⟨h, by simp, fun a ha b hb => by rw [List.mem_singleton.mp hb]; rintro rfl; exact hk ha⟩
theorem putA_len {κ β : Type} [DecidableEq κ] (m : List (κ × β)) (k : κ) (v : β) : (putA m k v).length ≤ m.length + 1 := by
  unfold putA
  split <;> simp
theorem putA_mem {κ β : Type} [DecidableEq κ] {m : List (κ × β)} {k : κ} {v : β} {p : κ × β} (h : p ∈ putA m k v) : p ∈ m ∨ p = (k, v) := by
  unfold putA at h
  split at h
  · obtain ⟨q, hq, rfl⟩ := List.mem_map.mp h
    split
    · rename_i e; right; rw [e]
    · exact .inl hq
  · rcases List.mem_append.mp h with h | h
    · exact .inl h
    · exact .inr (List.mem_singleton.mp h)
/-- what is at a key -/
def lookA {κ β : Type} [DecidableEq κ] (m : List (κ × β)) (k : κ) : Option β := (m.find? fun p => decide (p.1 = k)).map (·.2)
theorem lookA_map {κ κ' β : Type} [DecidableEq κ] [DecidableEq κ'] {ek : κ → κ'} {ev : β → D} (h : ∀ a b, ek a = ek b → a = b) (m : List (κ × β)) (k : κ) : lookK (m.map fun p => (ek p.1, ev p.2)) (ek k) = (lookA m k).map ev := by
  unfold lookK lookA
  have e : ∀ a b, (ek a = ek b) = (a = b) := fun a b => propext ⟨h a b, fun q => by rw [q]⟩
  rw [List.find?_map]
  have e2 : ((fun p : κ' × D => decide (p.1 = ek k)) ∘ fun p : κ × β => (ek p.1, ev p.2)) = fun p => decide (p.1 = k) := by
    funext p; simp [e]
  rw [e2]
  cases m.find? fun p => decide (p.1 = k) <;> rfl
theorem lookA_mem {κ β : Type} [DecidableEq κ] : ∀ {m : List (κ × β)} {k : κ}, k ∈ m.map (·.1) → ∃ v, lookA m k = some v ∧ (k, v) ∈ m
  | p :: m, k, h => by
    by_cases e : p.1 = k
    · exact ⟨p.2, by simp [lookA, e], by rw [← e]; exact List.mem_cons_self⟩
    · rw [List.map_cons, List.mem_cons] at h
      obtain ⟨v, h1, h2⟩ := lookA_mem (h.resolve_left fun q => e q.symm)
      exact ⟨v, by simpa [lookA, List.find?_cons, e] using h1, List.mem_cons_of_mem _ h2⟩
theorem key2_inj : ∀ a b : Str × Str, ([Sum.inr a.1, Sum.inr a.2] : List L2.Key) = [Sum.inr b.1, Sum.inr b.2] → a = b := by
  rintro ⟨a1, a2⟩ ⟨b1, b2⟩ h
  simpa using h
theorem two_put {m : Two} {u v : Str} {z : Int} (h : m.length < 16777216) : putD' (twoD m) (.tup [.str u, .str v]) (.int z) = some (twoD (putA m (u, v) z)) := by
  have e := putA_map (ek := fun p : Str × Str => ([Sum.inr p.1, Sum.inr p.2] : List L2.Key)) (ev := D.int) key2_inj m (u, v) z
  show (if (m.map fun p => (([Sum.inr p.1.1, Sum.inr p.1.2] : List L2.Key), D.int p.2)).length < sizeLine then some (D.dt (putD (m.map fun p => (([Sum.inr p.1.1, Sum.inr p.1.2] : List L2.Key), D.int p.2)) [Sum.inr u, Sum.inr v] (.int z))) else none) = _
  rw [if_pos (by rw [List.length_map, sizeLine_eq]; exact h), e]; rfl
theorem two_ix {m : Two} {u v : Str} {z : Int} (h : lookA m (u, v) = some z) : ixD (twoD m) (.tup [.str u, .str v]) = .ok (.int z) := by
  have e := lookA_map (ek := fun p : Str × Str => ([Sum.inr p.1, Sum.inr p.2] : List L2.Key)) (ev := D.int) key2_inj m (u, v)
  show (match (some (lookK (m.map fun p => (([Sum.inr p.1.1, Sum.inr p.1.2] : List L2.Key), D.int p.2)) [Sum.inr u, Sum.inr v]) : Option (Option D)) with
    | some (some v) => R.ok v
    | _ => R.bad) = _
  rw [e, h]; rfl
theorem two_sorted (m : Two) : biD .sorted [twoD m] = .ok (.lst ((srt (PLt SLt SLt) (m.map (·.1))).map fun p : Str × Str => D.tup [.str p.1, .str p.2])) := by
  have e : (m.map fun p => (([Sum.inr p.1.1, Sum.inr p.1.2] : List L2.Key), D.int p.2)).map (fun p => D.tup (p.1.map keyD)) = (m.map (·.1)).map fun p : Str × Str => D.tup [.str p.1, .str p.2] := by
    rw [List.map_map, List.map_map]; rfl
  show R.when (sortOk ((m.map fun p => (([Sum.inr p.1.1, Sum.inr p.1.2] : List L2.Key), D.int p.2)).map (fun p => D.tup (p.1.map keyD)))) (R.ok (D.lst (sortD ((m.map fun p => (([Sum.inr p.1.1, Sum.inr p.1.2] : List L2.Key), D.int p.2)).map (fun p => D.tup (p.1.map keyD)))))) = _
  rw [e, SrtOk.ok (e := fun p : Str × Str => D.tup [.str p.1, .str p.2]), sortD_map (e := fun p : Str × Str => D.tup [.str p.1, .str p.2])]; rfl
@[simp] theorem two_len (m : Two) : biD .len [twoD m] = .ok (.int m.length) := by
  show R.ok (D.int ((m.map _).length : Nat)) = _
  rw [List.length_map]
/-- such a dict of ties -/
structure TwoOk (ns : List Str) (m : Two) : Prop where
  nd : (m.map (·.1)).Nodup
  ti : ∀ p ∈ m, TiOk ns ⟨p.1.1, p.1.2, p.2⟩
theorem TwoOk.put {ns : List Str} {m : Two} {u v : Str} {z : Int} (h : TwoOk ns m) (hu : u ∈ ns) (hv : v ∈ ns) (ne : u ≠ v) (hz : 1 ≤ z ∧ z ≤ 999) : TwoOk ns (putA m (u, v) z) :=
  ⟨putA_nodup h.nd, fun p hp => by
    rcases putA_mem hp with hp | rfl
    · exact h.ti p hp
    · exact ⟨hu, hv, ne, hz⟩⟩
section
variable [Has T 198 f_198] [Has T 199 f_199] [Has T 202 f_202]
theorem ties_turn (ns : List Int) (ts : List Str) (h0 : 1 ≤ ts.length ∧ ts.length ≤ 8) (hnd : ts.Nodup) (at_ many w : Int) (k : Nat) (hat : 0 ≤ at_ + k ∧ at_ + k < 1000000) (hw : 0 ≤ w ∧ w < 3) (m : Two) (hm : TwoOk ts m) (hl : m.length < 100000) (hn : 2 ≤ n) :
    ∃ m', turn (run T Γ (n - 1)) Γ (.one 6) b_202_0 (.int k) [some (.lst (ts.map D.str)), some (.fl (ns.map D.int)), some (.int at_), some (.int many), some (.int w), some (twoD m), none, none, none, none, none, none] =
      .nx [some (.lst (ts.map D.str)), some (.fl (ns.map D.int)), some (.int at_), some (.int many), some (.int w), some (twoD m'), none, none, none, none, none, none] ∧ TwoOk ts m' ∧ m'.length ≤ m.length + 2 := by
  obtain ⟨z, ez⟩ := cell_any (T := T) (Γ := Γ) (n := n - 1) ns (at_ + k) hat (by omega)
  obtain ⟨xs, ex, hx, hs⟩ := numbers_any (T := T) (Γ := Γ) (n := n - 1) z 5 (by omega) (by omega)
  match xs, hx with
  | [x0, x1, x2, x3, x4], _ =>
    simp only [Small, List.forall_mem_cons] at hs
    obtain ⟨p0, p1, p2, p3, p4, -⟩ := hs
    have o1 : 0 ≤ x0 % (ts.length : Int) ∧ x0 % (ts.length : Int) < ts.length := ⟨Int.emod_nonneg _ (by omega), Int.emod_lt_of_pos _ (by omega)⟩
    generalize ho1 : x0 % (ts.length : Int) = one at o1
    generalize hmx : (if 1 < (ts.length : Int) - 1 then (ts.length : Int) - 1 else 1) = mx
    have hmx0 : 0 < mx := by subst hmx; split <;> omega
    have o2 : 0 ≤ (one + 1 + x1 % mx) % (ts.length : Int) ∧ (one + 1 + x1 % mx) % (ts.length : Int) < ts.length := ⟨Int.emod_nonneg _ (by omega), Int.emod_lt_of_pos _ (by omega)⟩
    generalize ho2 : (one + 1 + x1 % mx) % (ts.length : Int) = other at o2
    have hz : ∃ sz, ixD (.lst [.int (1 + x2 % 4), .int (1 + x2 % 30), .int (1 + x2 % 999), .int (1 + x2 % 999)]) (.int w) = .ok (.int sz) ∧ 1 ≤ sz ∧ sz ≤ 999 := by
      rcases (by omega : w = 0 ∨ w = 1 ∨ w = 2) with rfl | rfl | rfl
      · exact ⟨1 + x2 % 4, by simp, by omega⟩
      · exact ⟨1 + x2 % 30, by simp, by omega⟩
      · exact ⟨1 + x2 % 999, by simp, by omega⟩
    obtain ⟨sz, esz, hsz⟩ := hz
    have hk1 : one.toNat < ts.length := by omega
    have hk2 : other.toNat < ts.length := by omega
    have e1 : ixD (.lst (ts.map D.str)) (.int one) = .ok (.str ts[one.toNat]) := by
      rw [ix_lstM (by omega), List.getD, List.getElem?_eq_getElem hk1]; rfl
    have e2 : ixD (.lst (ts.map D.str)) (.int other) = .ok (.str ts[other.toNat]) := by
      rw [ix_lstM (by omega), List.getD, List.getElem?_eq_getElem hk2]; rfl
    have hne : one ≠ other → ts[one.toNat] ≠ ts[other.toNat] := fun h q => h (by
      have := nodup_inj hnd hk1 hk2 q
      omega)
    have hu : ts[one.toNat] ∈ ts := List.getElem_mem hk1
    have hv : ts[other.toNat] ∈ ts := List.getElem_mem hk2
    generalize ts[one.toNat] = u at *
    generalize ts[other.toNat] = v at *
    have q1 := two_put (m := m) (u := u) (v := v) (z := sz) (by omega)
    have l1 := putA_len m (u, v) sz
    have q2 := two_put (m := putA m (u, v) sz) (u := v) (v := u) (z := 1 + x4 % 9) (by omega)
    have l2 := putA_len (putA m (u, v) sz) (v, u) (1 + x4 % 9)
    simp only [List.map_cons, List.map_nil] at ex
    clear hnd hk1 hk2
    by_cases c1 : one = other
    · subst c1
      refine ⟨m, ?_, hm, by omega⟩
      simp (disch := wtm_at "d") [turn, b_202_0, put, ez, ex, o_mod, ho1, hmx, ho2, esz, wipeE]
    · have t1 := hm.put hu hv (hne c1) hsz
      by_cases c2 : x3 % 3 = 1
      · by_cases c3 : ((putA m (u, v) sz).length : Int) < 16
        · refine ⟨putA (putA m (u, v) sz) (v, u) (1 + x4 % 9), ?_, t1.put hv hu (Ne.symm (hne c1)) (by omega), by omega⟩
          simp (disch := wtm_at "d") [turn, b_202_0, put, ez, ex, o_mod, ho1, hmx, ho2, esz, wipeE, c1, c2, c3, e1, e2, q1, q2]
        · refine ⟨putA m (u, v) sz, ?_, t1, by omega⟩
          simp (disch := wtm_at "d") [turn, b_202_0, put, ez, ex, o_mod, ho1, hmx, ho2, esz, wipeE, c1, c2, c3, e1, e2, q1, q2]
      · refine ⟨putA m (u, v) sz, ?_, t1, by omega⟩
        simp (disch := wtm_at "d") [turn, b_202_0, put, ez, ex, o_mod, ho1, hmx, ho2, esz, wipeE, c1, c2, e1, e2, q1, q2]
theorem ties_any (ns : List Int) (ts : List Str) (h0 : 1 ≤ ts.length ∧ ts.length ≤ 8) (hsrt : ts.Pairwise SLt) (at_ many w : Int) (hat : 0 ≤ at_ ∧ at_ < 100000) (hmany : 0 ≤ many ∧ many < 1000) (hw : 0 ≤ w ∧ w < 3) (hn : 2 ≤ n) :
    ∃ l : List Ti, run T Γ n 202 [.lst (ts.map D.str), .fl (ns.map D.int), .int at_, .int many, .int w] = .ok (.tup (l.map tiD)) ∧ l.length ≤ 16 ∧ (∀ t ∈ l, TiOk ts t) ∧ (l.map fun t => (t.u, t.v)).Pairwise (PLt SLt SLt) := by
  have hnd : ts.Nodup := hsrt.imp fun {a b} h q => by rw [q] at h; exact srtS.irr _ h
  obtain ⟨m, e, hm, hl⟩ := for_inv (f := turn (run T Γ (n - 1)) Γ (.one 6) b_202_0) (enc := fun k : Nat => D.int k)
    (E := fun m : Two => [some (.lst (ts.map D.str)), some (.fl (ns.map D.int)), some (.int at_), some (.int many), some (.int w), some (twoD m), none, none, none, none, none, none])
    (fun ks m => (∀ k ∈ ks, k < 1000) ∧ TwoOk ts m ∧ m.length + 2 * ks.length < 10000)
    (fun k ks m ⟨h1, h2, h3⟩ => by
      have hk := h1 k List.mem_cons_self
      rw [List.length_cons] at h3
      obtain ⟨m', e, t, l⟩ := ties_turn (T := T) (Γ := Γ) (n := n) ns ts h0 hnd at_ many w k (by omega) hw m h2 (by omega) hn
      exact ⟨m', e, fun j hj => h1 j (List.mem_cons_of_mem _ hj), t, by omega⟩)
    (List.range many.toNat) [] ⟨fun k hk => by have := List.mem_range.mp hk; omega, ⟨by simp, fun p hp => nomatch hp⟩, by simp; omega⟩
  have hsort := srt_perm (PLt SLt SLt) (m.map (·.1))
  have hlt : (srt (PLt SLt SLt) (m.map (·.1))).Pairwise (PLt SLt SLt) := srt_lt (srt2 (S := srtS) (S' := srtS)) hl.1.nd
  have hget : ∀ p ∈ srt (PLt SLt SLt) (m.map (·.1)), ∃ z, lookA m p = some z ∧ (p, z) ∈ m := fun p hp => lookA_mem (hsort.mem_iff.mp hp)
  let tie : Str × Str → Ti := fun p => ⟨p.1, p.2, (lookA m p).getD 0⟩
  refine ⟨((srt (PLt SLt SLt) (m.map (·.1))).map tie).take 16, ?_, by rw [List.length_take]; omega, fun t ht => ?_, ?_⟩
  · rw [run_at (by omega) rfl]
    have ec : ∀ ρ : PP.Env, (ρ = [some (.lst (ts.map D.str)), some (.fl (ns.map D.int)), some (.int at_), some (.int many), some (.int w), some (twoD m), none, none, none, none, none, none]) →
        mapR (lcI (run T Γ (n - 1)) Γ (.bin .add (.var 11) (.tup (.cons (.ix (.var 5) (.var 11)) .nil))) (.one 11) .nil [11] ρ) ((srt (PLt SLt SLt) (m.map (·.1))).map fun p : Str × Str => D.tup [.str p.1, .str p.2]) = .ok (((srt (PLt SLt SLt) (m.map (·.1))).map tie).map tiD) := by
      rintro ρ rfl
      rw [mapR_map, List.map_map]
      refine mapR_ok fun p hp => ?_
      obtain ⟨z, ez, _⟩ := hget p hp
      have ei := two_ix (m := m) (u := p.1) (v := p.2) (z := z) ez
      simp (disch := wtm_at "d") [lcI, wipeE, ofE, ei, o_addT, tie, tiD, ez]
    have e0 : (D.dt ([] : List (List L2.Key × D))) = twoD [] := rfl
    have hlen : fits (srt (PLt SLt SLt) (m.map (·.1))).length = true := fits_ok (by rw [srt_len, List.length_map]; have := hl.2; simp only [List.length_nil] at this; omega)
    simp (disch := wtm_at "d") [f_202, b_202, put, e0, sm62_ok, rng0, e, two_sorted, ec _ rfl, hlen, cut_to, -List.map_map]
  · obtain ⟨p, hp, rfl⟩ := List.mem_map.mp (List.mem_of_mem_take ht)
    obtain ⟨z, ez, hz⟩ := hget p hp
    have := hl.1.ti _ hz
    simpa [tie, ez] using this
  · rw [List.map_take, List.map_map]
    have : ((fun t : Ti => (t.u, t.v)) ∘ tie) = id := rfl
    rw [this, List.map_id]
    exact hlt.sublist (List.take_sublist _ _)
end
end G
namespace G
open PySem PP PW
variable {T : Nat → Option Fn} {Γ : Nat → Option D} {n : Nat}
local macro_rules | `(tactic| wtm_at "d") => `(tactic| first | decide | omega | (simp only [List.length_map, List.length_append, List.length_cons, List.length_nil, appW_len, chr_len, repW_len]; omega))
theorem ix_five {a b c d e : D} {w : Int} (h : 0 ≤ w ∧ w < 5) : ixD (.lst [a, b, c, d, e]) (.int w) = .ok (if w = 0 then a else if w = 1 then b else if w = 2 then c else if w = 3 then d else e) := by
  rcases (by omega : w = 0 ∨ w = 1 ∨ w = 2 ∨ w = 3 ∨ w = 4) with rfl | rfl | rfl | rfl | rfl <;> simp
section
variable [Has T 198 f_198] [Has T 199 f_199] [Has T 200 f_200] [Has T 202 f_202] [Has T 204 f_204] [Has T 206 f_206]
theorem web_206 (ns : List Int) (at_ most : Int) (hat : 0 ≤ at_ ∧ at_ < 10000) (hm : 1 ≤ most ∧ most ≤ 8) (hn : 3 ≤ n) :
    ∃ w : Web, run T Γ n 206 [.fl (ns.map D.int), .int at_, .int most] = .ok (webD w) ∧ w.Ok ∧ w.ps.length ≤ most := by
  obtain ⟨z, ez⟩ := cell_any (T := T) (Γ := Γ) (n := n - 1) ns at_ (by omega) (by omega)
  obtain ⟨xs, ex, hx, hs⟩ := numbers_any (T := T) (Γ := Γ) (n := n - 1) z 12 (by omega) (by omega)
  match xs, hx with
  | [x0, x1, x2, x3, x4, x5, x6, x7, x8, x9, x10, x11], _ =>
    have hb5 : 0 ≤ x5 % most ∧ x5 % most < most := ⟨Int.emod_nonneg _ (by omega), Int.emod_lt_of_pos _ (by omega)⟩
    generalize htop : 1 + x4 % 9 = top
    generalize hmany : 1 + x5 % most = many
    obtain ⟨wide, ew, hw⟩ : ∃ w : Int, ixD (.lst [.int 0, .int 1, .int 0, .int 1, .int 2]) (.int (x6 % 5)) = .ok (.int w) ∧ 0 ≤ w ∧ w < 3 := by
      rcases (by omega : x6 % 5 = 0 ∨ x6 % 5 = 1 ∨ x6 % 5 = 2 ∨ x6 % 5 = 3 ∨ x6 % 5 = 4) with h | h | h | h | h <;> rw [h]
      · exact ⟨0, by simp, by omega⟩
      · exact ⟨1, by simp, by omega⟩
      · exact ⟨0, by simp, by omega⟩
      · exact ⟨1, by simp, by omega⟩
      · exact ⟨2, by simp, by omega⟩
    obtain ⟨ts, et, lt, hok, hsrt⟩ := names_any (T := T) (Γ := Γ) (n := n - 1) [x0, x1, x2, x3, x4, x5, x6, x7, x8, x9, x10, x11] (by simp) many (by omega) (by omega)
    have hb7 : 0 ≤ x7 % (2 * many + 1) ∧ x7 % (2 * many + 1) < 2 * many + 1 := ⟨Int.emod_nonneg _ (by omega), Int.emod_lt_of_pos _ (by omega)⟩
    obtain ⟨l, el, hl, hti, hts⟩ := ties_any (T := T) (Γ := Γ) (n := n - 1) ns ts (by omega) hsrt (at_ + 1 + many) (x7 % (2 * many + 1)) wide (by omega) (by omega) hw (by omega)
    simp only [List.map_cons, List.map_nil] at ex et
    obtain ⟨ps, ep, h1, h2⟩ := for_inv (f := turn (run T Γ (n - 1)) Γ (.one 9) b_206_0) (enc := fun k : Nat => D.int k)
      (E := fun ps : List Pl => [some (.fl (ns.map D.int)), some (.int at_), some (.int most), some (.lst [.int x0, .int x1, .int x2, .int x3, .int x4, .int x5, .int x6, .int x7, .int x8, .int x9, .int x10, .int x11]), some (.int top), some (.int many), some (.int wide), some (.lst (ts.map D.str)), some (.lst (ps.map plD)), none, none])
      (fun ks ps => ks = List.range' ps.length ks.length ∧ ps.length + ks.length = ts.length ∧ ps.map Pl.n = ts.take ps.length ∧ ∀ p ∈ ps, PlOk top p)
      (fun k ks ps ⟨q1, q2, q3, q4⟩ => by
        rw [List.length_cons] at q1 q2
        rw [List.range'_succ, List.cons.injEq] at q1
        obtain ⟨rfl, q1⟩ := q1
        have hk : ps.length < ts.length := by omega
        obtain ⟨z, ez⟩ := cell_any (T := T) (Γ := Γ) (n := n - 1) ns (at_ + 1 + (ps.length : Int)) (by omega) (by omega)
        obtain ⟨xs, ex, hx, hs⟩ := numbers_any (T := T) (Γ := Γ) (n := n - 1) z 5 (by omega) (by omega)
        obtain ⟨p, ep, hp, hpo⟩ := place_204 (T := T) (Γ := Γ) (n := n - 1) ts[ps.length] (hok _ (List.getElem_mem hk)) xs hx hs top wide (by omega) hw (by omega)
        have ei : ixD (.lst (ts.map D.str)) (.int (ps.length : Int)) = .ok (.str ts[ps.length]) := by
          rw [ix_lstM (by omega), List.getD, List.getElem?_eq_getElem (by simpa using hk)]; rfl
        refine ⟨ps ++ [p], ?_, ?_, by simp; omega, ?_, fun r hr => ?_⟩
        · simp (disch := wtm_at "d") [turn, b_206_0, put, ownL, ez, ex, ei, ep, sz_lt, wipeE]
        · rw [List.length_append]; exact q1
        · rw [List.map_append, q3, List.length_append, List.map_cons, List.map_nil, hp, List.length_singleton, List.take_add_one, List.getElem?_eq_getElem hk]; rfl
        · rcases List.mem_append.mp hr with hr | hr
          · exact q4 r hr
          · rw [List.mem_singleton.mp hr]; exact hpo)
      (List.range many.toNat) [] ⟨by rw [List.length_range, List.range_eq_range']; rfl, by rw [List.length_range, lt]; simp, rfl, fun p hp => nomatch hp⟩
    obtain ⟨-, q2, q3, q4⟩ := And.intro h1 h2
    simp only [List.length_nil, Nat.add_zero] at q2
    rw [q2, List.take_length] at q3
    refine ⟨⟨top, ps, l⟩, ?_, ⟨by simp only; omega, by simp only; omega, q4, ?_, hl, ?_, hts⟩, by simp only; omega⟩
    · rw [run_at (by omega) rfl]
      simp (disch := wtm_at "d") [f_206, b_206, put, ez, ex, o_mod, o_mulL, ew, et, htop, hmany, el, sm62_ok, rng0, webD]
      simp only [List.map_nil] at ep
      rw [ep]
      simp (disch := wtm_at "d") [o_mod, o_mulL, el]
    · show (ps.map Pl.n).Pairwise SLt
      rw [q3]; exact hsrt
    · intro t ht
      show TiOk (ps.map Pl.n) t
      rw [q3]; exact hti t ht
end
section
variable [Has T 198 f_198] [Has T 199 f_199] [Has T 200 f_200] [Has T 202 f_202] [Has T 219 f_219] [Has T 220 f_220]
theorem web_220 (ns : List Int) (at_ most : Int) (hat : 0 ≤ at_ ∧ at_ < 10000) (hm : 1 ≤ most ∧ most ≤ 8) (hn : 3 ≤ n) :
    ∃ w : Web, run T Γ n 220 [.fl (ns.map D.int), .int at_, .int most] = .ok (webD w) ∧ w.Ok ∧ w.ps.length ≤ most := by
  obtain ⟨z, ez⟩ := cell_any (T := T) (Γ := Γ) (n := n - 1) ns at_ (by omega) (by omega)
  obtain ⟨xs, ex, hx, hs⟩ := numbers_any (T := T) (Γ := Γ) (n := n - 1) z 12 (by omega) (by omega)
  match xs, hx with
  | [x0, x1, x2, x3, x4, x5, x6, x7, x8, x9, x10, x11], _ =>
    have hb5 : 0 ≤ x5 % most ∧ x5 % most < most := ⟨Int.emod_nonneg _ (by omega), Int.emod_lt_of_pos _ (by omega)⟩
    generalize htop : 1 + x4 % 9 = top
    generalize hmany : 1 + x5 % most = many
    obtain ⟨wide, ew, hw⟩ : ∃ w : Int, ixD (.lst [.int 0, .int 1, .int 0, .int 1, .int 2]) (.int (x6 % 5)) = .ok (.int w) ∧ 0 ≤ w ∧ w < 3 := by
      rcases (by omega : x6 % 5 = 0 ∨ x6 % 5 = 1 ∨ x6 % 5 = 2 ∨ x6 % 5 = 3 ∨ x6 % 5 = 4) with h | h | h | h | h <;> rw [h]
      · exact ⟨0, by simp, by omega⟩
      · exact ⟨1, by simp, by omega⟩
      · exact ⟨0, by simp, by omega⟩
      · exact ⟨1, by simp, by omega⟩
      · exact ⟨2, by simp, by omega⟩
    obtain ⟨ts, et, lt, hok, hsrt⟩ := names_any (T := T) (Γ := Γ) (n := n - 1) [x0, x1, x2, x3, x4, x5, x6, x7, x8, x9, x10, x11] (by simp) many (by omega) (by omega)
    have hb7 : 0 ≤ x7 % (2 * many + 1) ∧ x7 % (2 * many + 1) < 2 * many + 1 := ⟨Int.emod_nonneg _ (by omega), Int.emod_lt_of_pos _ (by omega)⟩
    obtain ⟨l, el, hl, hti, hts⟩ := ties_any (T := T) (Γ := Γ) (n := n - 1) ns ts (by omega) hsrt (at_ + 1 + many) (x7 % (2 * many + 1)) wide (by omega) (by omega) hw (by omega)
    simp only [List.map_cons, List.map_nil] at ex et
    obtain ⟨ps, ep, h1, h2⟩ := for_inv (f := turn (run T Γ (n - 1)) Γ (.one 9) b_220_0) (enc := fun k : Nat => D.int k)
      (E := fun ps : List Pl => [some (.fl (ns.map D.int)), some (.int at_), some (.int most), some (.lst [.int x0, .int x1, .int x2, .int x3, .int x4, .int x5, .int x6, .int x7, .int x8, .int x9, .int x10, .int x11]), some (.int top), some (.int many), some (.int wide), some (.lst (ts.map D.str)), some (.lst (ps.map plD)), none, none])
      (fun ks ps => ks = List.range' ps.length ks.length ∧ ps.length + ks.length = ts.length ∧ ps.map Pl.n = ts.take ps.length ∧ ∀ p ∈ ps, PlOk top p)
      (fun k ks ps ⟨q1, q2, q3, q4⟩ => by
        rw [List.length_cons] at q1 q2
        rw [List.range'_succ, List.cons.injEq] at q1
        obtain ⟨rfl, q1⟩ := q1
        have hk : ps.length < ts.length := by omega
        obtain ⟨z, ez⟩ := cell_any (T := T) (Γ := Γ) (n := n - 1) ns (at_ + 1 + (ps.length : Int)) (by omega) (by omega)
        obtain ⟨xs, ex, hx, hs⟩ := numbers_any (T := T) (Γ := Γ) (n := n - 1) z 5 (by omega) (by omega)
        obtain ⟨p, ep, hp, hpo⟩ := place_219 (T := T) (Γ := Γ) (n := n - 1) ts[ps.length] (hok _ (List.getElem_mem hk)) xs hx hs top wide (by omega) hw (by omega)
        have ei : ixD (.lst (ts.map D.str)) (.int (ps.length : Int)) = .ok (.str ts[ps.length]) := by
          rw [ix_lstM (by omega), List.getD, List.getElem?_eq_getElem (by simpa using hk)]; rfl
        refine ⟨ps ++ [p], ?_, ?_, by simp; omega, ?_, fun r hr => ?_⟩
        · simp (disch := wtm_at "d") [turn, b_220_0, put, ownL, ez, ex, ei, ep, sz_lt, wipeE]
        · rw [List.length_append]; exact q1
        · rw [List.map_append, q3, List.length_append, List.map_cons, List.map_nil, hp, List.length_singleton, List.take_add_one, List.getElem?_eq_getElem hk]; rfl
        · rcases List.mem_append.mp hr with hr | hr
          · exact q4 r hr
          · rw [List.mem_singleton.mp hr]; exact hpo)
      (List.range many.toNat) [] ⟨by rw [List.length_range, List.range_eq_range']; rfl, by rw [List.length_range, lt]; simp, rfl, fun p hp => nomatch hp⟩
    obtain ⟨-, q2, q3, q4⟩ := And.intro h1 h2
    simp only [List.length_nil, Nat.add_zero] at q2
    rw [q2, List.take_length] at q3
    refine ⟨⟨top, ps, l⟩, ?_, ⟨by simp only; omega, by simp only; omega, q4, ?_, hl, ?_, hts⟩, by simp only; omega⟩
    · rw [run_at (by omega) rfl]
      simp (disch := wtm_at "d") [f_220, b_220, put, ez, ex, o_mod, o_mulL, ew, et, htop, hmany, el, sm62_ok, rng0, webD]
      simp only [List.map_nil] at ep
      rw [ep]
      simp (disch := wtm_at "d") [o_mod, o_mulL, el]
    · show (ps.map Pl.n).Pairwise SLt
      rw [q3]; exact hsrt
    · intro t ht
      show TiOk (ps.map Pl.n) t
      rw [q3]; exact hti t ht
end
end G
/-! Parts of a list, as lists: plain. -/
namespace PW
open PP
section
variable {α : Type}
theorem concat_ind {P : List α → Prop} (h0 : P []) (h1 : ∀ ts t, P ts → P (ts ++ [t])) (ts : List α) : P ts := by
  have : ∀ (n : Nat) (ts : List α), ts.length = n → P ts := by
    intro n
    induction n with
    | zero => intro ts h; rw [List.length_eq_zero_iff.mp h]; exact h0
    | succ n ih =>
      intro ts h
      have hne : ts ≠ [] := by intro q; rw [q] at h; cases h
      rw [← List.dropLast_concat_getLast hne]
      exact h1 _ _ (ih _ (by rw [List.length_dropLast, h]; rfl))
  exact this _ ts rfl
/-- all parts, the first thing turns quickest -/
def subs (ts : List α) : List (List α) := ts.foldl (fun acc t => acc ++ acc.map (· ++ [t])) [[]]
theorem subs_concat (ts : List α) (t : α) : subs (ts ++ [t]) = subs ts ++ (subs ts).map (· ++ [t]) := by
  unfold subs
  rw [List.foldl_append]; rfl
theorem subs_len (ts : List α) : (subs ts).length = 2 ^ ts.length := by
  induction ts using concat_ind with
  | h0 => rfl
  | h1 ts t ih => rw [subs_concat, List.length_append, List.length_map, ih, List.length_append, List.length_singleton, Nat.pow_succ]; omega
theorem mem_subs {ts s : List α} : s ∈ subs ts ↔ s.Sublist ts := by
  induction ts using concat_ind generalizing s with
  | h0 => simp [subs]
  | h1 ts t ih =>
    rw [subs_concat, List.mem_append, List.mem_map, ih, List.sublist_append_iff]
    constructor
    · rintro (h | ⟨u, hu, rfl⟩)
      · exact ⟨s, [], by simp, h, by simp⟩
      · exact ⟨u, [t], rfl, ih.mp hu, List.Sublist.refl _⟩
    · rintro ⟨u, v, rfl, h1, h2⟩
      have h3 : v = [] ∨ v = [t] := by
        cases h2 with
        | cons _ h => exact .inl (List.sublist_nil.mp h)
        | cons_cons _ h => exact .inr (by rw [List.sublist_nil.mp h])
      rcases h3 with rfl | rfl
      · left; simpa using h1
      · right; exact ⟨u, ih.mpr h1, rfl⟩
theorem subs_nodup {ts : List α} (h : ts.Nodup) : (subs ts).Nodup := by
  induction ts using concat_ind with
  | h0 => simp [subs]
  | h1 ts t ih =>
    rw [List.nodup_append] at h
    obtain ⟨h1, _, h2⟩ := h
    rw [subs_concat, List.nodup_append]
    refine ⟨ih h1, ?_, fun a ha b hb e => ?_⟩
    · rw [List.nodup_iff_pairwise_ne, List.pairwise_map]
      exact (ih h1).imp fun {a b} q e => q (List.append_cancel_right e)
    · obtain ⟨c, hc, rfl⟩ := List.mem_map.mp hb
      subst e
      have := (mem_subs.mp ha).subset (a := t) (by simp)
      exact h2 t this t (by simp) rfl
variable [Inhabited α]
/-- the part by the bits of a number -/
def pick (ts : List α) (m : Nat) : List α := ((List.range ts.length).filter fun k => decide (m / 2 ^ k % 2 = 1)).map fun k => ts.getD k default
theorem pick_low {ts : List α} {t : α} {m : Nat} (h : m < 2 ^ ts.length) : pick (ts ++ [t]) m = pick ts m := by
  unfold pick
  rw [List.length_append, List.length_singleton, List.range_succ, List.filter_append, List.map_append]
  have e : (List.filter (fun k => decide (m / 2 ^ k % 2 = 1)) [ts.length]) = [] := by
    have : m / 2 ^ ts.length = 0 := Nat.div_eq_of_lt h
    simp [this]
  rw [e, List.map_nil, List.append_nil]
  apply List.map_congr_left
  intro k hk
  have hk := List.mem_range.mp (List.mem_filter.mp hk).1
  rw [List.getD, List.getD, List.getElem?_append_left hk]
theorem pick_high {ts : List α} {t : α} {m : Nat} (h : m < 2 ^ ts.length) : pick (ts ++ [t]) (2 ^ ts.length + m) = pick ts m ++ [t] := by
  unfold pick
  rw [List.length_append, List.length_singleton, List.range_succ, List.filter_append, List.map_append]
  have e : (List.filter (fun k => decide ((2 ^ ts.length + m) / 2 ^ k % 2 = 1)) [ts.length]) = [ts.length] := by
    have h2 : (2 ^ ts.length + m) / 2 ^ ts.length = 1 := by
      rw [Nat.add_div_left _ (Nat.two_pow_pos _), Nat.div_eq_of_lt h]
    simp [h2]
  rw [e]
  congr 1
  · have e2 : (List.range ts.length).filter (fun k => decide ((2 ^ ts.length + m) / 2 ^ k % 2 = 1)) = (List.range ts.length).filter (fun k => decide (m / 2 ^ k % 2 = 1)) := by
      apply List.filter_congr
      intro k hk
      have hk := List.mem_range.mp hk
      obtain ⟨j, hj⟩ : ∃ j, ts.length = k + 1 + j := ⟨ts.length - (k + 1), by omega⟩
      have : (2 ^ ts.length + m) / 2 ^ k = 2 * 2 ^ j + m / 2 ^ k := by
        rw [hj, Nat.pow_add, Nat.pow_succ, Nat.mul_assoc, Nat.mul_add_div (Nat.two_pow_pos k)]
      rw [this]
      congr 2
      omega
    rw [e2]
    apply List.map_congr_left
    intro k hk
    have hk := List.mem_range.mp (List.mem_filter.mp hk).1
    rw [List.getD, List.getD, List.getElem?_append_left hk]
  · simp
theorem pick_all (ts : List α) : (List.range (2 ^ ts.length)).map (pick ts) = subs ts := by
  induction ts using concat_ind with
  | h0 => rfl
  | h1 ts t ih =>
    rw [subs_concat, ← ih, List.length_append, List.length_singleton, Nat.pow_succ, Nat.mul_two, List.range_add, List.map_append, List.map_map]
    congr 1
    · apply List.map_congr_left
      intro m hm
      exact pick_low (List.mem_range.mp hm)
    · rw [List.map_map]
      apply List.map_congr_left
      intro m hm
      exact pick_high (List.mem_range.mp hm)
end
/-- each next thing is greater: all are -/
theorem rises {α : Type} [Inhabited α] {lt : α → α → Prop} (tr : ∀ a b c, lt a b → lt b c → lt a c) : ∀ xs : List α, (∀ k, k < xs.length - 1 → lt (xs.getD k default) (xs.getD (k + 1) default)) ↔ xs.Pairwise lt
  | [] => by simp
  | [x] => by simp
  | x :: y :: r => by
    have ih := rises tr (y :: r)
    constructor
    · intro h
      have h2 := ih.mp fun k hk => h (k + 1) (by simp only [List.length_cons] at hk ⊢; omega)
      refine List.pairwise_cons.mpr ⟨fun z hz => ?_, h2⟩
      have hxy : lt x y := h 0 (by simp)
      rcases List.mem_cons.mp hz with rfl | hz
      · exact hxy
      · exact tr _ _ _ hxy ((List.pairwise_cons.mp h2).1 z hz)
    · intro h k hk
      have h' := List.pairwise_cons.mp h
      cases k with
      | zero => exact h'.1 y (by simp)
      | succ k => exact ih.mpr h'.2 k (by simp only [List.length_cons] at hk ⊢; omega)
end PW
/-! Texts of defs, by their numbers. -/
namespace G
open PySem PP
/-- is_whole -/
def b_16 : Ss :=
    .cons (.ret (.and_ (.isi (.var 0) .int) (.not_ (.isi (.var 0) .bool)))) <|
    .nil

def f_16 : Fn := ⟨"is_whole", 1, ["thing"], b_16, false⟩

def b_17_0 : Ss :=
    .cons (.par [2, 3] (.cons (.var 3) (.cons (.bin .mod (.var 2) (.var 3)) .nil))) <|
    .nil

/-- shared_part -/
def b_17 : Ss :=
    .cons (.par [2, 3] (.cons (.bi .abs (.cons (.var 0) .nil)) (.cons (.bi .abs (.cons (.var 1) .nil)) .nil))) <|
    .cons (.while_ (nSlot 3) (.cmp .gt (.var 3) (.int 0)) b_17_0) <|
    .cons (.ret (.var 2)) <|
    .nil

def f_17 : Fn := ⟨"shared_part", 2, ["one", "other", "high", "low"], b_17, false⟩

/-- is_fraction -/
def b_18 : Ss :=
    .cons (.ife (.or_ (.not_ (.isi (.var 0) .tuple)) (.or_ (.cmp .ne (.bi .len (.cons (.var 0) .nil)) (.int 2)) (.or_ (.not_ (.call 16 (.cons (.ix (.var 0) (.int 0)) .nil))) (.not_ (.call 16 (.cons (.ix (.var 0) (.int 1)) .nil))))))
      (.cons (.ret (.bl false)) <|
      .nil)
      (.nil)) <|
    .cons (.ret (.and_ (.cmp .gt (.ix (.var 0) (.int 1)) (.int 0)) (.cmp .eq (.call 17 (.cons (.ix (.var 0) (.int 0)) (.cons (.ix (.var 0) (.int 1)) .nil))) (.int 1)))) <|
    .nil

def f_18 : Fn := ⟨"is_fraction", 1, ["thing"], b_18, false⟩

/-- fraction -/
def b_19 : Ss :=
    .cons (.ife (.cmp .eq (.var 1) (.int 0))
      (.cons .never <|
      .nil)
      (.nil)) <|
    .cons (.asg (.one 2) (.call 17 (.cons (.var 0) (.cons (.var 1) .nil)))) <|
    .cons (.ife (.cmp .lt (.var 1) (.int 0))
      (.cons (.asg (.one 2) (.bin .sub (.int 0) (.var 2))) <|
      .nil)
      (.nil)) <|
    .cons (.ret (.tup (.cons (.bin .fdiv (.var 0) (.var 2)) (.cons (.bin .fdiv (.var 1) (.var 2)) .nil)))) <|
    .nil

def f_19 : Fn := ⟨"fraction", 2, ["top", "bottom", "part"], b_19, false⟩

/-- plus -/
def b_20 : Ss :=
    .cons (.ret (.call 19 (.cons (.bin .add (.bin .mul (.ix (.var 0) (.int 0)) (.ix (.var 1) (.int 1))) (.bin .mul (.ix (.var 1) (.int 0)) (.ix (.var 0) (.int 1)))) (.cons (.bin .mul (.ix (.var 0) (.int 1)) (.ix (.var 1) (.int 1))) .nil)))) <|
    .nil

def f_20 : Fn := ⟨"plus", 2, ["a", "b"], b_20, false⟩

/-- minus -/
def b_21 : Ss :=
    .cons (.ret (.call 19 (.cons (.bin .sub (.bin .mul (.ix (.var 0) (.int 0)) (.ix (.var 1) (.int 1))) (.bin .mul (.ix (.var 1) (.int 0)) (.ix (.var 0) (.int 1)))) (.cons (.bin .mul (.ix (.var 0) (.int 1)) (.ix (.var 1) (.int 1))) .nil)))) <|
    .nil

def f_21 : Fn := ⟨"minus", 2, ["a", "b"], b_21, false⟩

/-- times -/
def b_22 : Ss :=
    .cons (.ret (.call 19 (.cons (.bin .mul (.ix (.var 0) (.int 0)) (.ix (.var 1) (.int 0))) (.cons (.bin .mul (.ix (.var 0) (.int 1)) (.ix (.var 1) (.int 1))) .nil)))) <|
    .nil

def f_22 : Fn := ⟨"times", 2, ["a", "b"], b_22, false⟩

/-- over -/
def b_23 : Ss :=
    .cons (.ret (.call 19 (.cons (.bin .mul (.ix (.var 0) (.int 0)) (.ix (.var 1) (.int 1))) (.cons (.bin .mul (.ix (.var 0) (.int 1)) (.ix (.var 1) (.int 0))) .nil)))) <|
    .nil

def f_23 : Fn := ⟨"over", 2, ["a", "b"], b_23, false⟩

/-- below -/
def b_24 : Ss :=
    .cons (.ret (.cmp .lt (.bin .mul (.ix (.var 0) (.int 0)) (.ix (.var 1) (.int 1))) (.bin .mul (.ix (.var 1) (.int 0)) (.ix (.var 0) (.int 1))))) <|
    .nil

def f_24 : Fn := ⟨"below", 2, ["a", "b"], b_24, false⟩

/-- is_name -/
def b_25 : Ss :=
    .cons (.ife (.or_ (.not_ (.isi (.var 0) .str)) (.not_ (.cmp2 .le .le (.int 1) (.bi .len (.cons (.var 0) .nil)) (.glb 1))))
      (.cons (.ret (.bl false)) <|
      .nil)
      (.nil)) <|
    .cons (.ret (.bi .all (.cons (.lc (.cmp .isIn (.var 1) (.glb 0)) (.one 1) (.seq (.var 0)) .nil [1]) .nil))) <|
    .nil

def f_25 : Fn := ⟨"is_name", 1, ["thing", "sign"], b_25, false⟩

/-- is_between -/
def b_26 : Ss :=
    .cons (.ret (.and_ (.call 16 (.cons (.var 0) .nil)) (.cmp2 .le .le (.var 1) (.var 0) (.var 2)))) <|
    .nil

def f_26 : Fn := ⟨"is_between", 3, ["thing", "low", "high"], b_26, false⟩

/-- is_top -/
def b_27 : Ss :=
    .cons (.ret (.call 26 (.cons (.var 0) (.cons (.int 1) (.cons (.glb 2) .nil))))) <|
    .nil

def f_27 : Fn := ⟨"is_top", 1, ["thing"], b_27, false⟩

/-- are_rising -/
def b_28 : Ss :=
    .cons (.ret (.bi .all (.cons (.lc (.cmp .lt (.ix (.var 0) (.var 1)) (.ix (.var 0) (.bin .add (.var 1) (.int 1)))) (.one 1) (.rng1 (.bin .sub (.bi .len (.cons (.var 0) .nil)) (.int 1))) .nil [1]) .nil))) <|
    .nil

def f_28 : Fn := ⟨"are_rising", 1, ["things", "k"], b_28, false⟩

/-- is_place -/
def b_29 : Ss :=
    .cons (.ife (.or_ (.not_ (.isi (.var 0) .tuple)) (.or_ (.cmp .ne (.bi .len (.cons (.var 0) .nil)) (.int 5)) (.not_ (.call 25 (.cons (.ix (.var 0) (.int 0)) .nil)))))
      (.cons (.ret (.bl false)) <|
      .nil)
      (.nil)) <|
    .cons (.asg (.tup [(.one 2), (.one 3), (.one 4), (.one 5), (.one 6)]) (.var 0)) <|
    .cons (.ife (.not_ (.bi .all (.cons (.lc (.call 26 (.cons (.var 7) (.cons (.int 0) (.cons (.glb 5) .nil)))) (.one 7) (.seq (.tup (.cons (.var 3) (.cons (.var 4) (.cons (.var 6) .nil))))) .nil [7]) .nil)))
      (.cons (.ret (.bl false)) <|
      .nil)
      (.nil)) <|
    .cons (.ret (.call 26 (.cons (.var 5) (.cons (.bin .mul (.var 6) (.var 1)) (.cons (.glb 6) .nil))))) <|
    .nil

def f_29 : Fn := ⟨"is_place", 2, ["thing", "top", "name", "one", "grows", "other", "falls", "number"], b_29, false⟩

/-- is_tie -/
def b_30 : Ss :=
    .cons (.ife (.or_ (.not_ (.isi (.var 0) .tuple)) (.or_ (.cmp .ne (.bi .len (.cons (.var 0) .nil)) (.int 3)) (.or_ (.not_ (.call 25 (.cons (.ix (.var 0) (.int 0)) .nil))) (.not_ (.call 25 (.cons (.ix (.var 0) (.int 1)) .nil))))))
      (.cons (.ret (.bl false)) <|
      .nil)
      (.nil)) <|
    .cons (.asg (.tup [(.one 2), (.one 3), (.one 4)]) (.var 0)) <|
    .cons (.ret (.and_ (.cmp .isIn (.var 2) (.var 1)) (.and_ (.cmp .isIn (.var 3) (.var 1)) (.and_ (.cmp .ne (.var 2) (.var 3)) (.call 26 (.cons (.var 4) (.cons (.int 1) (.cons (.glb 6) .nil)))))))) <|
    .nil

def f_30 : Fn := ⟨"is_tie", 2, ["thing", "names", "one", "other", "size"], b_30, false⟩

/-- are_places -/
def b_31 : Ss :=
    .cons (.ife (.or_ (.not_ (.isi (.var 0) .tuple)) (.not_ (.cmp2 .le .le (.int 1) (.bi .len (.cons (.var 0) .nil)) (.glb 3))))
      (.cons (.ret (.bl false)) <|
      .nil)
      (.nil)) <|
    .cons (.ret (.and_ (.bi .all (.cons (.lc (.call 29 (.cons (.var 2) (.cons (.var 1) .nil))) (.one 2) (.seq (.var 0)) .nil [2]) .nil)) (.call 28 (.cons (.lc (.ix (.var 2) (.int 0)) (.one 2) (.seq (.var 0)) .nil [2]) .nil)))) <|
    .nil

def f_31 : Fn := ⟨"are_places", 2, ["thing", "top", "place"], b_31, false⟩

/-- are_ties -/
def b_32 : Ss :=
    .cons (.ife (.or_ (.not_ (.isi (.var 0) .tuple)) (.or_ (.cmp .gt (.bi .len (.cons (.var 0) .nil)) (.glb 4)) (.not_ (.bi .all (.cons (.lc (.call 30 (.cons (.var 2) (.cons (.var 1) .nil))) (.one 2) (.seq (.var 0)) .nil [2]) .nil)))))
      (.cons (.ret (.bl false)) <|
      .nil)
      (.nil)) <|
    .cons (.ret (.call 28 (.cons (.lc (.slc (.var 2) .none (.some (.int 2))) (.one 2) (.seq (.var 0)) .nil [2]) .nil))) <|
    .nil

def f_32 : Fn := ⟨"are_ties", 2, ["thing", "names", "tie"], b_32, false⟩

/-- is_web -/
def b_33 : Ss :=
    .cons (.ife (.or_ (.not_ (.isi (.var 0) .tuple)) (.or_ (.cmp .ne (.bi .len (.cons (.var 0) .nil)) (.int 3)) (.or_ (.not_ (.call 27 (.cons (.ix (.var 0) (.int 0)) .nil))) (.not_ (.call 31 (.cons (.ix (.var 0) (.int 1)) (.cons (.ix (.var 0) (.int 0)) .nil)))))))
      (.cons (.ret (.bl false)) <|
      .nil)
      (.nil)) <|
    .cons (.ret (.call 32 (.cons (.ix (.var 0) (.int 2)) (.cons (.lc (.ix (.var 1) (.int 0)) (.one 1) (.seq (.ix (.var 0) (.int 1))) .nil [1]) .nil)))) <|
    .nil

def f_33 : Fn := ⟨"is_web", 1, ["thing", "place"], b_33, false⟩

/-- names_of -/
def b_34 : Ss :=
    .cons (.ret (.bi .tuple (.cons (.lc (.ix (.var 1) (.int 0)) (.one 1) (.seq (.ix (.var 0) (.int 1))) .nil [1]) .nil))) <|
    .nil

def f_34 : Fn := ⟨"names_of", 1, ["web", "place"], b_34, false⟩

/-- is_price -/
def b_35 : Ss :=
    .cons (.ife (.not_ (.call 18 (.cons (.var 1) .nil)))
      (.cons (.ret (.bl false)) <|
      .nil)
      (.nil)) <|
    .cons (.ret (.and_ (.not_ (.call 24 (.cons (.var 1) (.cons (.glb 7) .nil)))) (.not_ (.call 24 (.cons (.tup (.cons (.ix (.var 0) (.int 0)) (.cons (.int 1) .nil))) (.cons (.var 1) .nil)))))) <|
    .nil

def f_35 : Fn := ⟨"is_price", 2, ["web", "thing"], b_35, false⟩

/-- check_price -/
def b_36 : Ss :=
    .cons (.ife (.not_ (.call 35 (.cons (.var 0) (.cons (.var 1) .nil))))
      (.cons .never <|
      .nil)
      (.nil)) <|
    .nil

def f_36 : Fn := ⟨"check_price", 2, ["web", "price"], b_36, false⟩

def b_37_0 : Ss :=
    .cons (.app 2 (.call 20 (.cons (.call 19 (.cons (.var 5) (.cons (.int 1) .nil))) (.cons (.call 22 (.cons (.call 19 (.cons (.var 6) (.cons (.int 1) .nil))) (.cons (.var 1) .nil))) .nil)))) <|
    .cons (.app 3 (.call 21 (.cons (.call 19 (.cons (.var 7) (.cons (.int 1) .nil))) (.cons (.call 22 (.cons (.call 19 (.cons (.var 8) (.cons (.int 1) .nil))) (.cons (.var 1) .nil))) .nil)))) <|
    .cons (.wipe [4, 5, 6, 7, 8]) <|
    .nil

/-- sizes_at -/
def b_37 : Ss :=
    .cons (.expr (.call 36 (.cons (.var 0) (.cons (.var 1) .nil)))) <|
    .cons (.new 2 (.lst .nil)) <|
    .cons (.new 3 (.lst .nil)) <|
    .cons (.for_ (.tup [(.one 4), (.one 5), (.one 6), (.one 7), (.one 8)]) (.seq (.ix (.var 0) (.int 1))) b_37_0) <|
    .cons (.ret (.tup (.cons (.bi .tuple (.cons (.var 2) .nil)) (.cons (.bi .tuple (.cons (.lc (.tup (.cons (.var 9) (.cons (.int 1) .nil))) (.tup [(.one 5), (.one 7), (.one 9)]) (.seq (.ix (.var 0) (.int 2))) .nil [5, 7, 9]) .nil)) (.cons (.bi .tuple (.cons (.var 3) .nil)) .nil))))) <|
    .nil

def f_37 : Fn := ⟨"sizes_at", 2, ["web", "price", "into", "out", "name", "one", "grows", "other", "falls", "size"], b_37, false⟩

/-- is_cut -/
def b_43 : Ss :=
    .cons (.ife (.or_ (.not_ (.isi (.var 1) .tuple)) (.not_ (.bi .all (.cons (.lc (.isi (.var 3) .str) (.one 3) (.seq (.var 1)) .nil [3]) .nil))))
      (.cons (.ret (.bl false)) <|
      .nil)
      (.nil)) <|
    .cons (.ife (.not_ (.bi .all (.cons (.lc (.cmp .isIn (.var 3) (.call 34 (.cons (.var 0) .nil))) (.one 3) (.seq (.var 1)) .nil [3]) .nil)))
      (.cons (.ret (.bl false)) <|
      .nil)
      (.nil)) <|
    .cons (.ret (.bi .all (.cons (.lc (.cmp .lt (.ix (.var 1) (.var 2)) (.ix (.var 1) (.bin .add (.var 2) (.int 1)))) (.one 2) (.rng1 (.bin .sub (.bi .len (.cons (.var 1) .nil)) (.int 1))) .nil [2]) .nil))) <|
    .nil

def f_43 : Fn := ⟨"is_cut", 2, ["web", "thing", "k", "name"], b_43, false⟩

def b_44_0 : Ss :=
    .cons (.asg (.one 1) (.bin .add (.var 1) (.lc (.bin .add (.var 3) (.tup (.cons (.var 2) .nil))) (.one 3) (.seq (.var 1)) .nil [3]))) <|
    .cons (.wipe [2]) <|
    .nil

/-- all_cuts -/
def b_44 : Ss :=
    .cons (.asg (.one 1) (.lst (.cons (.tup .nil) .nil))) <|
    .cons (.for_ (.one 2) (.seq (.call 34 (.cons (.var 0) .nil))) b_44_0) <|
    .cons (.ret (.bi .sorted (.cons (.var 1) .nil))) <|
    .nil

def f_44 : Fn := ⟨"all_cuts", 1, ["web", "found", "name", "cut"], b_44, true⟩

def b_45_0 : Ss :=
    .cons (.ife (.cmp .isIn (.var 7) (.var 1))
      (.cons (.asg (.one 2) (.bin .add (.var 2) (.var 10))) <|
      .cons (.asg (.one 3) (.bin .sub (.var 3) (.var 11))) <|
      .nil)
      (.cons (.asg (.one 2) (.bin .add (.var 2) (.var 8))) <|
      .cons (.asg (.one 3) (.bin .add (.var 3) (.var 9))) <|
      .nil)) <|
    .cons (.wipe [7, 8, 9, 10, 11]) <|
    .nil

def b_45_1 : Ss :=
    .cons (.ife (.and_ (.cmp .isIn (.var 12) (.var 1)) (.cmp .notIn (.var 13) (.var 1)))
      (.cons (.asg (.one 2) (.bin .add (.var 2) (.var 14))) <|
      .nil)
      (.nil)) <|
    .cons (.wipe [12, 13, 14]) <|
    .nil

/-- line_of -/
def b_45 : Ss :=
    .cons (.ife (.not_ (.call 43 (.cons (.var 0) (.cons (.var 1) .nil))))
      (.cons .never <|
      .nil)
      (.nil)) <|
    .cons (.asg (.tup [(.one 4), (.one 5), (.one 6)]) (.var 0)) <|
    .cons (.asg (.one 2) (.int 0)) <|
    .cons (.asg (.one 3) (.int 0)) <|
    .cons (.for_ (.tup [(.one 7), (.one 8), (.one 9), (.one 10), (.one 11)]) (.seq (.var 5)) b_45_0) <|
    .cons (.for_ (.tup [(.one 12), (.one 13), (.one 14)]) (.seq (.var 6)) b_45_1) <|
    .cons (.ret (.tup (.cons (.var 2) (.cons (.var 3) .nil)))) <|
    .nil

def f_45 : Fn := ⟨"line_of", 2, ["web", "cut", "base", "lean", "top", "places", "ties", "name", "first", "grows", "last", "falls", "one", "other", "size"], b_45, false⟩

/-- line_at -/
def b_46 : Ss :=
    .cons (.asg (.tup [(.one 2), (.one 3)]) (.var 0)) <|
    .cons (.ret (.call 20 (.cons (.call 19 (.cons (.var 2) (.cons (.int 1) .nil))) (.cons (.call 22 (.cons (.call 19 (.cons (.var 3) (.cons (.int 1) .nil))) (.cons (.var 1) .nil))) .nil)))) <|
    .nil

def f_46 : Fn := ⟨"line_at", 2, ["line", "price", "base", "lean"], b_46, false⟩

/-- worth_of -/
def b_47 : Ss :=
    .cons (.asg (.one 3) (.call 45 (.cons (.var 0) (.cons (.var 1) .nil)))) <|
    .cons (.ife (.not_ (.call 35 (.cons (.var 0) (.cons (.var 2) .nil))))
      (.cons .never <|
      .nil)
      (.nil)) <|
    .cons (.ret (.call 46 (.cons (.var 3) (.cons (.var 2) .nil)))) <|
    .nil

def f_47 : Fn := ⟨"worth_of", 3, ["web", "cut", "price", "line"], b_47, false⟩

end G
/-! Names of a web, its cuts. -/
namespace G
open PySem PP PW
variable {T : Nat → Option Fn} {Γ : Nat → Option D} {n : Nat}
local macro_rules | `(tactic| wtm_at "d") => `(tactic| first | decide | omega | (simp only [List.length_map, List.length_append, List.length_cons, List.length_nil, List.length_range, appW_len, chr_len, repW_len]; omega))
@[simp] theorem webD_0 (w : Web) : ixD (webD w) (.int 0) = .ok (.int w.top) := by simp [webD]
@[simp] theorem webD_1 (w : Web) : ixD (webD w) (.int 1) = .ok (.tup (w.ps.map plD)) := by simp [webD]
@[simp] theorem webD_2 (w : Web) : ixD (webD w) (.int 2) = .ok (.tup (w.ts.map tiD)) := by simp [webD]
@[simp] theorem plD_0 (p : Pl) : ixD (plD p) (.int 0) = .ok (.str p.n) := by simp [plD]
@[simp] theorem tyB_tup (t : Ty) (xs : List D) : tyB t (.tup xs) = decide (t = .tuple) := by cases t <;> rfl
@[simp] theorem tyB_lst (t : Ty) (xs : List D) : tyB t (.lst xs) = decide (t = .list) := by cases t <;> rfl
theorem bitAnd1 (x : Int) : Builtin.bitAnd x 1 = x % 2 := PyProof.Rows.bitAnd_m1 x
section
variable [Has T 34 f_34]
theorem names_of_is (w : Web) (h : w.ps.length ≤ 1000) (hn : 1 ≤ n) : run T Γ n 34 [webD w] = .ok (.tup (w.ns.map D.str)) := by
  rw [run_at (by omega) rfl]
  have e : mapR (lcI (run T Γ (n - 1)) Γ (.ix (.var 1) (.int 0)) (.one 1) .nil [1] [some (webD w), none]) (w.ps.map plD) = .ok (w.ns.map D.str) := by
    rw [mapR_map, Web.ns, List.map_map]
    exact mapR_ok fun p _ => by simp [lcI, wipeE, ofE]
  simp (disch := wtm_at "d") [f_34, b_34, fits_ok, e]
end
section
variable [Has T 205 f_205]
theorem lnames_is (w : Web) (h : w.ps.length ≤ 1000) (hn : 1 ≤ n) : run T Γ n 205 [webD w] = .ok (.lst (w.ns.map D.str)) := by
  rw [run_at (by omega) rfl]
  have e : mapR (lcI (run T Γ (n - 1)) Γ (.ix (.var 1) (.int 0)) (.one 1) .nil [1] [some (webD w), none]) (w.ps.map plD) = .ok (w.ns.map D.str) := by
    rw [mapR_map, Web.ns, List.map_map]
    exact mapR_ok fun p _ => by simp [lcI, wipeE, ofE]
  simp (disch := wtm_at "d") [f_205, b_205, fits_ok, e]
end
/-- a cut as data -/
abbrev cutD' (c : List Str) : D := .tup (c.map D.str)
/-- all cuts, in order -/
noncomputable def Web.cuts (w : Web) : List (List Str) := srt (RLt SLt) (subs w.ns)
theorem Web.ns_len (w : Web) : w.ns.length = w.ps.length := by simp [Web.ns]
section
variable [Has T 34 f_34] [Has T 44 f_44]
theorem all_cuts_is (w : Web) (h : w.ps.length ≤ 8) (hn : 2 ≤ n) : run T Γ n 44 [webD w] = .ok (.lst (w.cuts.map fun c => D.tup (c.map D.str))) := by
  rw [run_at (by omega) rfl]
  have hl : w.ns.length ≤ 8 := by rw [w.ns_len]; exact h
  have e := (for_fold (f := turn (run T Γ (n - 1)) Γ (.one 2) b_44_0) (enc := D.str) (step := fun acc t => acc ++ acc.map (· ++ [t]))
    (E := fun acc : List (List Str) => [some (webD w), some (.lst (acc.map fun c => D.tup (c.map D.str))), none, none])
    (fun ts acc => acc.length * 2 ^ ts.length ≤ 256 ∧ ∀ c ∈ acc, c.length + ts.length ≤ 8)
    (fun t ts acc ⟨h1, h2⟩ => by
      rw [List.length_cons, Nat.pow_succ] at h1
      have h3 : acc.length * 1 ≤ acc.length * 2 ^ ts.length := Nat.mul_le_mul_left _ (Nat.two_pow_pos _)
      have h4 : acc.length ≤ 256 := by rw [Nat.mul_comm _ 2, Nat.mul_left_comm] at h1; omega
      have ec : mapR (lcI (run T Γ (n - 1)) Γ (.bin .add (.var 3) (.tup (.cons (.var 2) .nil))) (.one 3) .nil [3] [some (webD w), some (.lst (acc.map fun c => D.tup (c.map D.str))), some (.str t), none]) (acc.map fun c => D.tup (c.map D.str)) = .ok ((acc.map (· ++ [t])).map fun c => D.tup (c.map D.str)) := by
        rw [mapR_map, List.map_map]
        refine mapR_ok fun c hc => ?_
        have := h2 c hc
        simp (disch := wtm_at "d") [lcI, wipeE, ofE, o_addT]
      refine ⟨?_, ?_, fun c hc => ?_⟩
      · simp (disch := wtm_at "d") [turn, b_44_0, put, ec, fits_ok, o_addL, wipeE, -List.map_map]
      · rw [List.length_append, List.length_map, ← Nat.mul_two]
        rw [Nat.mul_comm _ 2, Nat.mul_left_comm] at h1
        rw [Nat.mul_comm acc.length 2, Nat.mul_assoc]; exact h1
      · rcases List.mem_append.mp hc with hc | hc
        · have := h2 c hc; rw [List.length_cons] at this; omega
        · obtain ⟨c', hc', rfl⟩ := List.mem_map.mp hc
          have := h2 c' hc'; simp only [List.length_cons, List.length_append, List.length_nil] at *; omega)
    w.ns [[]] ⟨by rw [List.length_singleton, Nat.one_mul]; exact Nat.le_trans (Nat.pow_le_pow_right (by decide) hl) (by decide), fun c hc => by rw [List.mem_singleton.mp hc]; simpa using hl⟩).1
  have es := sorted_lst (e := fun c : List Str => D.tup (c.map D.str)) (subs w.ns)
  have e2 := names_of_is (T := T) (Γ := Γ) (n := n - 1) w (by omega) (by omega)
  simp only [List.map_cons, List.map_nil] at e
  rw [show w.ns.foldl (fun acc t => acc ++ acc.map (· ++ [t])) [[]] = subs w.ns from rfl] at e
  simp (disch := wtm_at "d") [f_44, b_44, put, e2, e, es, Web.cuts, -List.map_map]
end
section
variable [Has T 205 f_205] [Has T 211 f_211]
theorem lcuts_is (w : Web) (h : w.ps.length ≤ 8) (hn : 2 ≤ n) : run T Γ n 211 [webD w] = .ok (.lst (w.cuts.map fun c => D.tup (c.map D.str))) := by
  rw [run_at (by omega) rfl]
  have hl : w.ns.length ≤ 8 := by rw [w.ns_len]; exact h
  have hp : 2 ^ w.ns.length ≤ 256 := Nat.le_trans (Nat.pow_le_pow_right (by decide) hl) (by decide)
  have e := (for_fold (f := turn (run T Γ (n - 1)) Γ (.one 3) b_211_0) (enc := fun k : Nat => D.int k) (step := fun acc m => acc ++ [pick w.ns m])
    (E := fun acc : List (List Str) => [some (webD w), some (.lst (w.ns.map D.str)), some (.lst (acc.map fun c => D.tup (c.map D.str))), none, none])
    (fun ms acc => acc.length + ms.length ≤ 256)
    (fun m ms acc h1 => by
      rw [List.length_cons] at h1
      have ec : mapR (lcI (run T Γ (n - 1)) Γ (.ix (.var 1) (.var 4)) (.one 4) (.cons (.cmp .eq (.bin .band (.bin .shr (.var 3) (.var 4)) (.int 1)) (.int 1)) .nil) [4] [some (webD w), some (.lst (w.ns.map D.str)), some (.lst (acc.map fun c => D.tup (c.map D.str))), some (.int (m : Int)), none]) ((List.range w.ns.length).map fun k : Nat => D.int k) = .ok ((pick w.ns m).map D.str) := by
        rw [mapR_map, pick, List.map_map]
        refine mapR_if fun k hk => ?_
        have hk := List.mem_range.mp hk
        have ec : (((m : Int) / 2 ^ k % 2 = 1) = (m / 2 ^ k % 2 = 1)) := by
          rw [two_pow, ← Int.natCast_ediv]
          apply propext
          omega
        simp (disch := wtm_at "d") [lcI, wipeE, ofE, o_shrI, bitAnd1, ix_lstM, ec]
      refine ⟨?_, by simp only [List.length_append, List.length_cons, List.length_nil]; omega⟩
      simp (disch := wtm_at "d") [turn, b_211_0, put, ownL, rng0, sm62_ok, ec, fits_ok, sz_lt, wipeE, -List.map_map])
    (List.range (2 ^ w.ns.length)) [] (by simp; exact hp)).1
  have ef : (List.range (2 ^ w.ns.length)).foldl (fun acc m => acc ++ [pick w.ns m]) [] = subs w.ns := by
    rw [← pick_all, ← List.nil_append (List.map _ _), List.map_eq_flatMap]
    exact List.foldl_append_eq_append ..
  rw [ef] at e
  have es := sorted_lst (e := fun c : List Str => D.tup (c.map D.str)) (subs w.ns)
  have e2 := lnames_is (T := T) (Γ := Γ) (n := n - 1) w (by omega) (by omega)
  have hp2 : ((2 : Int) ^ w.ns.length).toNat = 2 ^ w.ns.length := by
    rw [two_pow]; exact Int.toNat_natCast _
  have hp3 : (2 : Int) ^ w.ns.length ≤ 256 ∧ 0 < (2 : Int) ^ w.ns.length := by
    rw [two_pow]; have := Nat.two_pow_pos w.ns.length; omega
  simp only [List.map_nil] at e
  simp (disch := wtm_at "d") [f_211, b_211, put, e2, o_shlI, rng0, sm62_ok, hp2, e, es, Web.cuts, -List.map_map]
end
end G
/-! is_cut. -/
namespace G
open PySem PP PW
variable {T : Nat → Option Fn} {Γ : Nat → Option D} {n : Nat}
local macro_rules | `(tactic| wtm_at "d") => `(tactic| first | decide | omega | (simp only [List.length_map, List.length_append, List.length_cons, List.length_nil, List.length_range, appW_len, chr_len, repW_len]; omega))
instance : DecidableRel SLt := fun a b => inferInstanceAs (Decidable (a.cps.toList < b.cps.toList))
theorem allS_map : ∀ ss : List Str, allS (ss.map D.str) = some ss
  | [] => rfl
  | s :: ss => by simp [allS, allS_map ss]
theorem all_str {ds : List D} : ds.all (tyB .str) = true ↔ ∃ ss : List Str, ds = ss.map D.str := by
  constructor
  · intro h
    induction ds with
    | nil => exact ⟨[], rfl⟩
    | cons d ds ih =>
      rw [List.all_cons, Bool.and_eq_true] at h
      obtain ⟨ss, rfl⟩ := ih h.2
      cases d with
      | str s => exact ⟨s :: ss, rfl⟩
      | _ => cases h.1
  · rintro ⟨ss, rfl⟩
    simp [tyB]
theorem allS_none {ds : List D} (h : ¬ ∃ ss : List Str, ds = ss.map D.str) : allS ds = none := by
  cases e : allS ds with
  | none => rfl
  | some ss =>
    exfalso; apply h
    refine ⟨ss, ?_⟩
    clear h
    induction ds generalizing ss with
    | nil => cases e; rfl
    | cons d ds ih =>
      cases d with
      | str s =>
        simp only [allS, Option.map_eq_some_iff] at e
        obtain ⟨r, hr, rfl⟩ := e
        rw [ih r hr]; rfl
      | _ => cases e
/-- whether a thing is a cut of names -/
def cutB (ns : List Str) : D → Bool
  | .tup ds => match allS ds with
    | some ss => decide ((∀ s ∈ ss, s ∈ ns) ∧ ss.Pairwise SLt)
    | none => false
  | _ => false
theorem tup_of {d : D} (h : tyB .tuple d = true) : ∃ ds, d = .tup ds := by
  cases d <;> first | exact ⟨_, rfl⟩ | (cases h; done)
theorem c_ltS (a b : Str) : cmD .lt (.str a) (.str b) = .ok (.bl (decide (SLt a b))) := by
  simp [cmD, D.dep, D.lt, ofO, SLt]
theorem ris_dec {α : Type} [Inhabited α] {lt : α → α → Prop} [DecidableRel lt] (tr : ∀ a b c, lt a b → lt b c → lt a c) (xs : List α) : ((List.range (xs.length - 1)).all fun k => decide (lt (xs.getD k default) (xs.getD (k + 1) default))) = decide (xs.Pairwise lt) := by
  rw [Bool.eq_iff_iff, List.all_eq_true, decide_eq_true_eq, ← rises tr]
  simp
section
variable [Has T 34 f_34] [Has T 43 f_43]
theorem is_cut_any (w : Web) (hw : w.ps.length ≤ 8) (d : D) (hd : ∀ ds, d = .tup ds → ds.length ≤ 1000000) (hn : 2 ≤ n) : run T Γ n 43 [webD w, d] = .ok (.bl (cutB w.ns d)) := by
  rw [run_at (by omega) rfl]
  by_cases ht : tyB .tuple d = true
  · obtain ⟨ds, rfl⟩ := tup_of ht
    have hl := hd ds rfl
    have e1 : mapR (lcI (run T Γ (n - 1)) Γ (.isi (.var 3) .str) (.one 3) .nil [3] [some (webD w), some (D.tup ds), none, none]) ds = .ok (ds.map fun x => .bl (tyB .str x)) :=
      mapR_ok fun x _ => by simp [lcI, wipeE, ofE]
    by_cases hs : ∃ ss : List Str, ds = ss.map D.str
    · have ha := all_str.mpr hs
      obtain ⟨ss, rfl⟩ := hs
      rw [List.length_map] at hl
      have en := names_of_is (T := T) (Γ := Γ) (n := n - 1) w (by omega) (by omega)
      have e2 : mapR (lcI (run T Γ (n - 1)) Γ (.cmp .isIn (.var 3) (.call 34 (.cons (.var 0) .nil))) (.one 3) .nil [3] [some (webD w), some (D.tup (ss.map D.str)), none, none]) (ss.map D.str) = .ok (ss.map fun s => .bl (decide (s ∈ w.ns))) := by
        rw [mapR_map]
        exact mapR_ok fun x _ => by simp (disch := wtm_at "d") [lcI, wipeE, ofE, en, c_in, in_tupF]
      have e3 : mapR (lcI (run T Γ (n - 1)) Γ (.cmp .lt (.ix (.var 1) (.var 2)) (.ix (.var 1) (.bin .add (.var 2) (.int 1)))) (.one 2) .nil [2] [some (webD w), some (D.tup (ss.map D.str)), none, none]) ((List.range (ss.length - 1)).map fun k : Nat => D.int k) = .ok ((List.range (ss.length - 1)).map fun k => .bl (decide (SLt (ss.getD k default) (ss.getD (k + 1) default)))) := by
        rw [mapR_map]
        refine mapR_ok fun k hk => ?_
        have hk := List.mem_range.mp hk
        simp (disch := wtm_at "d") [lcI, wipeE, ofE, ix_tupM, c_ltS]
      have er := ris_dec srtS.tr ss
      have hnat : ((ss.length : Int) - 1).toNat = ss.length - 1 := by omega
      have hsm : sm62 ((ss.length : Int) - 1) = true := sm62_ok (by omega)
      by_cases ha2 : ∃ s, s ∈ ss ∧ ¬ s ∈ w.ns
      · have ha3 : ¬ ∀ s ∈ ss, s ∈ w.ns := by simpa using ha2
        simp (disch := wtm_at "d") [f_43, b_43, e1, ha, fits_ok, e2, ha2, ha3, cutB, allS_map, -List.map_map]
      · have ha3 : ∀ s ∈ ss, s ∈ w.ns := by simpa using ha2
        simp (disch := wtm_at "d") [f_43, b_43, e1, ha, fits_ok, e2, ha2, ha3, rng0, hnat, hsm, e3, er, cutB, allS_map, -List.getD_eq_getElem?_getD, -List.map_map]
        exact fun _ => ha3
    · have ha : ds.all (tyB .str) = false := by
        rw [← Bool.not_eq_true, all_str]; exact hs
      simp (disch := wtm_at "d") [f_43, b_43, e1, ha, fits_ok, cutB, allS_none hs, -List.map_map]
  · have hc : cutB w.ns d = false := by
      cases d <;> first | rfl | (exact absurd rfl ht)
    simp [f_43, b_43, ht, hc]
end
end G
/-! Texts of defs, by their numbers. -/
namespace G
open PySem PP
/-- is_rising -/
def b_96 : Ss :=
    .cons (.ret (.bi .all (.cons (.lc (.cmp .lt (.ix (.var 0) (.var 1)) (.ix (.var 0) (.bin .add (.var 1) (.int 1)))) (.one 1) (.rng1 (.bin .sub (.bi .len (.cons (.var 0) .nil)) (.int 1))) .nil [1]) .nil))) <|
    .nil

def f_96 : Fn := ⟨"is_rising", 1, ["things", "k"], b_96, false⟩

/-- is_pair -/
def b_97 : Ss :=
    .cons (.ife (.or_ (.not_ (.isi (.var 0) .tuple)) (.or_ (.cmp .ne (.bi .len (.cons (.var 0) .nil)) (.int 2)) (.not_ (.bi .all (.cons (.lc (.isi (.var 2) .str) (.one 2) (.seq (.var 0)) .nil [2]) .nil)))))
      (.cons (.ret (.bl false)) <|
      .nil)
      (.nil)) <|
    .cons (.ret (.and_ (.cmp .isIn (.ix (.var 0) (.int 0)) (.var 1)) (.and_ (.cmp .isIn (.ix (.var 0) (.int 1)) (.var 1)) (.cmp .lt (.ix (.var 0) (.int 0)) (.ix (.var 0) (.int 1)))))) <|
    .nil

def f_97 : Fn := ⟨"is_pair", 2, ["thing", "names", "name"], b_97, false⟩

/-- is_graph -/
def b_98 : Ss :=
    .cons (.ife (.or_ (.not_ (.isi (.var 0) .tuple)) (.or_ (.cmp .ne (.bi .len (.cons (.var 0) .nil)) (.int 2)) (.not_ (.bi .all (.cons (.lc (.isi (.var 4) .tuple) (.one 4) (.seq (.var 0)) .nil [4]) .nil)))))
      (.cons (.ret (.bl false)) <|
      .nil)
      (.nil)) <|
    .cons (.asg (.tup [(.one 1), (.one 2)]) (.var 0)) <|
    .cons (.ife (.or_ (.not_ (.cmp2 .le .le (.int 1) (.bi .len (.cons (.var 1) .nil)) (.glb 12))) (.cmp .gt (.bi .len (.cons (.var 2) .nil)) (.glb 13)))
      (.cons (.ret (.bl false)) <|
      .nil)
      (.nil)) <|
    .cons (.ife (.or_ (.not_ (.bi .all (.cons (.lc (.call 25 (.cons (.var 5) .nil)) (.one 5) (.seq (.var 1)) .nil [5]) .nil))) (.not_ (.call 96 (.cons (.var 1) .nil))))
      (.cons (.ret (.bl false)) <|
      .nil)
      (.nil)) <|
    .cons (.ret (.and_ (.bi .all (.cons (.lc (.call 97 (.cons (.var 3) (.cons (.var 1) .nil))) (.one 3) (.seq (.var 2)) .nil [3]) .nil)) (.call 96 (.cons (.var 2) .nil)))) <|
    .nil

def f_98 : Fn := ⟨"is_graph", 1, ["thing", "names", "pairs", "pair", "part", "name"], b_98, false⟩

/-- _law_is_name -/
def b_251 : Ss :=
    .cons (.ife (.or_ (.not_ (.isi (.var 0) .str)) (.not_ (.cmp2 .le .le (.int 1) (.bi .len (.cons (.var 0) .nil)) (.int 8))))
      (.cons (.ret (.bl false)) <|
      .nil)
      (.nil)) <|
    .cons (.ret (.bi .all (.cons (.lc (.cmp .isIn (.var 1) (.str "abcdefghijklmnopqrstuvwxyz")) (.one 1) (.seq (.var 0)) .nil [1]) .nil))) <|
    .nil

def f_251 : Fn := ⟨"_law_is_name", 1, ["thing", "sign"], b_251, false⟩

end G
/-! What names, pairs and graphs are. -/
namespace G
open PySem PP PW
variable {T : Nat → Option Fn} {Γ : Nat → Option D} {n : Nat}
local macro_rules | `(tactic| wtm_at "d") => `(tactic| first | decide | omega | (simp only [List.length_map, List.length_append, List.length_cons, List.length_nil, List.length_range, appW_len, chr_len, repW_len]; omega))
abbrev azS : Str := "abcdefghijklmnopqrstuvwxyz"
def nmB : D → Bool
  | .str x => decide (1 ≤ x.length) && (decide (x.length ≤ 8) && x.cps.toList.all fun c => azS.cps.toList.contains c)
  | _ => false
theorem in_sign (c : Nat) (y : Str) : inD (.str ⟨#[c]⟩) (.str y) = .ok (y.cps.toList.contains c) := rfl
theorem str_of {d : D} (h : tyB .str d = true) : ∃ ds, d = .str ds := by
  cases d <;> first | exact ⟨_, rfl⟩ | (cases h; done)
theorem le_8 (k : Nat) : decide ((k : Int) ≤ 8) = decide (k ≤ 8) := by
  rw [Bool.eq_iff_iff]; simp only [decide_eq_true_eq]; omega
theorem ge_1 (k : Nat) : decide ((1 : Int) ≤ k) = decide (1 ≤ k) := by
  rw [Bool.eq_iff_iff]; simp only [decide_eq_true_eq]; omega
@[simp] theorem len_str (x : Str) : biD .len [.str x] = .ok (.int x.length) := (rfl)
theorem cps_len (x : Str) : x.cps.toList.length = x.length := by rw [Array.length_toList]; rfl
section
variable [Has T 25 f_25]
theorem is_name_any (d : D) (h0 : Γ 0 = some (.str azS)) (h1 : Γ 1 = some (.int 8)) (hn : 1 ≤ n) : run T Γ n 25 [d] = .ok (.bl (nmB d)) := by
  rw [run_at (by omega) rfl]
  by_cases ht : tyB .str d = true
  · obtain ⟨x, rfl⟩ := str_of ht
    have e1 : mapR (lcI (run T Γ (n - 1)) Γ (.cmp .isIn (.var 1) (.glb 0)) (.one 1) .nil [1] [some (D.str x), none]) (x.cps.toList.map fun c => D.str ⟨#[c]⟩) = .ok (x.cps.toList.map fun c => .bl (azS.cps.toList.contains c)) := by
      rw [mapR_map]
      exact mapR_ok fun c _ => by simp [lcI, wipeE, ofE, h0, c_in, in_sign, -List.contains_eq_mem]
    have hz := cps_len x
    by_cases c1 : 1 ≤ x.length
    · by_cases c2 : x.length ≤ 8
      · have hf : fits x.cps.size = true := fits_ok (by rw [Array.length_toList] at hz; omega)
        have c1' : (1 : Int) ≤ x.length := by omega
        have c2' : (x.length : Int) ≤ 8 := by omega
        simp [f_25, b_25, ht, h1, c1', c2', itemsD, hf, e1, nmB, c1, c2, cmD, -List.map_map, -List.contains_eq_mem]
      · have c1' : (1 : Int) ≤ x.length := by omega
        have c2' : ¬ (x.length : Int) ≤ 8 := by omega
        simp [f_25, b_25, ht, h1, c1', c2', nmB, c1, c2, cmD]
    · have c1' : ¬ (1 : Int) ≤ x.length := by omega
      simp [f_25, b_25, ht, h1, c1', nmB, c1, cmD]
  · have hc : nmB d = false := by
      cases d <;> first | rfl | (exact absurd rfl ht)
    simp [f_25, b_25, ht, hc]
end
section
variable [Has T 251 f_251]
theorem lname_any (d : D) (hn : 1 ≤ n) : run T Γ n 251 [d] = .ok (.bl (nmB d)) := by
  rw [run_at (by omega) rfl]
  by_cases ht : tyB .str d = true
  · obtain ⟨x, rfl⟩ := str_of ht
    have e1 : mapR (lcI (run T Γ (n - 1)) Γ (.cmp .isIn (.var 1) (.str azS)) (.one 1) .nil [1] [some (D.str x), none]) (x.cps.toList.map fun c => D.str ⟨#[c]⟩) = .ok (x.cps.toList.map fun c => .bl (azS.cps.toList.contains c)) := by
      rw [mapR_map]
      exact mapR_ok fun c _ => by simp [lcI, wipeE, ofE, c_in, in_sign, -List.contains_eq_mem]
    have hz := cps_len x
    by_cases c1 : 1 ≤ x.length
    · by_cases c2 : x.length ≤ 8
      · have hf : fits x.cps.size = true := fits_ok (by rw [Array.length_toList] at hz; omega)
        have c1' : (1 : Int) ≤ x.length := by omega
        have c2' : (x.length : Int) ≤ 8 := by omega
        simp [f_251, b_251, ht, c1', c2', itemsD, hf, e1, nmB, c1, c2, cmD, -List.map_map, -List.contains_eq_mem]
      · have c1' : (1 : Int) ≤ x.length := by omega
        have c2' : ¬ (x.length : Int) ≤ 8 := by omega
        simp [f_251, b_251, ht, c1', c2', nmB, c1, c2, cmD]
    · have c1' : ¬ (1 : Int) ≤ x.length := by omega
      simp [f_251, b_251, ht, c1', nmB, c1, cmD]
  · have hc : nmB d = false := by
      cases d <;> first | rfl | (exact absurd rfl ht)
    simp [f_251, b_251, ht, hc]
end
section
variable [Has T 96 f_96]
theorem rising_any {α : Type} [Inhabited α] {e : α → D} {lt : α → α → Prop} [DecidableRel lt] (hlt : ∀ a b, cmD .lt (e a) (e b) = .ok (.bl (decide (lt a b)))) (tr : ∀ a b c, lt a b → lt b c → lt a c) (xs : List α) (hl : xs.length ≤ 1000000) (hn : 1 ≤ n) :
    run T Γ n 96 [.tup (xs.map e)] = .ok (.bl (decide (xs.Pairwise lt))) := by
  rw [run_at (by omega) rfl]
  have e3 : mapR (lcI (run T Γ (n - 1)) Γ (.cmp .lt (.ix (.var 0) (.var 1)) (.ix (.var 0) (.bin .add (.var 1) (.int 1)))) (.one 1) .nil [1] [some (D.tup (xs.map e)), none]) ((List.range (xs.length - 1)).map fun k : Nat => D.int k) = .ok ((List.range (xs.length - 1)).map fun k => .bl (decide (lt (xs.getD k default) (xs.getD (k + 1) default)))) := by
    rw [mapR_map]
    refine mapR_ok fun k hk => ?_
    have hk := List.mem_range.mp hk
    simp (disch := wtm_at "d") [lcI, wipeE, ofE, ix_tupM, hlt]
  have er := ris_dec tr xs
  have hnat : ((xs.length : Int) - 1).toNat = xs.length - 1 := by omega
  have hsm : sm62 ((xs.length : Int) - 1) = true := sm62_ok (by omega)
  simp (disch := wtm_at "d") [f_96, b_96, fits_ok, rng0, hnat, hsm, e3, er, -List.getD_eq_getElem?_getD, -List.map_map]
end
instance {α β : Type} [DecidableEq α] {lt : α → α → Prop} {lt' : β → β → Prop} [DecidableRel lt] [DecidableRel lt'] : DecidableRel (PLt lt lt') := fun p q => inferInstanceAs (Decidable (lt p.1 q.1 ∨ (p.1 = q.1 ∧ lt' p.2 q.2)))
theorem c_ltP (p q : Str × Str) : cmD .lt (D.tup [.str p.1, .str p.2]) (D.tup [.str q.1, .str q.2]) = .ok (.bl (decide (PLt SLt SLt p q))) := by
  have hc : ∀ a b : Str, cmpOk (.str a) (.str b) = true := fun _ _ => rfl
  have he : ∀ a b : Str, D.eq (.str a) (.str b) = decide (a = b) := fun a b => by show (a == b) = _; exact beqW a b
  have hl : ∀ a b : Str, D.lt (.str a) (.str b) = some (decide (SLt a b)) := fun _ _ => rfl
  have h2 : D.ltA [D.str p.2] [D.str q.2] = some (decide (SLt p.2 q.2)) := by
    simp only [D.ltA, hc, he, hl, if_true]
    by_cases e : p.2 = q.2
    · rw [e]; simp [srtS.irr]
    · simp [e]
  have h1 : D.lt (D.tup [.str p.1, .str p.2]) (D.tup [.str q.1, .str q.2]) = some (decide (PLt SLt SLt p q)) := by
    show D.ltA [D.str p.1, D.str p.2] [D.str q.1, D.str q.2] = _
    rw [D.ltA, hc, he, hl, h2]
    by_cases e : p.1 = q.1
    · simp [e, PLt, srtS.irr]
    · simp [e, PLt]
  show R.when (decide (D.dep (D.tup [.str p.1, .str p.2]) ≤ 50)) (ofO (D.lt (D.tup [.str p.1, .str p.2]) (D.tup [.str q.1, .str q.2]))) = _
  rw [h1]; rfl
/-- a pair of names, the one less than the other -/
def pairB (ss : List Str) : D → Bool
  | .tup [.str a, .str b] => decide (a ∈ ss) && (decide (b ∈ ss) && decide (SLt a b))
  | _ => false
def allP : List D → Option (List (Str × Str))
  | [] => some []
  | .tup [.str a, .str b] :: ds => (allP ds).map ((a, b) :: ·)
  | _ :: _ => none
theorem pair_of {ss : List Str} {d : D} (h : pairB ss d = true) : ∃ p : Str × Str, d = D.tup [.str p.1, .str p.2] ∧ p.1 ∈ ss ∧ p.2 ∈ ss ∧ SLt p.1 p.2 := by
  unfold pairB at h
  split at h
  · rename_i a b
    simp only [Bool.and_eq_true, decide_eq_true_eq] at h
    exact ⟨(a, b), rfl, h⟩
  · cases h
theorem pairs_of {ss : List Str} : ∀ {ds : List D}, ds.all (pairB ss) = true → ∃ ps : List (Str × Str), ds = ps.map fun p => D.tup [.str p.1, .str p.2]
  | [], _ => ⟨[], rfl⟩
  | d :: ds, h => by
    rw [List.all_cons, Bool.and_eq_true] at h
    obtain ⟨p, rfl, _⟩ := pair_of h.1
    obtain ⟨ps, rfl⟩ := pairs_of h.2
    exact ⟨p :: ps, rfl⟩
theorem allP_map : ∀ ps : List (Str × Str), allP (ps.map fun p => D.tup [.str p.1, .str p.2]) = some ps
  | [] => rfl
  | p :: ps => by simp [allP, allP_map ps]
section
variable [Has T 97 f_97]
theorem two_strs {ds : List D} (h2 : ds.length = 2) : (∃ a b : Str, ds = [.str a, .str b]) ∨ ds.all (tyB .str) = false := by
  match ds, h2 with
  | [x, y], _ =>
    by_cases hx : tyB .str x = true
    · obtain ⟨a, rfl⟩ := str_of hx
      by_cases hy : tyB .str y = true
      · obtain ⟨b, rfl⟩ := str_of hy
        exact .inl ⟨a, b, rfl⟩
      · exact .inr (by simp [hy])
    · exact .inr (by simp [hx])
theorem pairB_no {ss : List Str} {ds : List D} (h : ds.length = 2 → ds.all (tyB .str) = false) : pairB ss (.tup ds) = false := by
  unfold pairB
  split
  · rename_i a b e
    cases e
    have := h rfl
    simp [tyB] at this
  · rfl
theorem is_pair_any (d : D) (ss : List Str) (hl : ss.length ≤ 1000000) (hn : 1 ≤ n) : run T Γ n 97 [d, .tup (ss.map D.str)] = .ok (.bl (pairB ss d)) := by
  rw [run_at (by omega) rfl]
  by_cases ht : tyB .tuple d = true
  · obtain ⟨ds, rfl⟩ := tup_of ht
    by_cases h2 : ds.length = 2
    · have e1 : mapR (lcI (run T Γ (n - 1)) Γ (.isi (.var 2) .str) (.one 2) .nil [2] [some (D.tup ds), some (D.tup (ss.map D.str)), none]) ds = .ok (ds.map fun x => .bl (tyB .str x)) :=
        mapR_ok fun x _ => by simp [lcI, wipeE, ofE]
      have hf : fits ds.length = true := fits_ok (by omega)
      rcases two_strs h2 with ⟨a, b, rfl⟩ | ha
      · have e2 : mapR (lcI (run T Γ (n - 1)) Γ (.isi (.var 2) .str) (.one 2) .nil [2] [some (D.tup [.str a, .str b]), some (D.tup (ss.map D.str)), none]) [.str a, .str b] = .ok [.bl true, .bl true] := e1
        have ea : biD .all [.lst [.bl true, .bl true]] = .ok (.bl true) := rfl
        have hq : pairB ss (.tup [.str a, .str b]) = (decide (a ∈ ss) && (decide (b ∈ ss) && decide (SLt a b))) := rfl
        clear e1 hf h2
        by_cases c1 : a ∈ ss
        · by_cases c2 : b ∈ ss
          · simp (disch := wtm_at "d") [f_97, b_97, e2, ea, fits_ok, hq, c1, c2, c_in, in_tupF, c_ltS, c_neF]
          · simp (disch := wtm_at "d") [f_97, b_97, e2, ea, fits_ok, hq, c1, c2, c_in, in_tupF, c_ltS, c_neF]
        · simp (disch := wtm_at "d") [f_97, b_97, e2, ea, fits_ok, hq, c1, c_in, in_tupF, c_ltS, c_neF]
      · have hq := pairB_no (ss := ss) fun _ => ha
        have h2' : (ds.length : Int) = 2 := by omega
        simp (disch := wtm_at "d") [f_97, b_97, e1, ha, hf, hq, h2', c_neF, -List.map_map]
    · have hq := pairB_no (ss := ss) fun h => absurd h h2
      have h2' : ¬ (ds.length : Int) = 2 := by omega
      simp (disch := wtm_at "d") [f_97, b_97, hq, h2', c_neF]
  · have hc : pairB ss d = false := by
      cases d <;> first | rfl | (exact absurd rfl ht)
    simp [f_97, b_97, ht, hc]
end
end G
/-! Texts of defs, by their numbers. -/
namespace G
open PySem PP
def b_201_0 : Ss :=
    .cons (.par [2, 3] (.cons (.var 3) (.cons (.bin .mod (.var 2) (.var 3)) .nil))) <|
    .nil

/-- _law_low -/
def b_201 : Ss :=
    .cons (.par [2, 3] (.cons (.bi .abs (.cons (.var 0) .nil)) (.cons (.bi .abs (.cons (.var 1) .nil)) .nil))) <|
    .cons (.while_ (nSlot 3) (.cmp .gt (.var 3) (.int 0)) b_201_0) <|
    .cons (.ife (.cmp .lt (.var 1) (.int 0))
      (.cons (.asg (.one 2) (.bin .sub (.int 0) (.var 2))) <|
      .nil)
      (.nil)) <|
    .cons (.ret (.tup (.cons (.bin .fdiv (.var 0) (.var 2)) (.cons (.bin .fdiv (.var 1) (.var 2)) .nil)))) <|
    .nil

def f_201 : Fn := ⟨"_law_low", 2, ["top", "bottom", "high", "low"], b_201, false⟩

/-- _law_is_less -/
def b_203 : Ss :=
    .cons (.ret (.cmp .lt (.bin .mul (.ix (.var 0) (.int 0)) (.ix (.var 1) (.int 1))) (.bin .mul (.ix (.var 1) (.int 0)) (.ix (.var 0) (.int 1))))) <|
    .nil

def f_203 : Fn := ⟨"_law_is_less", 2, ["one", "other"], b_203, false⟩

/-- _law_plus -/
def b_207 : Ss :=
    .cons (.ret (.call 201 (.cons (.bin .add (.bin .mul (.ix (.var 0) (.int 0)) (.ix (.var 1) (.int 1))) (.bin .mul (.ix (.var 1) (.int 0)) (.ix (.var 0) (.int 1)))) (.cons (.bin .mul (.ix (.var 0) (.int 1)) (.ix (.var 1) (.int 1))) .nil)))) <|
    .nil

def f_207 : Fn := ⟨"_law_plus", 2, ["one", "other"], b_207, false⟩

/-- _law_times -/
def b_212 : Ss :=
    .cons (.ret (.call 201 (.cons (.bin .mul (.ix (.var 0) (.int 0)) (.ix (.var 1) (.int 0))) (.cons (.bin .mul (.ix (.var 0) (.int 1)) (.ix (.var 1) (.int 1))) .nil)))) <|
    .nil

def f_212 : Fn := ⟨"_law_times", 2, ["one", "other"], b_212, false⟩

/-- _law_within -/
def b_233 : Ss :=
    .cons (.ret (.bi .len (.cons (.lc (.var 2) (.one 2) (.seq (.ix (.var 0) (.int 1))) (.cons (.and_ (.cmp .isIn (.ix (.var 2) (.int 0)) (.var 1)) (.cmp .isIn (.ix (.var 2) (.int 1)) (.var 1))) .nil) [2]) .nil))) <|
    .nil

def f_233 : Fn := ⟨"_law_within", 2, ["graph", "part", "pair"], b_233, false⟩

def b_235_0 : Ss :=
    .cons (.par [6, 7] (.cons (.bin .mod (.ix (.var 0) (.bin .add (.int 6) (.var 5))) (.var 2)) (.cons (.bin .mod (.bin .fdiv (.ix (.var 0) (.bin .add (.int 6) (.var 5))) (.int 8)) (.var 2)) .nil))) <|
    .cons (.ife (.cmp .ne (.var 6) (.var 7))
      (.cons (.putT 4 (.cons (.ix (.var 3) (.bi .min (.cons (.var 6) (.cons (.var 7) .nil)))) (.cons (.ix (.var 3) (.bi .max (.cons (.var 6) (.cons (.var 7) .nil)))) .nil)) (.bl true)) <|
      .nil)
      (.nil)) <|
    .cons (.wipe [5, 6, 7]) <|
    .nil

/-- _law_graph -/
def b_235 : Ss :=
    .cons (.asg (.one 2) (.bin .add (.int 1) (.bin .mod (.ix (.var 0) (.int 0)) (.var 1)))) <|
    .cons (.asg (.one 3) (.call 200 (.cons (.slc (.var 0) (.some (.int 1)) .none) (.cons (.var 2) .nil)))) <|
    .cons (.new 4 .dt0) <|
    .cons (.for_ (.one 5) (.rng1 (.bin .mod (.ix (.var 0) (.int 5)) (.int 13))) b_235_0) <|
    .cons (.ret (.tup (.cons (.bi .tuple (.cons (.var 3) .nil)) (.cons (.bi .tuple (.cons (.bi .sorted (.cons (.var 4) .nil)) .nil)) .nil)))) <|
    .nil

def f_235 : Fn := ⟨"_law_graph", 2, ["xs", "most", "many", "names", "pairs", "k", "one", "other"], b_235, false⟩

def b_238_0 : Ss :=
    .cons (.app 1 (.bi .tuple (.cons (.lc (.ix (.ix (.var 0) (.int 0)) (.var 3)) (.one 3) (.rng1 (.bi .len (.cons (.ix (.var 0) (.int 0)) .nil))) (.cons (.cmp .eq (.bin .band (.bin .shr (.var 2) (.var 3)) (.int 1)) (.int 1)) .nil) [3]) .nil))) <|
    .cons (.wipe [2]) <|
    .nil

/-- _law_parts -/
def b_238 : Ss :=
    .cons (.new 1 (.lst .nil)) <|
    .cons (.for_ (.one 2) (.rng2 (.int 1) (.bin .shl (.int 1) (.bi .len (.cons (.ix (.var 0) (.int 0)) .nil)))) b_238_0) <|
    .cons (.retO 1) <|
    .nil

def f_238 : Fn := ⟨"_law_parts", 1, ["graph", "found", "mask", "k"], b_238, true⟩

/-- within -/
def b_99 : Ss :=
    .cons (.ret (.bi .len (.cons (.lc (.var 2) (.one 2) (.seq (.ix (.var 0) (.int 1))) (.cons (.and_ (.cmp .isIn (.ix (.var 2) (.int 0)) (.var 1)) (.cmp .isIn (.ix (.var 2) (.int 1)) (.var 1))) .nil) [2]) .nil))) <|
    .nil

def f_99 : Fn := ⟨"within", 2, ["graph", "part", "pair"], b_99, false⟩

def b_100_0 : Ss :=
    .cons (.asg (.one 1) (.bin .add (.var 1) (.lc (.bin .add (.var 5) (.tup (.cons (.var 2) .nil))) (.one 5) (.seq (.var 1)) .nil [5]))) <|
    .cons (.wipe [2]) <|
    .nil

/-- parts_of -/
def b_100 : Ss :=
    .cons (.asg (.one 1) (.lst (.cons (.tup .nil) .nil))) <|
    .cons (.for_ (.one 2) (.seq (.ix (.var 0) (.int 0))) b_100_0) <|
    .cons (.asg (.one 3) (.bi .sorted (.cons (.lc (.tup (.cons (.bi .len (.cons (.var 5) .nil)) (.cons (.var 5) .nil))) (.one 5) (.seq (.var 1)) (.cons (.cmp .ne (.var 5) (.tup .nil)) .nil) [5]) .nil))) <|
    .cons (.ret (.lc (.ix (.var 4) (.int 1)) (.one 4) (.seq (.var 3)) .nil [4])) <|
    .nil

def f_100 : Fn := ⟨"parts_of", 1, ["graph", "found", "name", "pairs", "pair", "part"], b_100, true⟩

def b_101_0 : Ss :=
    .cons (.asg (.one 3) (.call 19 (.cons (.call 99 (.cons (.var 0) (.cons (.var 2) .nil))) (.cons (.bi .len (.cons (.var 2) .nil)) .nil)))) <|
    .cons (.ife (.or_ (.cmp .isn (.var 1) .non) (.not_ (.call 24 (.cons (.var 3) (.cons (.ix (.var 1) (.int 0)) .nil)))))
      (.cons (.asg (.one 1) (.tup (.cons (.var 3) (.cons (.var 2) .nil)))) <|
      .nil)
      (.nil)) <|
    .cons (.wipe [2, 3]) <|
    .nil

/-- densest -/
def b_101 : Ss :=
    .cons (.asg (.one 1) .non) <|
    .cons (.for_ (.one 2) (.seq (.call 100 (.cons (.var 0) .nil))) b_101_0) <|
    .cons (.ret (.var 1)) <|
    .nil

def f_101 : Fn := ⟨"densest", 1, ["graph", "best", "part", "worth"], b_101, false⟩

end G
/-! Fractions. -/
namespace G
open PySem PP PW
variable {T : Nat → Option Fn} {Γ : Nat → Option D} {n : Nat}
local macro_rules | `(tactic| wtm_at "d") => `(tactic| first | decide | omega)
/-- a fraction as data -/
def qD (q : Rat) : D := .tup [.int q.num, .int q.den]
@[simp] theorem qD_0 (q : Rat) : ixD (qD q) (.int 0) = .ok (.int q.num) := by simp [qD]
@[simp] theorem qD_1 (q : Rat) : ixD (qD q) (.int 1) = .ok (.int q.den) := by simp [qD]
instance : Flat qD 1 := ⟨fun q => rfl, fun q => by simp [qD, D.dep, D.dep.depA], fun a b => by
  simp only [qD, D.eq, D.eqA, Bool.and_eq_true, beq_iff_eq, and_true]
  constructor
  · rintro ⟨h1, h2⟩; exact Rat.ext h1 (by omega)
  · rintro rfl; exact ⟨rfl, rfl⟩⟩
theorem big_in {i : Int} (h : i.natAbs < 2 ^ 250) : PP.big i = true := by
  simp only [PP.big, decide_eq_true_eq]
  by_cases hz : i.natAbs = 0
  · rw [hz]; decide
  · have := (Nat.log2_lt hz (k := 250)).mpr h
    omega
theorem o_mulB {i j : Int} (h : i.natAbs < 2 ^ 250 ∧ j.natAbs < 2 ^ 250) : o2D .mul (.int i) (.int j) = .ok (.int (i * j)) := by
  simp [o2D, big_in h.1, big_in h.2]
theorem o_fdivG {i j : Int} (h : 0 < j ∧ j.natAbs < 2 ^ 250) : o2D .fdiv (.int i) (.int j) = .ok (.int (i / j)) := o_fdivB h.1 (big_in h.2)
theorem nSlot_at {ρ : PP.Env} {i : Nat} {z : Int} (h : getE ρ i = .ok (.int z)) : nSlot i ρ = z.toNat + 1 := by
  unfold nSlot
  unfold getE at h
  cases e : ρ[i]?.join with
  | none => rw [e] at h; cases h
  | some d => rw [e] at h; cases h; rfl
/-- the loop of the greatest shared part -/
theorem gcd_loop {c : PP.Env → PP.R Bool} {b : PP.Env → O} {x y : Option D} (hc : ∀ h l : Int, c [x, y, some (.int h), some (.int l)] = .ok (decide (0 < l)))
    (hb : ∀ h l : Int, 0 < l → b [x, y, some (.int h), some (.int l)] = .nx [x, y, some (.int l), some (.int (h % l))]) (h l : Int) (h0 : 0 ≤ h) (l0 : 0 ≤ l) :
    whGo c b (l.toNat + 1) [x, y, some (.int h), some (.int l)] = .nx [x, y, some (.int (Int.gcd h l)), some (.int 0)] := by
  obtain ⟨s, e, ⟨h1, h2, h3⟩, h4⟩ := while_inv (c := c) (b := b) (E := fun s : Int × Int => [x, y, some (.int s.1), some (.int s.2)]) (fun s => 0 ≤ s.1 ∧ 0 ≤ s.2 ∧ Int.gcd s.1 s.2 = Int.gcd h l) (fun s => s.2.toNat)
    (fun s ⟨q1, q2, q3⟩ => by
      by_cases hl : 0 < s.2
      · refine .inr ⟨by rw [hc]; simp [hl], (s.2, s.1 % s.2), hb _ _ hl, ⟨q2, Int.emod_nonneg _ (by omega), ?_⟩, ?_⟩
        · rw [← q3]
          obtain ⟨H, e1⟩ := Int.eq_ofNat_of_zero_le q1
          obtain ⟨L, e2⟩ := Int.eq_ofNat_of_zero_le q2
          rw [e1, e2, ← Int.natCast_emod]
          show Nat.gcd _ _ = Nat.gcd _ _
          simp only [Int.natAbs_natCast]
          rw [Nat.gcd_comm H L, Nat.gcd_rec L H, Nat.gcd_comm]
        · have := Int.emod_lt_of_pos s.1 hl
          have := Int.emod_nonneg s.1 (by omega : s.2 ≠ 0)
          simp only; omega
      · exact .inl (by rw [hc]; simp [hl])) (l.toNat + 1) (h, l) ⟨h0, l0, rfl⟩ (by simp)
  obtain ⟨a, b'⟩ := s
  simp only at *
  rw [hc] at h4
  have hb0 : b' = 0 := by
    simp only [PP.R.ok.injEq, decide_eq_false_iff_not] at h4
    omega
  subst hb0
  have ha : (Int.gcd h l : Int) = a := by rw [← h3, Int.gcd_zero_right]; omega
  rw [e, ha]
section
variable [Has T 17 f_17]
theorem shared_is (a b : Int) (hn : 1 ≤ n) : run T Γ n 17 [.int a, .int b] = .ok (.int (Int.gcd a b)) := by
  rw [run_at (by omega) rfl]
  have e := gcd_loop (x := some (.int a)) (y := some (.int b)) (c := fun ρ0 => (ev (run T Γ (n - 1)) Γ (.cmp .gt (.var 3) (.int 0)) ρ0).bind tr) (b := fun ρ0 => exSs (run T Γ (n - 1)) Γ b_17_0 ρ0)
    (fun h l => by simp) (fun h l hl => by simp (disch := wtm_at "d") [b_17_0, setAll, o_mod]) (if a < 0 then -a else a) (if b < 0 then -b else b) (by split <;> omega) (by split <;> omega)
  have hg : Int.gcd (if a < 0 then -a else a) (if b < 0 then -b else b) = Int.gcd a b := by
    split <;> split <;> simp
  rw [hg] at e
  have hs : nSlot 3 [some (D.int a), some (D.int b), some (D.int (if a < 0 then -a else a)), some (D.int (if b < 0 then -b else b))] = (if b < 0 then -b else b).toNat + 1 := nSlot_at rfl
  simp only [r_cmp, r_var, r_int, R.bind_ok] at e
  simp [f_17, b_17, setAll, hs, e]
end
theorem mk_low (a : Int) {b : Int} (hb : 0 < b) : qD (mkRat a b.toNat) = .tup [.int (a / Int.gcd a b), .int (b / Int.gcd a b)] := by
  have hd : b.toNat ≠ 0 := by omega
  unfold qD
  rw [Rat.num_mkRat, Rat.den_mkRat, if_neg hd, if_neg hd]
  have e : (b.toNat.gcd a.natAbs) = Int.gcd a b := by
    rw [Nat.gcd_comm]
    unfold Int.gcd
    congr 1; omega
  rw [e]
  congr 4
  rw [Int.natCast_ediv, Int.toNat_of_nonneg (by omega)]
theorem gcd_pos {a b : Int} (hb : 0 < b) : 0 < (Int.gcd a b : Int) ∧ (Int.gcd a b : Int) ≤ b := by
  have h1 : Int.gcd a b ≠ 0 := by
    rw [Ne, Int.gcd_eq_zero_iff]; omega
  have h2 := Int.gcd_dvd_right a b
  have := Int.le_of_dvd hb h2
  omega
section
variable [Has T 17 f_17] [Has T 19 f_19]
theorem fraction_is (a b : Int) (hb : 0 < b) (hB : b.natAbs < 2 ^ 250) (hn : 2 ≤ n) : run T Γ n 19 [.int a, .int b] = .ok (qD (mkRat a b.toNat)) := by
  rw [run_at (by omega) rfl, mk_low a hb]
  have e := shared_is (T := T) (Γ := Γ) (n := n - 1) a b (by omega)
  have hg := gcd_pos (a := a) hb
  generalize (Int.gcd a b : Int) = g at *
  have h1 : ¬ b = 0 := by omega
  have h2 : ¬ b < 0 := by omega
  simp (disch := wtm_at "d") [f_19, b_19, put, e, h1, h2, o_fdivG]
end
section
variable [Has T 201 f_201]
theorem low_is (a b : Int) (hb : 0 < b) (hB : b.natAbs < 2 ^ 250) (hn : 1 ≤ n) : run T Γ n 201 [.int a, .int b] = .ok (qD (mkRat a b.toNat)) := by
  rw [run_at (by omega) rfl, mk_low a hb]
  have e := gcd_loop (x := some (.int a)) (y := some (.int b)) (c := fun ρ0 => (ev (run T Γ (n - 1)) Γ (.cmp .gt (.var 3) (.int 0)) ρ0).bind tr) (b := fun ρ0 => exSs (run T Γ (n - 1)) Γ b_201_0 ρ0)
    (fun h l => by simp) (fun h l hl => by simp (disch := wtm_at "d") [b_201_0, setAll, o_mod]) (if a < 0 then -a else a) (if b < 0 then -b else b) (by split <;> omega) (by split <;> omega)
  have hg : Int.gcd (if a < 0 then -a else a) (if b < 0 then -b else b) = Int.gcd a b := by
    split <;> split <;> simp
  rw [hg] at e
  have hs : nSlot 3 [some (D.int a), some (D.int b), some (D.int (if a < 0 then -a else a)), some (D.int (if b < 0 then -b else b))] = (if b < 0 then -b else b).toNat + 1 := nSlot_at rfl
  simp only [r_cmp, r_var, r_int, R.bind_ok] at e
  have hg := gcd_pos (a := a) hb
  generalize (Int.gcd a b : Int) = g at *
  have h2 : ¬ b < 0 := by omega
  simp only [h2, if_false] at hs e
  simp (disch := wtm_at "d") [f_201, b_201, put, setAll, hs, e, h2, o_fdivG]
end
theorem mk_lt {a1 a2 : Int} {b1 b2 : Nat} (h1 : b1 ≠ 0) (h2 : b2 ≠ 0) : mkRat a1 b1 < mkRat a2 b2 ↔ a1 * b2 < a2 * b1 := by
  obtain ⟨k1, hk1, e1, e1'⟩ := Rat.mkRat_num_den (n := a1) h1 (rfl : mkRat a1 b1 = ⟨(mkRat a1 b1).num, (mkRat a1 b1).den, (mkRat a1 b1).den_nz, (mkRat a1 b1).reduced⟩)
  obtain ⟨k2, hk2, e2, e2'⟩ := Rat.mkRat_num_den (n := a2) h2 (rfl : mkRat a2 b2 = ⟨(mkRat a2 b2).num, (mkRat a2 b2).den, (mkRat a2 b2).den_nz, (mkRat a2 b2).reduced⟩)
  rw [Rat.lt_iff]
  have e1 : a1 = (mkRat a1 b1).num * k1 := e1
  have e2 : a2 = (mkRat a2 b2).num * k2 := e2
  have e1' : b1 = (mkRat a1 b1).den * k1 := e1'
  have e2' : b2 = (mkRat a2 b2).den * k2 := e2'
  generalize (mkRat a1 b1).num = n1 at *
  generalize (mkRat a1 b1).den = d1 at *
  generalize (mkRat a2 b2).num = n2 at *
  generalize (mkRat a2 b2).den = d2 at *
  rw [e1, e2, e1', e2']
  have hK : (0 : Int) < (k1 : Int) * k2 := Int.mul_pos (by omega) (by omega)
  rw [Int.natCast_mul, Int.natCast_mul, show n1 * (k1 : Int) * ((d2 : Int) * k2) = (n1 * d2) * (k1 * k2) by grind, show n2 * (k2 : Int) * ((d1 : Int) * k1) = (n2 * d1) * (k1 * k2) by grind]
  exact (Int.mul_lt_mul_right hK).symm
theorem mk_le {a1 a2 : Int} {b1 b2 : Nat} (h1 : b1 ≠ 0) (h2 : b2 ≠ 0) : mkRat a1 b1 ≤ mkRat a2 b2 ↔ a1 * b2 ≤ a2 * b1 := by
  rw [← Rat.not_lt, mk_lt h2 h1]; omega
/-- not too great for products -/
structure Fair (q : Rat) : Prop where
  num : q.num.natAbs < 2 ^ 120
  den : q.den < 2 ^ 120
theorem fair_mk {a : Int} {b : Nat} (ha : a.natAbs < 2 ^ 120) (hb : b < 2 ^ 120) : Fair (mkRat a b) := by
  by_cases h : b = 0
  · subst h
    exact ⟨by rw [Rat.num_mkRat]; simp, by rw [Rat.den_mkRat]; simp⟩
  · constructor
    · rw [Rat.num_mkRat, if_neg h]
      exact Nat.lt_of_le_of_lt (Int.natAbs_ediv_le_natAbs _ _) ha
    · rw [Rat.den_mkRat, if_neg h]
      exact Nat.lt_of_le_of_lt (Nat.div_le_self _ _) hb
theorem mul_lt {a b : Nat} (ha : a < 2 ^ 120) (hb : b < 2 ^ 120) : a * b < 2 ^ 240 := by
  have := Nat.mul_lt_mul'' ha hb
  rw [← Nat.pow_add] at this
  exact this
section
variable [Has T 17 f_17] [Has T 19 f_19] [Has T 20 f_20]
theorem plus_is (p q : Rat) (hp : Fair p) (hq : Fair q) (hn : 3 ≤ n) : run T Γ n 20 [qD p, qD q] = .ok (qD (p + q)) := by
  rw [run_at (by omega) rfl, Rat.add_def']
  have hd : 0 < (p.den : Int) * q.den := by
    have h1 := p.den_pos
    have h2 := q.den_pos
    exact Int.mul_pos (by omega) (by omega)
  have e := fraction_is (T := T) (Γ := Γ) (n := n - 1) (p.num * q.den + q.num * p.den) (p.den * q.den) hd (by
    rw [← Int.natCast_mul, Int.natAbs_natCast]
    exact Nat.lt_of_lt_of_le (mul_lt hp.den hq.den) (by decide)) (by omega)
  have ht : ((p.den : Int) * q.den).toNat = p.den * q.den := by rw [← Int.natCast_mul]; exact Int.toNat_natCast _
  rw [ht] at e
  obtain ⟨h1, h2⟩ := hp
  obtain ⟨h3, h4⟩ := hq
  simp (disch := wtm_at "d") [f_20, b_20, o_mulB, e]
end
section
variable [Has T 17 f_17] [Has T 19 f_19] [Has T 21 f_21]
theorem minus_is (p q : Rat) (hp : Fair p) (hq : Fair q) (hn : 3 ≤ n) : run T Γ n 21 [qD p, qD q] = .ok (qD (p - q)) := by
  rw [run_at (by omega) rfl, Rat.sub_def']
  have hd : 0 < (p.den : Int) * q.den := by
    have h1 := p.den_pos
    have h2 := q.den_pos
    exact Int.mul_pos (by omega) (by omega)
  have e := fraction_is (T := T) (Γ := Γ) (n := n - 1) (p.num * q.den - q.num * p.den) (p.den * q.den) hd (by
    rw [← Int.natCast_mul, Int.natAbs_natCast]
    exact Nat.lt_of_lt_of_le (mul_lt hp.den hq.den) (by decide)) (by omega)
  have ht : ((p.den : Int) * q.den).toNat = p.den * q.den := by rw [← Int.natCast_mul]; exact Int.toNat_natCast _
  rw [ht] at e
  obtain ⟨h1, h2⟩ := hp
  obtain ⟨h3, h4⟩ := hq
  simp (disch := wtm_at "d") [f_21, b_21, o_mulB, e]
end
section
variable [Has T 17 f_17] [Has T 19 f_19] [Has T 22 f_22]
theorem times_is (p q : Rat) (hp : Fair p) (hq : Fair q) (hn : 3 ≤ n) : run T Γ n 22 [qD p, qD q] = .ok (qD (p * q)) := by
  rw [run_at (by omega) rfl, Rat.mul_def']
  have hd : 0 < (p.den : Int) * q.den := by
    have h1 := p.den_pos
    have h2 := q.den_pos
    exact Int.mul_pos (by omega) (by omega)
  have e := fraction_is (T := T) (Γ := Γ) (n := n - 1) (p.num * q.num) (p.den * q.den) hd (by
    rw [← Int.natCast_mul, Int.natAbs_natCast]
    exact Nat.lt_of_lt_of_le (mul_lt hp.den hq.den) (by decide)) (by omega)
  have ht : ((p.den : Int) * q.den).toNat = p.den * q.den := by rw [← Int.natCast_mul]; exact Int.toNat_natCast _
  rw [ht] at e
  obtain ⟨h1, h2⟩ := hp
  obtain ⟨h3, h4⟩ := hq
  simp (disch := wtm_at "d") [f_22, b_22, o_mulB, e]
end
theorem lt_dec (p q : Rat) : decide (p.num * q.den < q.num * p.den) = decide (p < q) := by
  rw [decide_eq_decide]; exact (Rat.lt_iff p q).symm
section
variable [Has T 24 f_24]
theorem below_is (p q : Rat) (hp : Fair p) (hq : Fair q) (hn : 1 ≤ n) : run T Γ n 24 [qD p, qD q] = .ok (.bl (decide (p < q))) := by
  rw [run_at (by omega) rfl, ← lt_dec]
  obtain ⟨h1, h2⟩ := hp
  obtain ⟨h3, h4⟩ := hq
  simp (disch := wtm_at "d") [f_24, b_24, o_mulB]
end
section
variable [Has T 203 f_203]
theorem isless_is (p q : Rat) (hp : Fair p) (hq : Fair q) (hn : 1 ≤ n) : run T Γ n 203 [qD p, qD q] = .ok (.bl (decide (p < q))) := by
  rw [run_at (by omega) rfl, ← lt_dec]
  obtain ⟨h1, h2⟩ := hp
  obtain ⟨h3, h4⟩ := hq
  simp (disch := wtm_at "d") [f_203, b_203, o_mulB]
end
end G
/-! Graphs that are drawn, their parts. -/
namespace G
open PySem PP PW
variable {T : Nat → Option Fn} {Γ : Nat → Option D} {n : Nat}
local macro_rules | `(tactic| wtm_at "d") => `(tactic| first | decide | omega | (simp only [List.length_map, List.length_append, List.length_cons, List.length_nil, List.length_range, appW_len, chr_len, repW_len]; omega))
/-- a graph -/
structure Gr where
  ns : List Str
  es : List (Str × Str)
  deriving DecidableEq, Inhabited
abbrev prD (p : Str × Str) : D := .tup [.str p.1, .str p.2]
def grD (g : Gr) : D := .tup [.tup (g.ns.map D.str), .tup (g.es.map prD)]
@[simp] theorem grD_0 (g : Gr) : ixD (grD g) (.int 0) = .ok (.tup (g.ns.map D.str)) := by simp [grD]
@[simp] theorem grD_1 (g : Gr) : ixD (grD g) (.int 1) = .ok (.tup (g.es.map prD)) := by simp [grD]
structure Gr.Ok (g : Gr) : Prop where
  len : 1 ≤ g.ns.length ∧ g.ns.length ≤ 7
  name : ∀ s ∈ g.ns, NameOk s
  srt : g.ns.Pairwise SLt
  elen : g.es.length ≤ 12
  es : ∀ p ∈ g.es, p.1 ∈ g.ns ∧ p.2 ∈ g.ns ∧ SLt p.1 p.2
  esrt : g.es.Pairwise (PLt SLt SLt)
/-! a dict whose keys are two texts, its values True -/
abbrev TwoT := List ((Str × Str) × Unit)
def twoTD (m : TwoT) : D := .dt (m.map fun p => ([Sum.inr p.1.1, Sum.inr p.1.2], .bl true))
theorem twoT_put {m : TwoT} {u v : Str} (h : m.length < 16777216) : putD' (twoTD m) (.tup [.str u, .str v]) (.bl true) = some (twoTD (putA m (u, v) ())) := by
  have e := putA_map (ek := fun p : Str × Str => ([Sum.inr p.1, Sum.inr p.2] : List L2.Key)) (ev := fun _ : Unit => D.bl true) key2_inj m (u, v) ()
  show (if (m.map fun p => (([Sum.inr p.1.1, Sum.inr p.1.2] : List L2.Key), D.bl true)).length < sizeLine then some (D.dt (putD (m.map fun p => (([Sum.inr p.1.1, Sum.inr p.1.2] : List L2.Key), D.bl true)) [Sum.inr u, Sum.inr v] (.bl true))) else none) = _
  rw [if_pos (by rw [List.length_map, sizeLine_eq]; exact h), e]; rfl
theorem twoT_sorted (m : TwoT) : biD .sorted [twoTD m] = .ok (.lst ((srt (PLt SLt SLt) (m.map (·.1))).map prD)) := by
  have e : (m.map fun p => (([Sum.inr p.1.1, Sum.inr p.1.2] : List L2.Key), D.bl true)).map (fun p => D.tup (p.1.map keyD)) = (m.map (·.1)).map fun p : Str × Str => D.tup [.str p.1, .str p.2] := by
    rw [List.map_map, List.map_map]; rfl
  show R.when (sortOk ((m.map fun p => (([Sum.inr p.1.1, Sum.inr p.1.2] : List L2.Key), D.bl true)).map (fun p => D.tup (p.1.map keyD)))) (R.ok (D.lst (sortD ((m.map fun p => (([Sum.inr p.1.1, Sum.inr p.1.2] : List L2.Key), D.bl true)).map (fun p => D.tup (p.1.map keyD)))))) = _
  rw [e, SrtOk.ok (e := fun p : Str × Str => D.tup [.str p.1, .str p.2]), sortD_map (e := fun p : Str × Str => D.tup [.str p.1, .str p.2])]; rfl
section
variable [Has T 200 f_200] [Has T 235 f_235]
theorem graph_turn (xs : List Int) (hx : 19 ≤ xs.length) (most many : Int) (ts : List Str) (h0 : (ts.length : Int) = many) (h8 : 1 ≤ many ∧ many ≤ 8) (hs : ts.Pairwise SLt) (k : Nat) (hk : k < 13) (m : TwoT) (hl : m.length < 10000)
    (hnd : (m.map (·.1)).Nodup) (hm : ∀ p ∈ m.map (·.1), p.1 ∈ ts ∧ p.2 ∈ ts ∧ SLt p.1 p.2) :
    ∃ m', turn (run T Γ (n - 1)) Γ (.one 5) b_235_0 (.int k) [some (.lst (xs.map D.int)), some (.int most), some (.int many), some (.lst (ts.map D.str)), some (twoTD m), none, none, none] =
      .nx [some (.lst (xs.map D.int)), some (.int most), some (.int many), some (.lst (ts.map D.str)), some (twoTD m'), none, none, none] ∧ m'.length ≤ m.length + 1 ∧ (m'.map (·.1)).Nodup ∧ ∀ p ∈ m'.map (·.1), p.1 ∈ ts ∧ p.2 ∈ ts ∧ SLt p.1 p.2 := by
  have ei : ixD (.lst (xs.map D.int)) (.int (6 + (k : Int))) = .ok (.int (xs.getD (6 + (k : Int)).toNat default)) := ix_lstM (by omega)
  generalize xs.getD (6 + (k : Int)).toNat default = x at ei
  have o1 : 0 ≤ x % many ∧ x % many < many := ⟨Int.emod_nonneg _ (by omega), Int.emod_lt_of_pos _ (by omega)⟩
  have o2 : 0 ≤ x / 8 % many ∧ x / 8 % many < many := ⟨Int.emod_nonneg _ (by omega), Int.emod_lt_of_pos _ (by omega)⟩
  have q1 : o2D .mod (.int x) (.int many) = .ok (.int (x % many)) := o_mod (by omega)
  have q2 : o2D .mod (.int (x / 8)) (.int many) = .ok (.int (x / 8 % many)) := o_mod (by omega)
  generalize x % many = one at *
  generalize x / 8 % many = other at *
  by_cases c : one = other
  · subst c
    exact ⟨m, by simp (disch := wtm_at "d") [turn, b_235_0, setAll, ei, q1, q2, o_fdiv, wipeE], by omega, hnd, hm⟩
  · obtain ⟨lo, hi, e1, e2, hlo, hhi⟩ : ∃ lo hi : Int, (if other < one then other else one) = lo ∧ (if other > one then other else one) = hi ∧ (0 ≤ lo ∧ lo < hi) ∧ hi < many := by
      refine ⟨_, _, rfl, rfl, ?_⟩
      split <;> split <;> omega
    have h1 : lo.toNat < ts.length := by omega
    have h2 : hi.toNat < ts.length := by omega
    have i1 : ixD (.lst (ts.map D.str)) (.int lo) = .ok (.str ts[lo.toNat]) := by
      rw [ix_lstM (by omega), List.getD, List.getElem?_eq_getElem h1]; rfl
    have i2 : ixD (.lst (ts.map D.str)) (.int hi) = .ok (.str ts[hi.toNat]) := by
      rw [ix_lstM (by omega), List.getD, List.getElem?_eq_getElem h2]; rfl
    have hlt : SLt ts[lo.toNat] ts[hi.toNat] := (List.pairwise_iff_getElem.mp hs) _ _ h1 h2 (by omega)
    have hu : ts[lo.toNat] ∈ ts := List.getElem_mem h1
    have hv : ts[hi.toNat] ∈ ts := List.getElem_mem h2
    generalize ts[lo.toNat] = u at *
    generalize ts[hi.toNat] = v at *
    have ep := twoT_put (m := m) (u := u) (v := v) (by omega)
    refine ⟨putA m (u, v) (), ?_, putA_len _ _ _, putA_nodup hnd, fun p hp => ?_⟩
    · clear hnd hm hs
      simp (disch := wtm_at "d") [turn, b_235_0, put, setAll, ei, q1, q2, o_fdiv, c, e1, e2, i1, i2, ep, wipeE]
    · rw [putA_keys] at hp
      split at hp
      · exact hm p hp
      · rcases List.mem_append.mp hp with hp | hp
        · exact hm p hp
        · rw [List.mem_singleton.mp hp]; exact ⟨hu, hv, hlt⟩
theorem graph_any (xs : List Int) (hx : 19 ≤ xs.length) (most : Int) (hm : 1 ≤ most ∧ most ≤ 7) (hn : 2 ≤ n) : ∃ g : Gr, run T Γ n 235 [.lst (xs.map D.int), .int most] = .ok (grD g) ∧ g.Ok := by
  match xs, hx with
  | x0 :: x1 :: x2 :: x3 :: x4 :: x5 :: r, hx =>
    have hb : 0 ≤ x0 % most ∧ x0 % most < most := ⟨Int.emod_nonneg _ (by omega), Int.emod_lt_of_pos _ (by omega)⟩
    have q0 : o2D .mod (.int x0) (.int most) = .ok (.int (x0 % most)) := o_mod (by omega)
    generalize x0 % most = mm at *
    have hb5 : 0 ≤ x5 % 13 ∧ x5 % 13 < 13 := by omega
    obtain ⟨ts, et, lt, hok, hsrt⟩ := names_any (T := T) (Γ := Γ) (n := n - 1) (x1 :: x2 :: x3 :: x4 :: x5 :: r) (by simp) (1 + mm) (by omega) (by omega)
    obtain ⟨m, e, h1, h2, h3⟩ := for_inv (f := turn (run T Γ (n - 1)) Γ (.one 5) b_235_0) (enc := fun k : Nat => D.int k)
      (E := fun m : TwoT => [some (.lst ((x0 :: x1 :: x2 :: x3 :: x4 :: x5 :: r).map D.int)), some (.int most), some (.int (1 + mm)), some (.lst (ts.map D.str)), some (twoTD m), none, none, none])
      (fun ks m => (m.length + ks.length ≤ 12 ∧ ∀ k ∈ ks, k < 13) ∧ (m.map (·.1)).Nodup ∧ ∀ p ∈ m.map (·.1), p.1 ∈ ts ∧ p.2 ∈ ts ∧ SLt p.1 p.2)
      (fun k ks m ⟨⟨g1, g2⟩, g3, g4⟩ => by
        rw [List.length_cons] at g1
        obtain ⟨m', e, l, d, q⟩ := graph_turn (T := T) (Γ := Γ) (n := n) (x0 :: x1 :: x2 :: x3 :: x4 :: x5 :: r) hx most (1 + mm) ts (by omega) (by omega) hsrt k (g2 k List.mem_cons_self) m (by omega) g3 g4
        exact ⟨m', e, ⟨by omega, fun j hj => g2 j (List.mem_cons_of_mem _ hj)⟩, d, q⟩)
      (List.range (x5 % 13).toNat) [] ⟨⟨by simp; omega, fun k hk => by have := List.mem_range.mp hk; omega⟩, by simp, fun p hp => nomatch hp⟩
    refine ⟨⟨ts, srt (PLt SLt SLt) (m.map (·.1))⟩, ?_, ⟨by simp only; omega, hok, hsrt, ?_, fun p hp => h3 p (srt_mem.mp hp), srt_lt (srt2 (S := srtS) (S' := srtS)) h2⟩⟩
    · rw [run_at (by omega) rfl]
      have e0 : (D.dt ([] : List (List L2.Key × D))) = twoTD [] := rfl
      have es := twoT_sorted m
      have ed : List.drop 1 (D.int x0 :: D.int x1 :: D.int x2 :: D.int x3 :: D.int x4 :: D.int x5 :: List.map D.int r) = D.int x1 :: D.int x2 :: D.int x3 :: D.int x4 :: D.int x5 :: List.map D.int r := rfl
      simp only [List.map_cons] at et e
      simp (disch := wtm_at "d") [f_235, b_235, put, q0, cut_from, et, e0, o_mod, sm62_ok, rng0, e, es, grD]
    · simp only
      rw [srt_len, List.length_map]
      have := h1.1
      simpa using this
end
end G
/-! Parts of a graph, the densest. -/
namespace G
open PySem PP PW
variable {T : Nat → Option Fn} {Γ : Nat → Option D} {n : Nat}
local macro_rules | `(tactic| wtm_at "d") => `(tactic| first | decide | omega | (simp only [List.length_map, List.length_append, List.length_cons, List.length_nil, List.length_range, appW_len, chr_len, repW_len]; omega))
/-- how many pairs are within a part -/
def Gr.win (g : Gr) (c : List Str) : Nat := (g.es.filter fun p => decide (p.1 ∈ c ∧ p.2 ∈ c)).length
abbrev cD (c : List Str) : D := .tup (c.map D.str)
theorem win_comp (g : Gr) (c : List Str) (he : g.es.length ≤ 12) (ρ : PP.Env) (hρ : ρ = [some (grD g), some (cD c), none]) :
    mapR (lcI (run T Γ n) Γ (.var 2) (.one 2) (.cons (.and_ (.cmp .isIn (.ix (.var 2) (.int 0)) (.var 1)) (.cmp .isIn (.ix (.var 2) (.int 1)) (.var 1))) .nil) [2] ρ) (g.es.map prD) = .ok ((g.es.filter fun p => decide (p.1 ∈ c ∧ p.2 ∈ c)).map prD) := by
  subst hρ
  rw [mapR_map]
  refine mapR_if fun p _ => ?_
  by_cases h1 : p.1 ∈ c
  · by_cases h2 : p.2 ∈ c <;> simp (disch := wtm_at "d") [lcI, wipeE, ofE, c_in, in_tupF, h1, h2]
  · simp (disch := wtm_at "d") [lcI, wipeE, ofE, c_in, in_tupF, h1]
section
variable [Has T 99 f_99]
theorem within_is (g : Gr) (he : g.es.length ≤ 12) (c : List Str) (hn : 1 ≤ n) : run T Γ n 99 [grD g, cD c] = .ok (.int (g.win c)) := by
  rw [run_at (by omega) rfl]
  have e := win_comp (T := T) (Γ := Γ) (n := n - 1) g c he _ rfl
  simp (disch := wtm_at "d") [f_99, b_99, fits_ok, e, Gr.win]
end
section
variable [Has T 233 f_233]
theorem lwithin_is (g : Gr) (he : g.es.length ≤ 12) (c : List Str) (hn : 1 ≤ n) : run T Γ n 233 [grD g, cD c] = .ok (.int (g.win c)) := by
  rw [run_at (by omega) rfl]
  have e := win_comp (T := T) (Γ := Γ) (n := n - 1) g c he _ rfl
  simp (disch := wtm_at "d") [f_233, b_233, fits_ok, e, Gr.win]
end
/-- all parts but the empty one, by the law's numbers -/
def Gr.lparts (g : Gr) : List (List Str) := (List.range (2 ^ g.ns.length - 1)).map fun k => pick g.ns (1 + k)
section
variable [Has T 238 f_238]
theorem lparts_is (g : Gr) (hl : 1 ≤ g.ns.length ∧ g.ns.length ≤ 7) (hn : 1 ≤ n) : run T Γ n 238 [grD g] = .ok (.lst (g.lparts.map cD)) := by
  rw [run_at (by omega) rfl]
  have hp : 2 ^ g.ns.length ≤ 128 := Nat.le_trans (Nat.pow_le_pow_right (by decide) hl.2) (by decide)
  have e := (for_fold (f := turn (run T Γ (n - 1)) Γ (.one 2) b_238_0) (enc := fun k : Nat => D.int (1 + (k : Int))) (step := fun acc m => acc ++ [pick g.ns (1 + m)])
    (E := fun acc : List (List Str) => [some (grD g), some (.lst (acc.map cD)), none, none])
    (fun ms acc => acc.length + ms.length ≤ 128)
    (fun m ms acc h1 => by
      rw [List.length_cons] at h1
      have ec : mapR (lcI (run T Γ (n - 1)) Γ (.ix (.ix (.var 0) (.int 0)) (.var 3)) (.one 3) (.cons (.cmp .eq (.bin .band (.bin .shr (.var 2) (.var 3)) (.int 1)) (.int 1)) .nil) [3] [some (grD g), some (.lst (acc.map cD)), some (.int (1 + (m : Int))), none]) ((List.range g.ns.length).map fun k : Nat => D.int k) = .ok ((pick g.ns (1 + m)).map D.str) := by
        rw [mapR_map, pick, List.map_map]
        refine mapR_if fun k hk => ?_
        have hk := List.mem_range.mp hk
        have ec : (((1 + (m : Int)) / 2 ^ k % 2 = 1) = ((1 + m) / 2 ^ k % 2 = 1)) := by
          have : (1 + (m : Int)) = ((1 + m : Nat) : Int) := by omega
          rw [two_pow, this, ← Int.natCast_ediv]
          apply propext
          omega
        simp (disch := wtm_at "d") [lcI, wipeE, ofE, o_shrI, bitAnd1, ix_tupM, ec]
      refine ⟨?_, by simp only [List.length_append, List.length_cons, List.length_nil]; omega⟩
      simp (disch := wtm_at "d") [turn, b_238_0, put, ownL, rng0, sm62_ok, ec, fits_ok, sz_lt, wipeE, -List.map_map])
    (List.range (2 ^ g.ns.length - 1)) [] (by simp; omega)).1
  have ef : (List.range (2 ^ g.ns.length - 1)).foldl (fun acc m => acc ++ [pick g.ns (1 + m)]) [] = g.lparts := by
    rw [Gr.lparts, ← List.nil_append (List.map _ _), List.map_eq_flatMap]
    exact List.foldl_append_eq_append ..
  rw [ef] at e
  have hp2 : ((2 : Int) ^ g.ns.length).toNat = 2 ^ g.ns.length := by
    rw [two_pow]; exact Int.toNat_natCast _
  have hp3 : (2 : Int) ^ g.ns.length ≤ 128 ∧ 0 < (2 : Int) ^ g.ns.length := by
    rw [two_pow]; have := Nat.two_pow_pos g.ns.length; omega
  simp only [List.map_nil] at e
  simp (disch := wtm_at "d") [f_238, b_238, put, o_shlI, rngI, sm62_ok, hp2, e, -List.map_map]
end
/-- all parts, those of fewer names first -/
noncomputable def Gr.parts (g : Gr) : List (List Str) := (srt (PLt (· < ·) (RLt SLt)) (((subs g.ns).filter fun c => decide (c ≠ [])).map fun c => ((c.length : Int), c))).map (·.2)
abbrev lcD (p : Int × List Str) : D := .tup [.int p.1, .tup (p.2.map D.str)]
instance : SrtOk lcD := ⟨sortOk_of (e := fun p : Int × List Str => D.tup [.int p.1, .tup (p.2.map D.str)]) (S := srt2 (S := srtI) (S' := srtT (S := srtS))) (F := flat2 (F' := flatT)) (by decide) (.inl fun _ => rfl)⟩
section
variable [Has T 100 f_100]
theorem parts_is (g : Gr) (hl : g.ns.length ≤ 7) (hn : 1 ≤ n) : run T Γ n 100 [grD g] = .ok (.lst (g.parts.map cD)) := by
  rw [run_at (by omega) rfl]
  have e := (for_fold (f := turn (run T Γ (n - 1)) Γ (.one 2) b_100_0) (enc := D.str) (step := fun acc t => acc ++ acc.map (· ++ [t]))
    (E := fun acc : List (List Str) => [some (grD g), some (.lst (acc.map cD)), none, none, none, none])
    (fun ts acc => acc.length * 2 ^ ts.length ≤ 256 ∧ ∀ c ∈ acc, c.length + ts.length ≤ 8)
    (fun t ts acc ⟨h1, h2⟩ => by
      rw [List.length_cons, Nat.pow_succ] at h1
      have h3 : acc.length * 1 ≤ acc.length * 2 ^ ts.length := Nat.mul_le_mul_left _ (Nat.two_pow_pos _)
      have h4 : acc.length ≤ 256 := by rw [Nat.mul_comm _ 2, Nat.mul_left_comm] at h1; omega
      have ec : mapR (lcI (run T Γ (n - 1)) Γ (.bin .add (.var 5) (.tup (.cons (.var 2) .nil))) (.one 5) .nil [5] [some (grD g), some (.lst (acc.map cD)), some (.str t), none, none, none]) (acc.map cD) = .ok ((acc.map (· ++ [t])).map cD) := by
        rw [mapR_map, List.map_map]
        refine mapR_ok fun c hc => ?_
        have := h2 c hc
        simp (disch := wtm_at "d") [lcI, wipeE, ofE, o_addT]
      refine ⟨?_, ?_, fun c hc => ?_⟩
      · simp (disch := wtm_at "d") [turn, b_100_0, put, ec, fits_ok, o_addL, wipeE, -List.map_map]
      · rw [List.length_append, List.length_map, ← Nat.mul_two]
        rw [Nat.mul_comm _ 2, Nat.mul_left_comm] at h1
        rw [Nat.mul_comm acc.length 2, Nat.mul_assoc]; exact h1
      · rcases List.mem_append.mp hc with hc | hc
        · have := h2 c hc; rw [List.length_cons] at this; omega
        · obtain ⟨c', hc', rfl⟩ := List.mem_map.mp hc
          have := h2 c' hc'; simp only [List.length_cons, List.length_append, List.length_nil] at *; omega)
    g.ns [[]] ⟨by rw [List.length_singleton, Nat.one_mul]; exact Nat.le_trans (Nat.pow_le_pow_right (by decide) hl) (by decide), fun c hc => by rw [List.mem_singleton.mp hc]; simp; omega⟩).1
  rw [show g.ns.foldl (fun acc t => acc ++ acc.map (· ++ [t])) [[]] = subs g.ns from rfl] at e
  have hS := subs_len g.ns
  have hp : 2 ^ g.ns.length ≤ 128 := Nat.le_trans (Nat.pow_le_pow_right (by decide) hl) (by decide)
  have e2 : mapR (lcI (run T Γ (n - 1)) Γ (.tup (.cons (.bi .len (.cons (.var 5) .nil)) (.cons (.var 5) .nil))) (.one 5) (.cons (.cmp .ne (.var 5) (.tup .nil)) .nil) [5] [some (grD g), some (.lst ((subs g.ns).map cD)), none, none, none, none]) ((subs g.ns).map cD) = .ok ((((subs g.ns).filter fun c => decide (c ≠ [])).map fun c => ((c.length : Int), c)).map lcD) := by
    rw [mapR_map, List.map_map]
    refine mapR_if fun c _ => ?_
    have en : cmD .ne (cD c) (.tup []) = .ok (.bl (!decide (c = []))) := c_neF (e := fun c : List Str => D.tup (c.map D.str)) (by decide) c []
    by_cases hc : c = []
    · subst hc
      simp [lcI, wipeE, ofE, en]
    · simp [lcI, wipeE, ofE, en, hc]
  have e3 := sorted_lst (e := lcD) (lt := PLt (· < ·) (RLt SLt)) (S := srt2 (S := srtI) (S' := srtT (S := srtS))) (((subs g.ns).filter fun c => decide (c ≠ [])).map fun c => ((c.length : Int), c))
  simp only [ne_eq, decide_not] at e2 e3
  generalize hP : srt (PLt (· < ·) (RLt SLt)) (((subs g.ns).filter fun c => !decide (c = [])).map fun c => ((c.length : Int), c)) = P at e3
  have hPl : P.length ≤ 128 := by
    rw [← hP, srt_len, List.length_map]
    exact Nat.le_trans (List.length_filter_le _ _) (by omega)
  have e4 : ∀ x y z : Option D, mapR (lcI (run T Γ (n - 1)) Γ (.ix (.var 4) (.int 1)) (.one 4) .nil [4] [x, y, z, some (.lst (P.map lcD)), none, none]) (P.map lcD) = .ok ((P.map (·.2)).map cD) := fun x y z => by
    rw [mapR_map, List.map_map]
    exact mapR_ok fun p _ => by simp [lcI, wipeE, ofE]
  have hfl : ((subs g.ns).filter fun c => !decide (c = [])).length ≤ 128 := Nat.le_trans (List.length_filter_le _ _) (by omega)
  have hgp : g.parts = P.map (·.2) := by rw [Gr.parts, ← hP]; simp only [ne_eq, decide_not]
  rw [hgp]
  simp only [List.map_cons, List.map_nil] at e
  rw [show cD [] = D.tup [] from rfl] at e
  simp (disch := wtm_at "d") [f_100, b_100, put, e, fits_ok, e2, e3, e4, -List.map_map]
end
end G
/-! Densities: plain. -/
namespace G
open PySem PP PW
section
variable {α : Type}
theorem cnt_two (p q : α → Bool) : ∀ xs : List α, xs.countP p + xs.countP q = xs.countP (fun x => p x || q x) + xs.countP (fun x => p x && q x)
  | [] => rfl
  | x :: xs => by
    have ih := cnt_two p q xs
    simp only [List.countP_cons]
    cases p x <;> cases q x <;> simp <;> omega
theorem cnt_pairs (p q : α → Bool) : ∀ es : List (α × α), es.countP (fun e => p e.1 && p e.2) + es.countP (fun e => q e.1 && q e.2) ≤ es.countP (fun e => (p e.1 || q e.1) && (p e.2 || q e.2)) + es.countP (fun e => (p e.1 && q e.1) && (p e.2 && q e.2))
  | [] => Nat.le_refl _
  | x :: xs => by
    have ih := cnt_pairs p q xs
    simp only [List.countP_cons]
    cases p x.1 <;> cases q x.1 <;> cases p x.2 <;> cases q x.2 <;> simp <;> omega
/-- parts that are as dense as any are so together -/
theorem dense_or {ns : List α} {es : List (α × α)} {N D : Nat} (h : ∀ p : α → Bool, es.countP (fun e => p e.1 && p e.2) * D ≤ N * ns.countP p) {p q : α → Bool}
    (hp : es.countP (fun e => p e.1 && p e.2) * D = N * ns.countP p) (hq : es.countP (fun e => q e.1 && q e.2) * D = N * ns.countP q) :
    es.countP (fun e => (p e.1 || q e.1) && (p e.2 || q e.2)) * D = N * ns.countP (fun x => p x || q x) := by
  have h1 := h fun x => p x || q x
  have h2 := h fun x => p x && q x
  have c1 := cnt_two p q ns
  have c2 := Nat.mul_le_mul_right D (cnt_pairs p q es)
  rw [Nat.add_mul, Nat.add_mul] at c2
  have c3 : N * ns.countP p + N * ns.countP q = N * ns.countP (fun x => p x || q x) + N * ns.countP (fun x => p x && q x) := by
    rw [← Nat.mul_add, ← Nat.mul_add, c1]
  omega
theorem dense_any {ns : List α} {es : List (α × α)} {N D : Nat} (h : ∀ p : α → Bool, es.countP (fun e => p e.1 && p e.2) * D ≤ N * ns.countP p) : ∀ {ps : List (α → Bool)}, (∀ p ∈ ps, es.countP (fun e => p e.1 && p e.2) * D = N * ns.countP p) →
    es.countP (fun e => (ps.any fun p => p e.1) && (ps.any fun p => p e.2)) * D = N * ns.countP (fun x => ps.any fun p => p x)
  | [], _ => by simp
  | p :: ps, hp => by
    have ih := dense_any h (ps := ps) fun q hq => hp q (List.mem_cons_of_mem _ hq)
    have := dense_or h (p := p) (q := fun x => ps.any fun p => p x) (hp p List.mem_cons_self) ih
    simpa only [List.any_cons] using this
end
section
variable {α : Type} [DecidableEq α]
theorem sub_filter {c ns : List α} (h : c.Sublist ns) (hn : ns.Nodup) : c = ns.filter fun t => decide (t ∈ c) := by
  induction h with
  | slnil => rfl
  | @cons l1 l2 a h ih =>
    have hn' := List.nodup_cons.mp hn
    have ha : a ∉ l1 := fun q => hn'.1 (h.subset q)
    rw [List.filter_cons, if_neg (by simpa using ha)]
    exact ih hn'.2
  | @cons_cons l1 l2 a h ih =>
    have hn' := List.nodup_cons.mp hn
    rw [List.filter_cons, if_pos (by simp)]
    congr 1
    have e := ih hn'.2
    have e2 : (l2.filter fun t => decide (t ∈ a :: l1)) = l2.filter fun t => decide (t ∈ l1) := by
      apply List.filter_congr
      intro x hx
      have : x ≠ a := fun q => hn'.1 (q ▸ hx)
      simp [this]
    rw [e2]; exact e
theorem sub_len {c ns : List α} (h : c.Sublist ns) (hn : ns.Nodup) : c.length = ns.countP fun t => decide (t ∈ c) := by
  rw [List.countP_eq_length_filter, ← sub_filter h hn]
end
theorem win_cnt (g : Gr) (c : List Str) : g.win c = g.es.countP fun e => decide (e.1 ∈ c) && decide (e.2 ∈ c) := by
  rw [Gr.win, List.countP_eq_length_filter]
  congr 2
  funext p
  simp
theorem rlt_le {a b c : Rat} (h : a < b) (h' : b ≤ c) : a < c := by grind
/-- the last of the greatest -/
def lastMax {α : Type} (w : α → Rat) (best : Option (Rat × α)) (x : α) : Option (Rat × α) := match best with
  | none => some (w x, x)
  | some b => if w x < b.1 then some b else some (w x, x)
theorem lastMax_spec {α : Type} {w : α → Rat} {R : α → α → Prop} : ∀ (xs : List α) (b : α), (∀ x ∈ xs, R b x) → xs.Pairwise R → ∃ c, xs.foldl (lastMax w) (some (w b, b)) = some (w c, c) ∧ (c = b ∨ c ∈ xs) ∧ (w b ≤ w c ∧ ∀ d ∈ xs, w d ≤ w c) ∧ (w b = w c → b = c ∨ R b c) ∧ ∀ d ∈ xs, w d = w c → d = c ∨ R d c
  | [], b, _, _ => ⟨b, rfl, .inl rfl, ⟨Rat.le_refl, fun d hd => nomatch hd⟩, fun _ => .inl rfl, fun d hd => nomatch hd⟩
  | x :: xs, b, hb, hp => by
    have hp' := List.pairwise_cons.mp hp
    by_cases h : w x < w b
    · obtain ⟨c, e, h1, h2, h3, h4⟩ := lastMax_spec (w := w) xs b (fun y hy => hb y (List.mem_cons_of_mem _ hy)) hp'.2
      refine ⟨c, ?_, ?_, ⟨h2.1, ?_⟩, h3, ?_⟩
      · rw [List.foldl_cons]
        show xs.foldl (lastMax w) (if w x < w b then some (w b, b) else some (w x, x)) = _
        rw [if_pos h]; exact e
      · rcases h1 with h1 | h1
        · exact .inl h1
        · exact .inr (List.mem_cons_of_mem _ h1)
      · intro d hd
        rcases List.mem_cons.mp hd with rfl | hd
        · exact Rat.le_trans (Rat.le_of_lt h) h2.1
        · exact h2.2 d hd
      · intro d hd he
        rcases List.mem_cons.mp hd with rfl | hd
        · rw [he] at h
          exact absurd (rlt_le h h2.1) Rat.lt_irrefl
        · exact h4 d hd he
    · obtain ⟨c, e, h1, h2, h3, h4⟩ := lastMax_spec (w := w) xs x hp'.1 hp'.2
      have hbx : w b ≤ w x := Rat.not_lt.mp h
      refine ⟨c, ?_, ?_, ⟨Rat.le_trans hbx h2.1, ?_⟩, ?_, ?_⟩
      · rw [List.foldl_cons]
        show xs.foldl (lastMax w) (if w x < w b then some (w b, b) else some (w x, x)) = _
        rw [if_neg h]; exact e
      · rcases h1 with h1 | h1
        · rw [h1]; exact .inr List.mem_cons_self
        · exact .inr (List.mem_cons_of_mem _ h1)
      · intro d hd
        rcases List.mem_cons.mp hd with rfl | hd
        · exact h2.1
        · exact h2.2 d hd
      · intro he
        right
        rcases h1 with h1 | h1
        · rw [h1]; exact hb x List.mem_cons_self
        · exact hb c (List.mem_cons_of_mem _ h1)
      · intro d hd he
        rcases List.mem_cons.mp hd with rfl | hd
        · exact h3 he
        · exact h4 d hd he
/-- the greatest, and all that is in those that have it -/
def maxAll {α : Type} [DecidableEq α] (w : List α → Rat) (s : Option Rat × List (α × Unit)) (c : List α) : Option Rat × List (α × Unit) :=
  let s1 := match s.1 with
    | none => (w c, [])
    | some b => if b < w c then (w c, []) else (b, s.2)
  (some s1.1, if w c = s1.1 then c.foldl (fun m t => putA m t ()) s1.2 else s1.2)
theorem putAll_keys {α : Type} [DecidableEq α] : ∀ (c : List α) (m : List (α × Unit)), (m.map (·.1)).Nodup → ((c.foldl (fun m t => putA m t ()) m).map (·.1)).Nodup ∧ ∀ t, t ∈ (c.foldl (fun m t => putA m t ()) m).map (·.1) ↔ t ∈ m.map (·.1) ∨ t ∈ c
  | [], m, h => ⟨h, fun t => by simp⟩
  | x :: c, m, h => by
    obtain ⟨h1, h2⟩ := putAll_keys c (putA m x ()) (putA_nodup h)
    refine ⟨h1, fun t => ?_⟩
    rw [List.foldl_cons, h2, putA_keys]
    split
    · rename_i hx
      constructor
      · rintro (q | q)
        · exact .inl q
        · exact .inr (List.mem_cons_of_mem _ q)
      · rintro (q | q)
        · exact .inl q
        · rcases List.mem_cons.mp q with rfl | q
          · exact .inl hx
          · exact .inr q
    · simp only [List.mem_append, List.mem_cons, List.not_mem_nil, or_false]
      constructor
      · rintro ((q | q) | q)
        · exact .inl q
        · exact .inr (.inl q)
        · exact .inr (.inr q)
      · rintro (q | q | q)
        · exact .inl (.inl q)
        · exact .inl (.inr q)
        · exact .inr q
theorem maxAll_spec {α : Type} [DecidableEq α] {w : List α → Rat} : ∀ (xs : List (List α)) (done : List (List α)) (b : Rat) (m : List (α × Unit)), (∃ d ∈ done, w d = b) → (∀ d ∈ done, w d ≤ b) → (m.map (·.1)).Nodup → (∀ t, t ∈ m.map (·.1) ↔ ∃ d ∈ done, w d = b ∧ t ∈ d) →
    ∃ b' m', xs.foldl (maxAll w) (some b, m) = (some b', m') ∧ (∃ d ∈ done ++ xs, w d = b') ∧ (∀ d ∈ done ++ xs, w d ≤ b') ∧ (m'.map (·.1)).Nodup ∧ ∀ t, t ∈ m'.map (·.1) ↔ ∃ d ∈ done ++ xs, w d = b' ∧ t ∈ d
  | [], done, b, m, h1, h2, h3, h4 => ⟨b, m, rfl, by simpa using h1, by simpa using h2, h3, by simpa using h4⟩
  | x :: xs, done, b, m, h1, h2, h3, h4 => by
    rw [List.foldl_cons, show done ++ x :: xs = (done ++ [x]) ++ xs from by simp]
    by_cases c1 : b < w x
    · have e : maxAll w (some b, m) x = (some (w x), x.foldl (fun m t => putA m t ()) []) := by simp [maxAll, c1]
      rw [e]
      obtain ⟨q1, q2⟩ := putAll_keys x [] (by simp)
      refine maxAll_spec xs (done ++ [x]) (w x) _ ⟨x, by simp, rfl⟩ (fun d hd => ?_) q1 fun t => ?_
      · rcases List.mem_append.mp hd with hd | hd
        · exact Rat.le_trans (h2 d hd) (Rat.le_of_lt c1)
        · rw [List.mem_singleton.mp hd]; exact Rat.le_refl
      · rw [q2]
        constructor
        · rintro (q | q)
          · simp at q
          · exact ⟨x, by simp, rfl, q⟩
        · rintro ⟨d, hd, he, ht⟩
          rcases List.mem_append.mp hd with hd | hd
          · have := h2 d hd
            rw [he] at this
            exact absurd (rlt_le c1 this) Rat.lt_irrefl
          · rw [List.mem_singleton.mp hd] at ht; exact .inr ht
    · have hle : w x ≤ b := Rat.not_lt.mp c1
      by_cases c2 : w x = b
      · have e : maxAll w (some b, m) x = (some b, x.foldl (fun m t => putA m t ()) m) := by simp [maxAll, c1, c2]
        rw [e]
        obtain ⟨q1, q2⟩ := putAll_keys x m h3
        refine maxAll_spec xs (done ++ [x]) b _ ⟨x, by simp, c2⟩ (fun d hd => ?_) q1 fun t => ?_
        · rcases List.mem_append.mp hd with hd | hd
          · exact h2 d hd
          · rw [List.mem_singleton.mp hd]; exact hle
        · rw [q2, h4]
          constructor
          · rintro (⟨d, hd, q⟩ | q)
            · exact ⟨d, by simp [hd], q⟩
            · exact ⟨x, by simp, c2, q⟩
          · rintro ⟨d, hd, he, ht⟩
            rcases List.mem_append.mp hd with hd | hd
            · exact .inl ⟨d, hd, he, ht⟩
            · rw [List.mem_singleton.mp hd] at ht; exact .inr ht
      · have e : maxAll w (some b, m) x = (some b, m) := by simp [maxAll, c1, c2]
        rw [e]
        obtain ⟨d0, hd0, he0⟩ := h1
        refine maxAll_spec xs (done ++ [x]) b m ⟨d0, by simp [hd0], he0⟩ (fun d hd => ?_) h3 fun t => ?_
        · rcases List.mem_append.mp hd with hd | hd
          · exact h2 d hd
          · rw [List.mem_singleton.mp hd]; exact hle
        · rw [h4]
          constructor
          · rintro ⟨d, hd, q⟩
            exact ⟨d, by simp [hd], q⟩
          · rintro ⟨d, hd, he, ht⟩
            rcases List.mem_append.mp hd with hd | hd
            · exact ⟨d, hd, he, ht⟩
            · rw [List.mem_singleton.mp hd] at he; exact absurd he c2
end G
/-! densest. -/
namespace G
open PySem PP PW
variable {T : Nat → Option Fn} {Γ : Nat → Option D} {n : Nat}
local macro_rules | `(tactic| wtm_at "d") => `(tactic| first | decide | omega | (simp only [List.length_map, List.length_append, List.length_cons, List.length_nil, List.length_range]; omega))
/-- how dense a part is -/
def Gr.dens (g : Gr) (c : List Str) : Rat := mkRat (g.win c) c.length
theorem win_le (g : Gr) (he : g.es.length ≤ 12) (c : List Str) : g.win c ≤ 12 := Nat.le_trans (List.length_filter_le _ _) he
theorem dens_fair (g : Gr) (he : g.es.length ≤ 12) (c : List Str) (hc : c.length ≤ 7) : Fair (g.dens c) := by
  have := win_le g he c
  exact fair_mk (by rw [Int.natAbs_natCast]; exact Nat.lt_of_le_of_lt this (by decide)) (Nat.lt_of_le_of_lt hc (by decide))
def bestD : Option (Rat × List Str) → D
  | none => .non
  | some b => .tup [qD b.1, .tup (b.2.map D.str)]
theorem parts_mem {g : Gr} {c : List Str} : c ∈ g.parts ↔ c.Sublist g.ns ∧ c ≠ [] := by
  unfold Gr.parts
  simp only [List.mem_map, srt_mem, List.mem_filter, mem_subs, decide_eq_true_eq]
  constructor
  · rintro ⟨p, ⟨d, ⟨h1, h2⟩, rfl⟩, rfl⟩; exact ⟨h1, h2⟩
  · rintro ⟨h1, h2⟩; exact ⟨(c.length, c), ⟨c, ⟨h1, h2⟩, rfl⟩, rfl⟩
theorem parts_srt (g : Gr) (hn : g.ns.Nodup) : g.parts.Pairwise fun c d => c.length ≤ d.length := by
  unfold Gr.parts
  rw [List.pairwise_map]
  have h1 : ((((subs g.ns).filter fun c => decide (c ≠ [])).map fun c => ((c.length : Int), c))).Nodup := by
    rw [List.nodup_iff_pairwise_ne, List.pairwise_map]
    exact ((subs_nodup hn).filter _).imp fun h e => h (Prod.mk.inj e).2
  have h2 := srt_lt (S := srt2 (S := srtI) (S' := srtT (S := srtS))) h1
  refine h2.imp_of_mem fun {p q} hp hq h => ?_
  have f : ∀ p, p ∈ srt (PLt (· < ·) (RLt SLt)) (((subs g.ns).filter fun c => decide (c ≠ [])).map fun c => ((c.length : Int), c)) → p.1 = p.2.length := fun p hp => by
    obtain ⟨d, _, rfl⟩ := List.mem_map.mp (srt_mem.mp hp); rfl
  have e1 := f p hp
  have e2 := f q hq
  rcases h with h | h
  · omega
  · have := h.1; omega
section
variable [Has T 17 f_17] [Has T 19 f_19] [Has T 24 f_24] [Has T 99 f_99] [Has T 100 f_100] [Has T 101 f_101]
theorem densest_is (g : Gr) (hg : g.Ok) (hn : 4 ≤ n) : run T Γ n 101 [grD g] = .ok (bestD (g.parts.foldl (lastMax g.dens) none)) := by
  rw [run_at (by omega) rfl]
  have ep := parts_is (T := T) (Γ := Γ) (n := n - 1) g hg.len.2 (by omega)
  have e := (for_fold (f := turn (run T Γ (n - 1)) Γ (.one 2) b_101_0) (enc := cD) (step := lastMax g.dens)
    (E := fun b : Option (Rat × List Str) => [some (grD g), some (bestD b), none, none])
    (fun cs b => (∀ c ∈ cs, 1 ≤ c.length ∧ c.length ≤ 7) ∧ ∀ p, b = some p → Fair p.1)
    (fun c cs b ⟨h1, h2⟩ => by
      have hc := h1 c List.mem_cons_self
      have ew := within_is (T := T) (Γ := Γ) (n := n - 1) g hg.elen c (by omega)
      have ef := fraction_is (T := T) (Γ := Γ) (n := n - 1) (g.win c) c.length (by omega) (by have := hc.2; rw [Int.natAbs_natCast]; exact Nat.lt_of_le_of_lt this (by decide)) (by omega)
      have hf := dens_fair g hg.elen c hc.2
      rw [Int.toNat_natCast] at ef
      have ef : run T Γ (n - 1) 19 [.int (g.win c), .int c.length] = .ok (qD (g.dens c)) := ef
      refine ⟨?_, fun d hd => h1 d (List.mem_cons_of_mem _ hd), ?_⟩
      · cases b with
        | none => simp (disch := wtm_at "d") [turn, b_101_0, put, bestD, ew, ef, cmD, lastMax, wipeE]
        | some p =>
          have eb := below_is (T := T) (Γ := Γ) (n := n - 1) (g.dens c) p.1 hf (h2 p rfl) (by omega)
          by_cases hl : g.dens c < p.1
          · simp (disch := wtm_at "d") [turn, b_101_0, put, bestD, ew, ef, cmD, lastMax, wipeE, eb, hl]
          · simp (disch := wtm_at "d") [turn, b_101_0, put, bestD, ew, ef, cmD, lastMax, wipeE, eb, hl]
      · intro p hp
        cases b with
        | none => cases hp; exact hf
        | some q =>
          simp only [lastMax] at hp
          split at hp
          · cases hp; exact h2 p rfl
          · cases hp; exact hf)
    g.parts none ⟨fun c hc => by
      obtain ⟨h1, h2⟩ := parts_mem.mp hc
      have := h1.length_le
      have := hg.len
      have : c.length ≠ 0 := fun q => h2 (List.length_eq_zero_iff.mp q)
      omega, fun p hp => nomatch hp⟩).1
  have e0 : bestD none = .non := rfl
  rw [e0] at e
  simp (disch := wtm_at "d") [f_101, b_101, put, ep, e]
end
end G
/-! The densest part is all that is in densest ones. -/
namespace G
open PySem PP PW
theorem subs_lparts (g : Gr) : subs g.ns = [] :: g.lparts := by
  rw [← pick_all]
  have h : 2 ^ g.ns.length = (2 ^ g.ns.length - 1) + 1 := by have := Nat.two_pow_pos g.ns.length; omega
  rw [h, List.range_succ_eq_map, List.map_cons, Gr.lparts, List.map_map]
  congr 1
  · simp [pick]
  · apply List.map_congr_left
    intro k _
    simp only [Function.comp]
    rw [Nat.succ_eq_one_add]
theorem lparts_mem {g : Gr} (hn : g.ns.Nodup) {c : List Str} : c ∈ g.lparts ↔ c.Sublist g.ns ∧ c ≠ [] := by
  have h := subs_nodup hn
  rw [subs_lparts, List.nodup_cons] at h
  rw [← mem_subs, subs_lparts, List.mem_cons]
  constructor
  · intro q; exact ⟨.inr q, fun e => h.1 (e ▸ q)⟩
  · rintro ⟨q | q, e⟩
    · exact absurd q e
    · exact q
theorem srt_nodup {ts : List Str} (h : ts.Pairwise SLt) : ts.Nodup := h.imp fun {a b} h q => by rw [q] at h; exact srtS.irr _ h
theorem filter_sub {α : Type} {p q : α → Bool} (h : ∀ a, p a = true → q a = true) (l : List α) : (l.filter p).Sublist (l.filter q) := by
  have e : l.filter p = (l.filter q).filter p := by
    rw [List.filter_filter]
    apply List.filter_congr
    intro a _
    cases hp : p a with
    | true => simp [h a hp]
    | false => simp
  rw [e]; exact List.filter_sublist
theorem dens_le {g : Gr} {c d : List Str} (hc : 0 < c.length) (hd : 0 < d.length) : g.dens c ≤ g.dens d ↔ g.win c * d.length ≤ g.win d * c.length := by
  unfold Gr.dens
  rw [mk_le (by omega) (by omega)]
  rw [← Int.natCast_mul, ← Int.natCast_mul]
  omega
theorem dens_eq {g : Gr} {c d : List Str} (hc : 0 < c.length) (hd : 0 < d.length) : g.dens c = g.dens d ↔ g.win c * d.length = g.win d * c.length := by
  unfold Gr.dens
  rw [Rat.mkRat_eq_iff (by omega) (by omega), ← Int.natCast_mul, ← Int.natCast_mul]
  omega
/-- two rows in order with the same things are one -/
theorem srt_same {xs ys : List Str} (hx : xs.Pairwise SLt) (hy : ys.Pairwise SLt) (h : ∀ t, t ∈ xs ↔ t ∈ ys) : xs = ys :=
  perm_eq srtS.irr srtS.tr ((List.perm_ext_iff_of_nodup (srt_nodup hx) (srt_nodup hy)).mpr h) hx hy
/-- the part by a look -/
theorem win_filter (g : Gr) (hg : g.Ok) (p : Str → Bool) : g.win (g.ns.filter p) = g.es.countP fun e => p e.1 && p e.2 := by
  rw [win_cnt]
  apply List.countP_congr
  intro e he
  obtain ⟨h1, h2, _⟩ := hg.es e he
  simp [h1, h2]
theorem union_dense (g : Gr) (hg : g.Ok) {c : List Str} (hc : c.Sublist g.ns ∧ c ≠ []) (hmax : ∀ d, d.Sublist g.ns ∧ d ≠ [] → g.dens d ≤ g.dens c) (ps : List (List Str)) (hps : ∀ d ∈ ps, (d.Sublist g.ns ∧ d ≠ []) ∧ g.dens d = g.dens c) (hne : ps ≠ []) :
    let U := g.ns.filter fun t => ps.any fun d => decide (t ∈ d)
    (U.Sublist g.ns ∧ U ≠ []) ∧ g.dens U = g.dens c := by
  intro U
  have hnd := srt_nodup hg.srt
  have pos : ∀ d : List Str, d ≠ [] → 0 < d.length := fun d h => Nat.pos_of_ne_zero fun q => h (List.length_eq_zero_iff.mp q)
  have hcp := pos c hc.2
  have hall : ∀ p : Str → Bool, g.es.countP (fun e => p e.1 && p e.2) * c.length ≤ g.win c * g.ns.countP p := by
    intro p
    rw [← win_filter g hg p, List.countP_eq_length_filter]
    by_cases h : g.ns.filter p = []
    · rw [h]
      have : g.win [] = 0 := by simp [Gr.win]
      rw [this]; simp
    · exact (dens_le (pos _ h) hcp).mp (hmax _ ⟨List.filter_sublist, h⟩)
  have hU : g.win U * c.length = g.win c * U.length := by
    have := dense_any hall (ps := ps.map fun d t => decide (t ∈ d)) (fun p hp => by
      obtain ⟨d, hd, rfl⟩ := List.mem_map.mp hp
      obtain ⟨⟨h1, h2⟩, h3⟩ := hps d hd
      have := (dens_eq (pos d h2) hcp).mp h3
      rw [win_cnt, sub_len h1 hnd] at this
      exact this)
    simp only [List.any_map, Function.comp_def] at this
    rw [win_filter g hg, ← List.countP_eq_length_filter]
    exact this
  have hne2 : U ≠ [] := by
    obtain ⟨d, hd⟩ := List.exists_mem_of_ne_nil _ hne
    obtain ⟨⟨h1, h2⟩, _⟩ := hps d hd
    obtain ⟨t, ht⟩ := List.exists_mem_of_ne_nil _ h2
    have : t ∈ U := List.mem_filter.mpr ⟨h1.subset ht, by simp only [List.any_eq_true, decide_eq_true_eq]; exact ⟨d, hd, ht⟩⟩
    exact List.ne_nil_of_mem this
  exact ⟨⟨List.filter_sublist, hne2⟩, (dens_eq (pos U hne2) hcp).mpr hU⟩
/-- the last of the densest parts, and all names of densest parts -/
theorem densest_all (g : Gr) (hg : g.Ok) : ∃ (c : List Str) (m : List (Str × Unit)), g.parts.foldl (lastMax g.dens) none = some (g.dens c, c) ∧ g.lparts.foldl (maxAll g.dens) (none, []) = (some (g.dens c), m) ∧ srt SLt (m.map (·.1)) = c ∧ m.length ≤ 7 ∧ c.length ≤ 7 := by
  have hnd := srt_nodup hg.srt
  have hlen := hg.len
  have hne : g.parts ≠ [] := by
    have : g.ns ∈ g.parts := parts_mem.mpr ⟨List.Sublist.refl _, by intro q; rw [q] at hlen; simp at hlen⟩
    exact List.ne_nil_of_mem this
  have hne' : g.lparts ≠ [] := by
    have : g.ns ∈ g.lparts := (lparts_mem hnd).mpr ⟨List.Sublist.refl _, by intro q; rw [q] at hlen; simp at hlen⟩
    exact List.ne_nil_of_mem this
  obtain ⟨c, e, hcm, hmax, hlast⟩ : ∃ c, g.parts.foldl (lastMax g.dens) none = some (g.dens c, c) ∧ c ∈ g.parts ∧ (∀ d ∈ g.parts, g.dens d ≤ g.dens c) ∧ ∀ d ∈ g.parts, g.dens d = g.dens c → d = c ∨ d.length ≤ c.length := by
    have hs := parts_srt g hnd
    cases hp : g.parts with
    | nil => exact absurd hp hne
    | cons x xs =>
      rw [hp] at hs
      have hs' := List.pairwise_cons.mp hs
      obtain ⟨c, e, h1, h2, h3, h4⟩ := lastMax_spec (w := g.dens) xs x hs'.1 hs'.2
      refine ⟨c, e, ?_, fun d hd => ?_, fun d hd he => ?_⟩
      · rcases h1 with h1 | h1
        · rw [h1]; exact List.mem_cons_self
        · exact List.mem_cons_of_mem _ h1
      · rcases List.mem_cons.mp hd with rfl | hd
        · exact h2.1
        · exact h2.2 d hd
      · rcases List.mem_cons.mp hd with rfl | hd
        · exact h3 he
        · exact h4 d hd he
  obtain ⟨b, m, e2, ⟨d0, hd0, he0⟩, hb, hmn, hmm⟩ : ∃ b m, g.lparts.foldl (maxAll g.dens) (none, []) = (some b, m) ∧ (∃ d ∈ g.lparts, g.dens d = b) ∧ (∀ d ∈ g.lparts, g.dens d ≤ b) ∧ (m.map (·.1)).Nodup ∧ ∀ t, t ∈ m.map (·.1) ↔ ∃ d ∈ g.lparts, g.dens d = b ∧ t ∈ d := by
    cases hp : g.lparts with
    | nil => exact absurd hp hne'
    | cons x xs =>
      have e0 : maxAll g.dens (none, []) x = (some (g.dens x), x.foldl (fun m t => putA m t ()) []) := by simp [maxAll]
      obtain ⟨q1, q2⟩ := putAll_keys x [] (by simp)
      obtain ⟨b, m, h1, h2, h3, h4, h5⟩ := maxAll_spec (w := g.dens) xs [x] (g.dens x) (x.foldl (fun m t => putA m t ()) []) ⟨x, by simp, rfl⟩ (fun d hd => by rw [List.mem_singleton.mp hd]; exact Rat.le_refl) q1 (fun t => by
        rw [q2]; simp)
      exact ⟨b, m, by rw [List.foldl_cons, e0]; exact h1, h2, h3, h4, h5⟩
  have hc := parts_mem.mp hcm
  have hbc : b = g.dens c := by
    refine Rat.le_antisymm ?_ (hb c ((lparts_mem hnd).mpr hc))
    rw [← he0]
    exact hmax d0 (parts_mem.mpr ((lparts_mem hnd).mp hd0))
  subst hbc
  have hU := union_dense g hg hc (fun d hd => hmax d (parts_mem.mpr hd)) (g.lparts.filter fun d => decide (g.dens d = g.dens c)) (fun d hd => by
    have := List.mem_filter.mp hd
    exact ⟨(lparts_mem hnd).mp this.1, by simpa using this.2⟩) (List.ne_nil_of_mem (List.mem_filter.mpr ⟨(lparts_mem hnd).mpr hc, by simp⟩))
  simp only at hU
  generalize hUd : (g.ns.filter fun t => (g.lparts.filter fun d => decide (g.dens d = g.dens c)).any fun d => decide (t ∈ d)) = U at hU
  have hUm : ∀ t, t ∈ U ↔ t ∈ m.map (·.1) := fun t => by
    rw [hmm, ← hUd, List.mem_filter]
    simp only [List.any_eq_true, List.mem_filter, decide_eq_true_eq]
    constructor
    · rintro ⟨_, d, ⟨h1, h2⟩, h3⟩; exact ⟨d, h1, h2, h3⟩
    · rintro ⟨d, h1, h2, h3⟩; exact ⟨((lparts_mem hnd).mp h1).1.subset h3, d, ⟨h1, h2⟩, h3⟩
  have hcU : c = U := by
    rcases hlast U (parts_mem.mpr hU.1) hU.2 with h | h
    · exact h.symm
    · have hsub : c.Sublist U := by
        have e1 := sub_filter hc.1 hnd
        have e2 := sub_filter hU.1.1 hnd
        rw [e1, e2]
        apply filter_sub
        intro t ht
        simp only [decide_eq_true_eq] at ht ⊢
        rw [hUm, hmm]
        exact ⟨c, (lparts_mem hnd).mpr hc, rfl, ht⟩
      exact hsub.eq_of_length_le h
  have hU2 : U.Pairwise SLt := hg.srt.sublist hU.1.1
  refine ⟨c, m, e, e2, ?_, ?_, ?_⟩
  · rw [hcU]
    exact srt_same (srt_lt srtS hmn) hU2 fun t => by rw [srt_mem, hUm]
  · have h1 : (m.map (·.1)).length ≤ g.ns.length := by
      refine List.Nodup.length_le_of_subset hmn fun t ht => ?_
      exact hU.1.1.subset ((hUm t).mpr ht)
    rw [List.length_map] at h1
    omega
  · have := hc.1.length_le; omega
end G
/-! is_graph. -/
namespace G
open PySem PP PW
variable {T : Nat → Option Fn} {Γ : Nat → Option D} {n : Nat}
local macro_rules | `(tactic| wtm_at "d") => `(tactic| first | decide | omega | (simp only [List.length_map, List.length_append, List.length_cons, List.length_nil, List.length_range, appW_len, chr_len, repW_len]; omega))
/-- what is asked of a graph's two parts -/
def partsB (ns es : List D) : Bool := (decide (1 ≤ ns.length ∧ ns.length ≤ 7 ∧ es.length ≤ 12) && ns.all nmB) && (match allS ns with
    | some ss => decide (ss.Pairwise SLt) && (es.all (pairB ss) && (match allP es with
      | some ps => decide (ps.Pairwise (PLt SLt SLt))
      | none => false))
    | none => false)
def grB : D → Bool
  | .tup [.tup ns, .tup es] => partsB ns es
  | _ => false
theorem names_str : ∀ {ns : List D}, ns.all nmB = true → ∃ ss : List Str, ns = ss.map D.str
  | [], _ => ⟨[], rfl⟩
  | d :: ds, h => by
    rw [List.all_cons, Bool.and_eq_true] at h
    obtain ⟨ss, rfl⟩ := names_str h.2
    cases d with
    | str s => exact ⟨s :: ss, rfl⟩
    | _ => exact absurd h.1 (by simp [nmB])
theorem two_tups {ds : List D} (h2 : ds.length = 2) : (∃ a b : List D, ds = [.tup a, .tup b]) ∨ ds.all (tyB .tuple) = false := by
  match ds, h2 with
  | [x, y], _ =>
    by_cases hx : tyB .tuple x = true
    · obtain ⟨a, rfl⟩ := tup_of hx
      by_cases hy : tyB .tuple y = true
      · obtain ⟨b, rfl⟩ := tup_of hy
        exact .inl ⟨a, b, rfl⟩
      · exact .inr (by simp [hy])
    · exact .inr (by simp [hx])
theorem grB_no {ds : List D} (h : ds.length = 2 → ds.all (tyB .tuple) = false) : grB (.tup ds) = false := by
  unfold grB
  split
  · rename_i a b e
    cases e
    have := h rfl
    simp [tyB] at this
  · rfl
theorem partsB_len {ns es : List D} (h : ¬ (1 ≤ ns.length ∧ ns.length ≤ 7 ∧ es.length ≤ 12)) : partsB ns es = false := by
  simp only [partsB, decide_eq_false h, Bool.false_and]
theorem partsB_nm {ns es : List D} (h : ns.all nmB = false) : partsB ns es = false := by
  simp only [partsB, h, Bool.and_false, Bool.false_and]
theorem partsB_str {ss : List Str} {es : List D} (h : 1 ≤ ss.length ∧ ss.length ≤ 7 ∧ es.length ≤ 12) (hn : (ss.map D.str).all nmB = true) : partsB (ss.map D.str) es = (decide (ss.Pairwise SLt) && (es.all (pairB ss) && (match allP es with
      | some ps => decide (ps.Pairwise (PLt SLt SLt))
      | none => false))) := by
  have h' : 1 ≤ (ss.map D.str).length ∧ (ss.map D.str).length ≤ 7 ∧ es.length ≤ 12 := by rw [List.length_map]; exact h
  simp only [partsB, decide_eq_true h', hn, allS_map, Bool.true_and]
theorem plt_tr : ∀ a b c : Str × Str, PLt SLt SLt a b → PLt SLt SLt b c → PLt SLt SLt a c := (inferInstance : Srt (fun p : Str × Str => D.tup [.str p.1, .str p.2]) (PLt SLt SLt)).tr
section
variable [Has T 25 f_25] [Has T 96 f_96] [Has T 97 f_97] [Has T 98 f_98]
theorem is_graph_any (d : D) (h0 : Γ 0 = some (.str azS)) (h1 : Γ 1 = some (.int 8)) (h12 : Γ 12 = some (.int 7)) (h13 : Γ 13 = some (.int 12)) (hn : 2 ≤ n) : run T Γ n 98 [d] = .ok (.bl (grB d)) := by
  rw [run_at (by omega) rfl]
  by_cases ht : tyB .tuple d = true
  · obtain ⟨ds, rfl⟩ := tup_of ht
    by_cases h2 : ds.length = 2
    · have e1 : mapR (lcI (run T Γ (n - 1)) Γ (.isi (.var 4) .tuple) (.one 4) .nil [4] [some (D.tup ds), none, none, none, none, none]) ds = .ok (ds.map fun x => .bl (tyB .tuple x)) :=
        mapR_ok fun x _ => by simp [lcI, wipeE, ofE]
      have hf : fits ds.length = true := fits_ok (by omega)
      rcases two_tups h2 with ⟨ns, es, rfl⟩ | ha
      · have e2 : mapR (lcI (run T Γ (n - 1)) Γ (.isi (.var 4) .tuple) (.one 4) .nil [4] [some (D.tup [.tup ns, .tup es]), none, none, none, none, none]) [.tup ns, .tup es] = .ok [.bl true, .bl true] := e1
        have ea : biD .all [.lst [.bl true, .bl true]] = .ok (.bl true) := rfl
        have hq : grB (.tup [.tup ns, .tup es]) = partsB ns es := rfl
        clear e1 hf h2
        by_cases c1 : 1 ≤ ns.length
        · have c1' : (1 : Int) ≤ ns.length := by omega
          by_cases c2 : ns.length ≤ 7
          · have c2' : (ns.length : Int) ≤ 7 := by omega
            by_cases c3 : es.length ≤ 12
            · have c3' : ¬ (12 : Int) < es.length := by omega
              have e3 : mapR (lcI (run T Γ (n - 1)) Γ (.call 25 (.cons (.var 5) .nil)) (.one 5) .nil [5] [some (D.tup [.tup ns, .tup es]), some (.tup ns), some (.tup es), none, none, none]) ns = .ok (ns.map fun x => .bl (nmB x)) :=
                mapR_ok fun x _ => by simp [lcI, wipeE, ofE, is_name_any x h0 h1 (n := n - 1) (by omega)]
              by_cases c4 : ns.all nmB = true
              · obtain ⟨ss, rfl⟩ := names_str c4
                rw [List.length_map] at c1 c2 c1' c2'
                have e4 := rising_any (T := T) (Γ := Γ) (n := n - 1) c_ltS srtS.tr ss (by omega) (by omega)
                have hb := partsB_str ⟨c1, c2, c3⟩ c4
                by_cases c5 : ss.Pairwise SLt
                · have e5 : mapR (lcI (run T Γ (n - 1)) Γ (.call 97 (.cons (.var 3) (.cons (.var 1) .nil))) (.one 3) .nil [3] [some (D.tup [.tup (ss.map D.str), .tup es]), some (.tup (ss.map D.str)), some (.tup es), none, none, none]) es = .ok (es.map fun x => .bl (pairB ss x)) :=
                    mapR_ok fun x _ => by simp [lcI, wipeE, ofE, is_pair_any x ss (n := n - 1) (by omega) (by omega)]
                  by_cases c6 : es.all (pairB ss) = true
                  · obtain ⟨ps, rfl⟩ := pairs_of c6
                    rw [List.length_map] at c3 c3'
                    have e6 := rising_any (T := T) (Γ := Γ) (n := n - 1) c_ltP plt_tr ps (by omega) (by omega)
                    simp (disch := wtm_at "d") [f_98, b_98, e2, ea, fits_ok, hq, h12, h13, c_neF, c1', c2', c3', e3, c4, e4, hb, c5, e5, c6, e6, allP_map, -List.map_map, -List.all_map]
                  · simp (disch := wtm_at "d") [f_98, b_98, e2, ea, fits_ok, hq, h12, h13, c_neF, c1', c2', c3', e3, c4, e4, hb, c5, e5, c6, -List.map_map, -List.all_map]
                · simp (disch := wtm_at "d") [f_98, b_98, e2, ea, fits_ok, hq, h12, h13, c_neF, c1', c2', c3', e3, c4, e4, hb, c5, -List.map_map, -List.all_map]
              · have c4' : ns.all nmB = false := by simpa using c4
                simp (disch := wtm_at "d") [f_98, b_98, e2, ea, fits_ok, hq, h12, h13, c_neF, c1', c2', c3', e3, c4', partsB_nm, -List.map_map]
            · have c3' : (12 : Int) < es.length := by omega
              have hb : partsB ns es = false := partsB_len (by omega)
              simp (disch := wtm_at "d") [f_98, b_98, e2, ea, fits_ok, hq, h12, h13, c_neF, c1', c2', c3', hb]
          · have c2' : ¬ (ns.length : Int) ≤ 7 := by omega
            have hb : partsB ns es = false := partsB_len (by omega)
            simp (disch := wtm_at "d") [f_98, b_98, e2, ea, fits_ok, hq, h12, h13, c_neF, c1', c2', hb]
        · have c1' : ¬ (1 : Int) ≤ ns.length := by omega
          have hb : partsB ns es = false := partsB_len (by omega)
          simp (disch := wtm_at "d") [f_98, b_98, e2, ea, fits_ok, hq, h12, h13, c_neF, c1', hb]
      · have hq := grB_no fun _ => ha
        have h2' : (ds.length : Int) = 2 := by omega
        simp (disch := wtm_at "d") [f_98, b_98, e1, ha, hf, hq, h2', c_neF, -List.map_map]
    · have hq := grB_no (ds := ds) fun h => absurd h h2
      have h2' : ¬ (ds.length : Int) = 2 := by omega
      simp (disch := wtm_at "d") [f_98, b_98, hq, h2', c_neF]
  · have hc : grB d = false := by
      cases d <;> first | rfl | (exact absurd rfl ht)
    simp [f_98, b_98, ht, hc]
end
end G
/-! The law's own defs. -/
namespace K42
open PySem PP PW G
/-- _law_rising -/
def b_330 : Ss :=
    .cons (.ret (.bi .all (.cons (.lc (.cmp .lt (.ix (.var 0) (.var 1)) (.ix (.var 0) (.bin .add (.var 1) (.int 1)))) (.one 1) (.rng1 (.bin .sub (.bi .len (.cons (.var 0) .nil)) (.int 1))) .nil [1]) .nil))) <|
    .nil

def f_330 : Fn := ⟨"_law_rising", 1, ["things", "k"], b_330, false⟩

def b_331_0 : Ss :=
    .cons (.ife (.or_ (.not_ (.isi (.var 1) .tuple)) (.or_ (.cmp .ne (.bi .len (.cons (.var 1) .nil)) (.int 2)) (.not_ (.bi .all (.cons (.lc (.call 251 (.cons (.var 5) .nil)) (.one 5) (.seq (.var 1)) .nil [5]) .nil)))))
      (.cons (.ret (.bl false)) <|
      .nil)
      (.nil)) <|
    .cons (.ife (.or_ (.cmp .notIn (.ix (.var 1) (.int 0)) (.var 2)) (.or_ (.cmp .notIn (.ix (.var 1) (.int 1)) (.var 2)) (.not_ (.cmp .lt (.ix (.var 1) (.int 0)) (.ix (.var 1) (.int 1))))))
      (.cons (.ret (.bl false)) <|
      .nil)
      (.nil)) <|
    .cons (.wipe [1]) <|
    .nil

/-- _law_due -/
def b_331 : Ss :=
    .cons (.ife (.or_ (.not_ (.isi (.var 0) .tuple)) (.or_ (.cmp .ne (.bi .len (.cons (.var 0) .nil)) (.int 2)) (.not_ (.bi .all (.cons (.lc (.isi (.var 4) .tuple) (.one 4) (.seq (.var 0)) .nil [4]) .nil)))))
      (.cons (.ret (.bl false)) <|
      .nil)
      (.nil)) <|
    .cons (.asg (.tup [(.one 2), (.one 3)]) (.var 0)) <|
    .cons (.ife (.or_ (.not_ (.cmp2 .le .le (.int 1) (.bi .len (.cons (.var 2) .nil)) (.int 7))) (.or_ (.cmp .gt (.bi .len (.cons (.var 3) .nil)) (.int 12)) (.not_ (.bi .all (.cons (.lc (.call 251 (.cons (.var 5) .nil)) (.one 5) (.seq (.var 2)) .nil [5]) .nil)))))
      (.cons (.ret (.bl false)) <|
      .nil)
      (.nil)) <|
    .cons (.for_ (.one 1) (.seq (.var 3)) b_331_0) <|
    .cons (.ret (.and_ (.call 330 (.cons (.var 2) .nil)) (.call 330 (.cons (.var 3) .nil)))) <|
    .nil

def f_331 : Fn := ⟨"_law_due", 1, ["thing", "pair", "names", "pairs", "part", "name"], b_331, false⟩

/-- _law_put -/
def b_332 : Ss :=
    .cons (.ret (.bin .add (.bin .add (.slc (.var 0) .none (.some (.var 1))) (.tup (.cons (.var 2) .nil))) (.slc (.var 0) (.some (.bin .add (.var 1) (.int 1))) .none))) <|
    .nil

def f_332 : Fn := ⟨"_law_put", 3, ["parts", "k", "thing"], b_332, false⟩

/-- _law_bent -/
def b_333 : Ss :=
    .cons (.asg (.tup [(.one 8), (.one 9)]) (.var 0)) <|
    .cons (.asg (.one 2) (.bin .mod (.ix (.var 1) (.int 1)) (.bi .len (.cons (.var 8) .nil)))) <|
    .cons (.asg (.one 3) (.bin .mod (.ix (.var 1) (.int 4)) (.bin .add (.bi .len (.cons (.ix (.var 8) (.var 2)) .nil)) (.int 1)))) <|
    .cons (.asg (.one 4) (.str " !#$&'()*+,-./0123456789:;<=>?@ABCDEFGHIJKLMNOPQRSTUVWXYZ[]^_abcdefghijklmnopqrstuvwxyz{|}~")) <|
    .cons (.asg (.one 5) (.bin .add (.slc (.ix (.var 8) (.var 2)) .none (.some (.var 3))) (.ix (.var 4) (.bin .mod (.ix (.var 1) (.int 5)) (.bi .len (.cons (.var 4) .nil)))))) <|
    .cons (.asg (.one 5) (.bin .add (.var 5) (.slc (.ix (.var 8) (.var 2)) (.some (.bin .add (.var 3) (.bi .int (.cons (.cmp .eq (.bin .mod (.bin .fdiv (.ix (.var 1) (.int 4)) (.int 16)) (.int 2)) (.int 0)) .nil)))) .none))) <|
    .cons (.asg (.one 6) (.ix (.lst (.cons (.str "") (.cons (.str "A") (.cons (.str "a1") (.cons (.bin .add (.ix (.var 8) (.var 2)) (.str "a")) (.cons (.str "abcdefghi") (.cons .non (.cons (.int 7) (.cons (.bl true) (.cons (.tup (.cons (.str "a") .nil)) (.cons (.ix (.var 8) (.int 0)) (.cons (.bin .mul (.str "z") (.int 8)) .nil)))))))))))) (.bin .mod (.ix (.var 1) (.int 2)) (.int 11)))) <|
    .cons (.asg (.one 6) (.ix (.lst (.cons (.var 6) (.cons (.ix (.lst (.cons (.lst (.cons (.str "a") .nil)) (.cons .dk0 (.cons (.lst .nil) (.cons (.var 5) .nil))))) (.bin .mod (.ix (.var 1) (.int 4)) (.int 4))) (.cons (.var 5) .nil)))) (.bin .mod (.ix (.var 1) (.int 3)) (.int 3)))) <|
    .cons (.new 7 (.lst (.cons (.tup (.cons (.call 332 (.cons (.var 8) (.cons (.var 2) (.cons (.var 6) .nil)))) (.cons (.var 9) .nil))) (.cons (.tup (.cons (.bin .add (.var 8) (.tup (.cons (.var 6) .nil))) (.cons (.var 9) .nil))) (.cons (.tup (.cons (.bin .add (.slc (.var 8) .none (.some (.var 2))) (.slc (.var 8) (.some (.bin .add (.var 2) (.int 1))) .none)) (.cons (.var 9) .nil))) .nil))))) <|
    .cons (.new 7 (.bin .add (.var 7) (.lst (.cons (.tup (.cons (.rev (.var 8)) (.cons (.var 9) .nil))) (.cons (.tup (.cons (.bi .list (.cons (.var 8) .nil)) (.cons (.var 9) .nil))) (.cons (.tup (.cons (.var 8) (.cons (.bi .list (.cons (.var 9) .nil)) .nil))) (.cons (.tup (.cons (.var 8) .nil)) (.cons (.bin .add (.var 0) (.tup (.cons (.tup .nil) .nil))) .nil)))))))) <|
    .cons (.app 7 (.lst (.cons (.var 8) (.cons (.var 9) .nil)))) <|
    .cons (.new 7 (.bin .add (.var 7) (.lst (.cons (.tup (.cons (.bi .tuple (.cons (.str "abcdefgh") .nil)) (.cons (.var 9) .nil))) (.cons (.tup (.cons (.bi .tuple (.cons (.str "abcdefgh") .nil)) (.cons (.tup .nil) .nil))) (.cons (.tup (.cons (.tup .nil) (.cons (.tup .nil) .nil))) (.cons .non (.cons .dk0 (.cons (.var 8) (.cons (.tup (.cons (.var 8) (.cons .non .nil))) .nil)))))))))) <|
    .cons (.ife (.cmp .ne (.var 9) (.tup .nil))
      (.cons (.asg (.one 10) (.bin .mod (.ix (.var 1) (.int 3)) (.bi .len (.cons (.var 9) .nil)))) <|
      .cons (.asg (.tup [(.one 12), (.one 13)]) (.ix (.var 9) (.var 10))) <|
      .cons (.new 11 (.lst (.cons (.tup (.cons (.var 13) (.cons (.var 12) .nil))) (.cons (.tup (.cons (.var 12) (.cons (.var 12) .nil))) (.cons (.tup (.cons (.var 12) (.cons (.var 6) .nil))) (.cons (.tup (.cons (.var 12) .nil)) (.cons (.tup (.cons (.var 12) (.cons (.var 13) (.cons (.var 12) .nil)))) (.cons (.lst (.cons (.var 12) (.cons (.var 13) .nil))) (.cons (.bin .add (.var 12) (.var 13)) (.cons .non .nil)))))))))) <|
      .cons (.app 11 (.tup (.cons (.str "zq") (.cons (.str "zr") .nil)))) <|
      .cons (.new 7 (.bin .add (.var 7) (.lc (.tup (.cons (.var 8) (.cons (.call 332 (.cons (.var 9) (.cons (.var 10) (.cons (.var 14) .nil)))) .nil))) (.one 14) (.seq (.var 11)) .nil [14]))) <|
      .cons (.new 7 (.bin .add (.var 7) (.lst (.cons (.tup (.cons (.var 8) (.cons (.bin .add (.var 9) (.slc (.var 9) (.some (.var 10)) (.some (.bin .add (.var 10) (.int 1))))) .nil))) (.cons (.tup (.cons (.var 8) (.cons (.rev (.var 9)) .nil))) (.cons (.tup (.cons (.var 8) (.cons (.bin .add (.slc (.var 9) .none (.some (.var 10))) (.slc (.var 9) (.some (.bin .add (.var 10) (.int 1))) .none)) .nil))) .nil)))))) <|
      .cons (.share [11]) <|
      .nil)
      (.nil)) <|
    .cons (.ret (.ix (.var 7) (.bin .mod (.ix (.var 1) (.int 0)) (.bi .len (.cons (.var 7) .nil))))) <|
    .nil

def f_333 : Fn := ⟨"_law_bent", 2, ["graph", "xs", "k", "at", "signs", "put", "odd", "some", "names", "pairs", "j", "news", "one", "other", "new"], b_333, false⟩

def b_334_0 : Ss :=
    .cons (.asg (.one 8) (.call 98 (.cons (.var 6) .nil))) <|
    .cons (.ife (.or_ (.not_ (.isi (.var 8) .bool)) (.cmp .ne (.var 8) (.call 331 (.cons (.var 6) .nil))))
      (.cons (.ret (.bl false)) <|
      .nil)
      (.nil)) <|
    .cons (.wipe [6, 8]) <|
    .nil

def b_334_1 : Ss :=
    .cons (.asg (.one 8) (.call 99 (.cons (.var 5) (.cons (.var 7) .nil)))) <|
    .cons (.ife (.or_ (.isi (.var 8) .bool) (.cmp .ne (.var 8) (.call 233 (.cons (.var 5) (.cons (.var 7) .nil)))))
      (.cons (.ret (.bl false)) <|
      .nil)
      (.nil)) <|
    .cons (.wipe [7, 8]) <|
    .nil

def b_334_2 : Ss :=
    .cons (.asg (.one 4) (.call 199 (.cons (.call 198 (.cons (.var 0) (.cons (.var 1) .nil))) (.cons (.int 40) .nil)))) <|
    .cons (.asg (.one 5) (.call 235 (.cons (.var 4) (.cons (.int 7) .nil)))) <|
    .cons (.for_ (.one 6) (.seq (.lst (.cons (.var 5) (.cons (.call 333 (.cons (.var 5) (.cons (.slc (.var 4) (.some (.int 20)) .none) .nil))) (.cons (.call 333 (.cons (.var 5) (.cons (.slc (.var 4) (.some (.int 26)) .none) .nil))) (.cons (.call 333 (.cons (.var 5) (.cons (.slc (.var 4) (.some (.int 32)) .none) .nil))) .nil)))))) b_334_0) <|
    .cons (.wipe [8]) <|
    .cons (.for_ (.one 7) (.seq (.call 238 (.cons (.var 5) .nil))) b_334_1) <|
    .cons (.wipe [1, 4, 5, 6, 7, 8]) <|
    .nil

def b_334_3 : Ss :=
    .cons (.asg (.one 3) (.bin .add (.var 3) (.bi .tuple (.cons (.lc (.tup (.cons (.ix (.var 2) (.var 1)) (.cons (.var 9) .nil))) (.one 9) (.seq (.slc (.var 2) (.some (.bin .add (.var 1) (.int 1))) .none)) .nil [9]) .nil)))) <|
    .cons (.wipe [1]) <|
    .nil

/-- law -/
def b_334 : Ss :=
    .cons (.for_ (.one 1) (.rng1 (.bi .max (.cons (.int 3) (.cons (.bi .min (.cons (.bi .len (.cons (.var 0) .nil)) (.cons (.int 10) .nil))) .nil)))) b_334_2) <|
    .cons (.asg (.one 2) (.bi .tuple (.cons (.str "abcdefg") .nil))) <|
    .cons (.asg (.one 3) (.tup .nil)) <|
    .cons (.wipe [1]) <|
    .cons (.for_ (.one 1) (.rng1 (.int 7)) b_334_3) <|
    .cons (.ret (.and_ (.cmp .isn (.call 98 (.cons (.tup (.cons (.var 2) (.cons (.slc (.var 3) .none (.some (.int 12))) .nil))) .nil)) (.bl true)) (.cmp .isn (.call 98 (.cons (.tup (.cons (.var 2) (.cons (.slc (.var 3) .none (.some (.int 13))) .nil))) .nil)) (.bl false)))) <|
    .nil

def f_334 : Fn := ⟨"law", 1, ["script", "k", "seven", "every", "xs", "graph", "thing", "part", "found", "other"], b_334, false⟩

abbrev tab : List (Nat × Fn) := [(25, f_25), (96, f_96), (97, f_97), (98, f_98), (99, f_99), (198, f_198), (199, f_199), (200, f_200), (235, f_235), (238, f_238), (233, f_233), (251, f_251), (330, f_330), (331, f_331), (332, f_332), (333, f_333), (334, f_334)]
def T : Nat → Option Fn := look tab
instance : Has T 25 f_25 := ⟨rfl⟩
instance : Has T 96 f_96 := ⟨rfl⟩
instance : Has T 97 f_97 := ⟨rfl⟩
instance : Has T 98 f_98 := ⟨rfl⟩
instance : Has T 99 f_99 := ⟨rfl⟩
instance : Has T 198 f_198 := ⟨rfl⟩
instance : Has T 199 f_199 := ⟨rfl⟩
instance : Has T 200 f_200 := ⟨rfl⟩
instance : Has T 235 f_235 := ⟨rfl⟩
instance : Has T 238 f_238 := ⟨rfl⟩
instance : Has T 233 f_233 := ⟨rfl⟩
instance : Has T 251 f_251 := ⟨rfl⟩
instance : Has T 330 f_330 := ⟨rfl⟩
instance : Has T 331 f_331 := ⟨rfl⟩
instance : Has T 332 f_332 := ⟨rfl⟩
instance : Has T 333 f_333 := ⟨rfl⟩
instance : Has T 334 f_334 := ⟨rfl⟩
abbrev glbs : List (Nat × Str) := [(0, "SMALL"), (1, "MOST_LETTERS"), (12, "MOST_NAMES"), (13, "MOST_PAIRS")]
def glb : Nat → Option Str := look glbs
def Γ : Nat → Option D := look [(0, .str "abcdefghijklmnopqrstuvwxyz"), (1, .int 8), (12, .int 7), (13, .int 12)]
end K42
/-! What is due. -/
namespace K42
open PySem PP PW G
variable {n : Nat}
local macro_rules | `(tactic| wtm_at "d") => `(tactic| first | decide | omega | (simp only [List.length_map, List.length_append, List.length_cons, List.length_nil, List.length_range, appW_len, chr_len, repW_len]; omega))
theorem lrising_any {α : Type} [Inhabited α] {e : α → D} {lt : α → α → Prop} [DecidableRel lt] (hlt : ∀ a b, cmD .lt (e a) (e b) = .ok (.bl (decide (lt a b)))) (tr : ∀ a b c, lt a b → lt b c → lt a c) (xs : List α) (hl : xs.length ≤ 1000000) (hn : 1 ≤ n) :
    run T Γ n 330 [.tup (xs.map e)] = .ok (.bl (decide (xs.Pairwise lt))) := by
  rw [run_at (by omega) rfl]
  have e3 : mapR (lcI (run T Γ (n - 1)) Γ (.cmp .lt (.ix (.var 0) (.var 1)) (.ix (.var 0) (.bin .add (.var 1) (.int 1)))) (.one 1) .nil [1] [some (D.tup (xs.map e)), none]) ((List.range (xs.length - 1)).map fun k : Nat => D.int k) = .ok ((List.range (xs.length - 1)).map fun k => .bl (decide (lt (xs.getD k default) (xs.getD (k + 1) default)))) := by
    rw [mapR_map]
    refine mapR_ok fun k hk => ?_
    have hk := List.mem_range.mp hk
    simp (disch := wtm_at "d") [lcI, wipeE, ofE, ix_tupM, hlt]
  have er := ris_dec tr xs
  have hnat : ((xs.length : Int) - 1).toNat = xs.length - 1 := by omega
  have hsm : sm62 ((xs.length : Int) - 1) = true := sm62_ok (by omega)
  simp (disch := wtm_at "d") [f_330, b_330, fits_ok, rng0, hnat, hsm, e3, er, -List.getD_eq_getElem?_getD, -List.map_map]
theorem due_turn (ss : List Str) (hs : ss.length ≤ 7) (hss : (ss.map D.str).all nmB = true) (t : D) (es : List D) (d : D) (hn : 1 ≤ n) : turn (run T Γ n) Γ (.one 1) b_331_0 d [some t, none, some (.tup (ss.map D.str)), some (.tup es), none, none] =
    if (!pairB ss d) = true then .rt (.bl false) else .nx [some t, none, some (.tup (ss.map D.str)), some (.tup es), none, none] := by
  have hmem : ∀ s, s ∈ ss → nmB (.str s) = true := fun s hs => (List.all_eq_true.mp hss) _ (List.mem_map_of_mem hs)
  clear hss
  by_cases ht : tyB .tuple d = true
  · obtain ⟨ds, rfl⟩ := tup_of ht
    by_cases h2 : ds.length = 2
    · have e1 : mapR (lcI (run T Γ n) Γ (.call 251 (.cons (.var 5) .nil)) (.one 5) .nil [5] [some t, some (D.tup ds), some (.tup (ss.map D.str)), some (.tup es), none, none]) ds = .ok (ds.map fun x => .bl (nmB x)) :=
        mapR_ok fun x _ => by simp [lcI, wipeE, ofE, lname_any x hn]
      have hf : fits ds.length = true := fits_ok (by omega)
      have h2' : (ds.length : Int) = 2 := by omega
      by_cases hk : ds.all nmB = true
      · obtain ⟨qs, rfl⟩ := names_str hk
        rw [List.length_map] at h2
        match qs, h2 with
        | [a, b], _ =>
          have e2 : mapR (lcI (run T Γ n) Γ (.call 251 (.cons (.var 5) .nil)) (.one 5) .nil [5] [some t, some (D.tup [.str a, .str b]), some (.tup (ss.map D.str)), some (.tup es), none, none]) [.str a, .str b] = .ok [.bl true, .bl true] := by
            refine e1.trans ?_
            have h1 := (List.all_eq_true.mp hk) (.str a) (by simp)
            have h3 := (List.all_eq_true.mp hk) (.str b) (by simp)
            simp [h1, h3]
          have ea : biD .all [.lst [.bl true, .bl true]] = .ok (.bl true) := rfl
          have hq : pairB ss (.tup [.str a, .str b]) = (decide (a ∈ ss) && (decide (b ∈ ss) && decide (SLt a b))) := rfl
          clear e1 hf h2' hk hmem
          by_cases c1 : a ∈ ss
          · by_cases c2 : b ∈ ss
            · by_cases c3 : SLt a b
              · simp (disch := wtm_at "d") [turn, b_331_0, e2, ea, fits_ok, hq, c1, c2, c3, c_notIn, in_tupF, c_ltS, c_neF, wipeE]
              · simp (disch := wtm_at "d") [turn, b_331_0, e2, ea, fits_ok, hq, c1, c2, c3, c_notIn, in_tupF, c_ltS, c_neF, wipeE]
            · simp (disch := wtm_at "d") [turn, b_331_0, e2, ea, fits_ok, hq, c1, c2, c_notIn, in_tupF, c_ltS, c_neF, wipeE]
          · simp (disch := wtm_at "d") [turn, b_331_0, e2, ea, fits_ok, hq, c1, c_notIn, in_tupF, c_ltS, c_neF, wipeE]
      · have hk : ds.all nmB = false := by simpa using hk
        have hq : pairB ss (.tup ds) = false := by
          cases e : pairB ss (.tup ds) with
          | false => rfl
          | true =>
            obtain ⟨p, ep, m1, m2, _⟩ := pair_of e
            cases ep
            simp [hmem _ m1, hmem _ m2] at hk
        simp (disch := wtm_at "d") [turn, b_331_0, e1, hf, hk, hq, h2', c_neF, wipeE, -List.map_map]
    · have hq := pairB_no (ss := ss) (ds := ds) fun h => absurd h h2
      have h2' : ¬ (ds.length : Int) = 2 := by omega
      simp (disch := wtm_at "d") [turn, b_331_0, hq, h2', c_neF, wipeE]
  · have hc : pairB ss d = false := by
      cases d <;> first | rfl | (exact absurd rfl ht)
    simp [turn, b_331_0, ht, hc, wipeE]
theorem due_any (d : D) (hn : 2 ≤ n) : run T Γ n 331 [d] = .ok (.bl (grB d)) := by
  rw [run_at (by omega) rfl]
  by_cases ht : tyB .tuple d = true
  · obtain ⟨ds, rfl⟩ := tup_of ht
    by_cases h2 : ds.length = 2
    · have e1 : mapR (lcI (run T Γ (n - 1)) Γ (.isi (.var 4) .tuple) (.one 4) .nil [4] [some (D.tup ds), none, none, none, none, none]) ds = .ok (ds.map fun x => .bl (tyB .tuple x)) :=
        mapR_ok fun x _ => by simp [lcI, wipeE, ofE]
      have hf : fits ds.length = true := fits_ok (by omega)
      rcases two_tups h2 with ⟨ns, es, rfl⟩ | ha
      · have e2 : mapR (lcI (run T Γ (n - 1)) Γ (.isi (.var 4) .tuple) (.one 4) .nil [4] [some (D.tup [.tup ns, .tup es]), none, none, none, none, none]) [.tup ns, .tup es] = .ok [.bl true, .bl true] := e1
        have ea : biD .all [.lst [.bl true, .bl true]] = .ok (.bl true) := rfl
        have hq : grB (.tup [.tup ns, .tup es]) = partsB ns es := rfl
        clear e1 hf h2
        by_cases c1 : 1 ≤ ns.length
        · have c1' : (1 : Int) ≤ ns.length := by omega
          by_cases c2 : ns.length ≤ 7
          · have c2' : (ns.length : Int) ≤ 7 := by omega
            by_cases c3 : es.length ≤ 12
            · have c3' : ¬ (12 : Int) < es.length := by omega
              have e3 : mapR (lcI (run T Γ (n - 1)) Γ (.call 251 (.cons (.var 5) .nil)) (.one 5) .nil [5] [some (D.tup [.tup ns, .tup es]), none, some (.tup ns), some (.tup es), none, none]) ns = .ok (ns.map fun x => .bl (nmB x)) :=
                mapR_ok fun x _ => by simp [lcI, wipeE, ofE, lname_any x (n := n - 1) (by omega)]
              by_cases c4 : ns.all nmB = true
              · obtain ⟨ss, rfl⟩ := names_str c4
                rw [List.length_map] at c1 c2 c1' c2'
                have e4 := lrising_any (n := n - 1) c_ltS srtS.tr ss (by omega) (by omega)
                have hb := partsB_str ⟨c1, c2, c3⟩ c4
                have hloop : forGo (turn (run T Γ (n - 1)) Γ (.one 1) b_331_0) es [some (D.tup [.tup (ss.map D.str), .tup es]), none, some (.tup (ss.map D.str)), some (.tup es), none, none] = if (es.any fun d => !pairB ss d) = true then .rt (.bl false) else .nx [some (D.tup [.tup (ss.map D.str), .tup es]), none, some (.tup (ss.map D.str)), some (.tup es), none, none] := by
                  have := for_search (f := turn (run T Γ (n - 1)) Γ (.one 1) b_331_0) (enc := fun d : D => d) (ρ := [some (D.tup [.tup (ss.map D.str), .tup es]), none, some (.tup (ss.map D.str)), some (.tup es), none, none]) (p := fun d => !pairB ss d) (d := .bl false) (xs := es) fun x _ => due_turn ss c2 c4 _ es x (by omega)
                  rwa [List.map_id'] at this
                by_cases c6 : es.all (pairB ss) = true
                · have c7 : (es.any fun d => !pairB ss d) = false := by
                    rw [← Bool.not_eq_true, List.any_eq_true]
                    rintro ⟨x, hx, hx2⟩
                    rw [(List.all_eq_true.mp c6) x hx] at hx2
                    cases hx2
                  obtain ⟨ps, rfl⟩ := pairs_of c6
                  rw [List.length_map] at c3 c3'
                  have e6 := lrising_any (n := n - 1) c_ltP plt_tr ps (by omega) (by omega)
                  rw [c7] at hloop
                  by_cases c5 : ss.Pairwise SLt
                  · simp (disch := wtm_at "d") [f_331, b_331, e2, ea, fits_ok, hq, c_neF, c1', c2', c3', e3, c4, hloop, e4, hb, c5, c6, e6, allP_map, -List.map_map, -List.all_map]
                  · simp (disch := wtm_at "d") [f_331, b_331, e2, ea, fits_ok, hq, c_neF, c1', c2', c3', e3, c4, hloop, e4, hb, c5, c6, e6, allP_map, -List.map_map, -List.all_map]
                · have c6' : es.all (pairB ss) = false := by simpa using c6
                  have c7 : (es.any fun d => !pairB ss d) = true := by
                    rw [List.any_eq_true]
                    have := c6
                    rw [List.all_eq_true] at this
                    simp only [Classical.not_forall] at this
                    obtain ⟨x, hx, hx2⟩ := this
                    exact ⟨x, hx, by simpa using hx2⟩
                  rw [c7] at hloop
                  simp (disch := wtm_at "d") [f_331, b_331, e2, ea, fits_ok, hq, c_neF, c1', c2', c3', e3, c4, hloop, hb, c6', -List.map_map, -List.all_map]
              · have c4' : ns.all nmB = false := by simpa using c4
                simp (disch := wtm_at "d") [f_331, b_331, e2, ea, fits_ok, hq, c_neF, c1', c2', c3', e3, c4', partsB_nm, -List.map_map]
            · have c3' : (12 : Int) < es.length := by omega
              have hb : partsB ns es = false := partsB_len (by omega)
              simp (disch := wtm_at "d") [f_331, b_331, e2, ea, fits_ok, hq, c_neF, c1', c2', c3', hb]
          · have c2' : ¬ (ns.length : Int) ≤ 7 := by omega
            have hb : partsB ns es = false := partsB_len (by omega)
            simp (disch := wtm_at "d") [f_331, b_331, e2, ea, fits_ok, hq, c_neF, c1', c2', hb]
        · have c1' : ¬ (1 : Int) ≤ ns.length := by omega
          have hb : partsB ns es = false := partsB_len (by omega)
          simp (disch := wtm_at "d") [f_331, b_331, e2, ea, fits_ok, hq, c_neF, c1', hb]
      · have hq := grB_no fun _ => ha
        have h2' : (ds.length : Int) = 2 := by omega
        simp (disch := wtm_at "d") [f_331, b_331, e1, ha, hf, hq, h2', c_neF, -List.map_map]
    · have hq := grB_no (ds := ds) fun h => absurd h h2
      have h2' : ¬ (ds.length : Int) = 2 := by omega
      simp (disch := wtm_at "d") [f_331, b_331, hq, h2', c_neF]
  · have hc : grB d = false := by
      cases d <;> first | rfl | (exact absurd rfl ht)
    simp [f_331, b_331, ht, hc]
end K42
/-! Things that are none. -/
namespace K42
open PySem PP PW G
variable {n : Nat}
local macro_rules | `(tactic| wtm_at "d") => `(tactic| first | decide | omega | (simp only [List.length_map, List.length_append, List.length_cons, List.length_nil, List.length_range, appW_len, chr_len, repW_len, List.length_take, List.length_drop]; omega))
theorem put_any (ps : List D) (k : Int) (d : D) (hk : 0 ≤ k) (hp : ps.length ≤ 1000) (hn : 1 ≤ n) : run T Γ n 332 [.tup ps, .int k, d] = .ok (.tup (ps.take k.toNat ++ [d] ++ ps.drop (k + 1).toNat)) := by
  rw [run_at (by omega) rfl]
  have e1 : cutD ps none (some k) = ps.take k.toNat := cut_to hk
  have e2 : cutD ps (some (k + 1)) none = ps.drop (k + 1).toNat := cut_from (by omega)
  simp (disch := wtm_at "d") [f_332, b_332, e1, e2, o_addT]
def cutS (x : Str) (lo hi : Option Int) : Str := ⟨(cutD x.cps.toList lo hi).toArray⟩
theorem sl_str (x : Str) (lo hi : Option Int) : slD (.str x) lo hi = .ok (.str (cutS x lo hi)) := rfl
theorem cutS_len (x : Str) (lo hi : Option Int) : (cutS x lo hi).length ≤ x.length := by
  have h : (cutS x lo hi).length = (cutD x.cps.toList lo hi).length := by
    rw [← cps_len]; simp [cutS]
  rw [h, ← cps_len x]
  unfold cutD
  rw [List.length_take, List.length_drop]
  omega
abbrev sgs : Str := " !#$&'()*+,-./0123456789:;<=>?@ABCDEFGHIJKLMNOPQRSTUVWXYZ[]^_abcdefghijklmnopqrstuvwxyz{|}~"
theorem sgs_len : (sgs.length : Int) = 91 := by decide
theorem sgs_ix {i : Int} (h : 0 ≤ i ∧ i < 91) : ∃ c, ixD (.str sgs) (.int i) = .ok (.str ⟨#[c]⟩) := by
  have hl : (sgs.cps.toList.length : Int) = 91 := by decide
  have := atI_in (xs := sgs.cps.toList) (i := i) (by omega)
  exact ⟨_, by simp only [ixD, this]; rfl⟩
theorem ix_any {xs : List D} {i m : Int} (h : (xs.length : Int) = m) (hi : 0 ≤ i ∧ i < m) : ∃ d, ixD (.lst xs) (.int i) = .ok d := ⟨_, ix_lstL (by omega)⟩
theorem addS_cut {s : Str} (h : s.length ≤ 8) (lo hi : Option Int) (c : Nat) : o2D .add (.str (cutS s lo hi)) (.str ⟨#[c]⟩) = .ok (.str (cutS s lo hi ++ ⟨#[c]⟩)) := by
  have := cutS_len s lo hi
  exact o_addS (by show _ + 1 ≤ _; omega)
theorem addS_cut2 {s : Str} (h : s.length ≤ 8) (lo hi lo' hi' : Option Int) (c : Nat) : o2D .add (.str (cutS s lo hi ++ ⟨#[c]⟩)) (.str (cutS s lo' hi')) = .ok (.str (cutS s lo hi ++ ⟨#[c]⟩ ++ cutS s lo' hi')) := by
  have h1 := cutS_len s lo hi
  have h2 := cutS_len s lo' hi'
  refine o_addS ?_
  rw [appW_len]
  show _ + 1 + _ ≤ _
  omega
@[simp] theorem rev_tup (xs : List D) : revD (.tup xs) = .ok (.tup xs.reverse) := rfl
theorem bent_any (g : Gr) (hg : g.Ok) (xs : List Int) (hx : 6 ≤ xs.length) (hn : 2 ≤ n) : ∃ d, run T Γ n 333 [grD g, .lst (xs.map D.int)] = .ok d := by
  obtain ⟨⟨hl1, hl7⟩, hnm, _, hel, hem, _⟩ := hg
  obtain ⟨ns, es⟩ := g
  simp only at hl1 hl7 hnm hel hem
  match xs, hx with
  | x0 :: x1 :: x2 :: x3 :: x4 :: x5 :: xs, _ =>
    clear hx
    rw [run_at (by omega) rfl]
    have qk : o2D .mod (.int x1) (.int ns.length) = .ok (.int (x1 % ns.length)) := o_mod (by omega)
    have k0 : 0 ≤ x1 % ns.length := Int.emod_nonneg _ (by omega)
    have k1 : x1 % ns.length < ns.length := Int.emod_lt_of_pos _ (by omega)
    generalize x1 % (ns.length : Int) = k at *
    have ik : ixD (.tup (ns.map D.str)) (.int k) = .ok (.str (ns.getD k.toNat default)) := ix_tupM ⟨k0, k1⟩
    have hs : (ns.getD k.toNat default).length ≤ 8 := by
      have hk : k.toNat < ns.length := by omega
      have := (hnm (ns.getD k.toNat default) (by rw [List.getD, List.getElem?_eq_getElem hk]; exact List.getElem_mem hk)).1
      omega
    generalize ns.getD k.toNat default = s at *
    have i0 : ixD (.tup (ns.map D.str)) (.int 0) = .ok (.str (ns.getD 0 default)) := ix_tupM (by omega)
    generalize ns.getD 0 default = s0 at *
    have qa : o2D .mod (.int x4) (.int ((s.length : Int) + 1)) = .ok (.int (x4 % ((s.length : Int) + 1))) := o_mod (by omega)
    generalize x4 % ((s.length : Int) + 1) = a at *
    have q5 : o2D .mod (.int x5) (.int (sgs.length : Int)) = .ok (.int (x5 % 91)) := by rw [sgs_len]; exact o_mod (by omega)
    obtain ⟨c, ec⟩ := sgs_ix (i := x5 % 91) ⟨Int.emod_nonneg _ (by omega), Int.emod_lt_of_pos _ (by omega)⟩
    generalize x5 % 91 = i5 at *
    have a1 := addS_cut hs (c := c)
    have a2 := addS_cut2 hs (c := c)
    have a3 : o2D .add (.str s) (.str "a") = .ok (.str (s ++ "a")) := o_addS (by show _ + 1 ≤ _; omega)
    have a4 : o2D .mul (.str "z") (.int 8) = .ok (.str (Str.rep "z" 8)) := o_mulS (by omega) (by decide)
    have q2 : o2D .mod (.int x2) (.int 11) = .ok (.int (x2 % 11)) := o_mod (by omega)
    have q2' : 0 ≤ x2 % 11 ∧ x2 % 11 < 11 := by omega
    generalize x2 % 11 = i2 at *
    have q4 : o2D .mod (.int x4) (.int 4) = .ok (.int (x4 % 4)) := o_mod (by omega)
    have q4' : 0 ≤ x4 % 4 ∧ x4 % 4 < 4 := by omega
    generalize x4 % 4 = i4 at *
    have q3 : o2D .mod (.int x3) (.int 3) = .ok (.int (x3 % 3)) := o_mod (by omega)
    have q3' : 0 ≤ x3 % 3 ∧ x3 % 3 < 3 := by omega
    generalize x3 % 3 = i3 at *
    have l1 : ∀ b0 b1 b2 b3 b4 b5 b6 b7 b8 b9 b10 : D, ixD (.lst [b0, b1, b2, b3, b4, b5, b6, b7, b8, b9, b10]) (.int i2) = .ok ([b0, b1, b2, b3, b4, b5, b6, b7, b8, b9, b10].getD i2.toNat .non) := fun _ _ _ _ _ _ _ _ _ _ _ => ix_lstL (by simp only [List.length_cons, List.length_nil]; omega)
    have l2 : ∀ b0 b1 b2 b3 : D, ixD (.lst [b0, b1, b2, b3]) (.int i4) = .ok ([b0, b1, b2, b3].getD i4.toNat .non) := fun _ _ _ _ => ix_lstL (by simp only [List.length_cons, List.length_nil]; omega)
    have l3 : ∀ b0 b1 b2 : D, ixD (.lst [b0, b1, b2]) (.int i3) = .ok ([b0, b1, b2].getD i3.toNat .non) := fun _ _ _ => ix_lstL (by simp only [List.length_cons, List.length_nil]; omega)
    have pn : ∀ d : D, run T Γ (n - 1) 332 [.tup (ns.map D.str), .int k, d] = .ok (.tup ((ns.map D.str).take k.toNat ++ [d] ++ (ns.map D.str).drop (k + 1).toNat)) := fun d => put_any _ _ _ k0 (by rw [List.length_map]; omega) (by omega)
    have c1 : cutD (ns.map D.str) none (some k) = (ns.map D.str).take k.toNat := cut_to k0
    have c2 : cutD (ns.map D.str) (some (k + 1)) none = (ns.map D.str).drop (k + 1).toNat := cut_from (by omega)
    have tS : biD .tuple [.str "abcdefgh"] = .ok (.tup [.str "a", .str "b", .str "c", .str "d", .str "e", .str "f", .str "g", .str "h"]) := rfl
    generalize hN : ns.map D.str = N at *
    have hNl : N.length = ns.length := by rw [← hN, List.length_map]
    generalize hP : es.map prD = P at *
    have hPl : P.length = es.length := by rw [← hP, List.length_map]
    show ∃ d, outO (exSs (run T Γ (n - 1)) Γ b_333 [some (.tup [.tup (ns.map D.str), .tup (es.map prD)]), some (.lst ((x0 :: x1 :: x2 :: x3 :: x4 :: x5 :: xs).map D.int)), none, none, none, none, none, none, none, none, none, none, none, none, none]) = .ok d
    rw [hN, hP]
    unfold b_333
    generalize hX : (x0 :: x1 :: x2 :: x3 :: x4 :: x5 :: xs).map D.int = X
    have j0 : ixD (.lst X) (.int 0) = .ok (.int x0) := by rw [← hX]; simp
    have j1 : ixD (.lst X) (.int 1) = .ok (.int x1) := by rw [← hX]; simp
    have j2 : ixD (.lst X) (.int 2) = .ok (.int x2) := by rw [← hX]; simp
    have j3 : ixD (.lst X) (.int 3) = .ok (.int x3) := by rw [← hX]; simp
    have j4 : ixD (.lst X) (.int 4) = .ok (.int x4) := by rw [← hX]; simp
    have j5 : ixD (.lst X) (.int 5) = .ok (.int x5) := by rw [← hX]; simp
    rw [x_cons]
    simp [-x_cons, -andO_nx]
    rw [andO_nx, x_cons]
    simp [-x_cons, -andO_nx, j1, hNl, qk]
    rw [andO_nx, x_cons]
    simp [-x_cons, -andO_nx, j4, ik, qa]
    rw [andO_nx, x_cons]
    simp [-x_cons, -andO_nx]
    rw [andO_nx, x_cons]
    simp [-x_cons, -andO_nx, ik, sl_str, j5, q5, ec, a1]
    rw [andO_nx, x_cons]
    simp (disch := wtm_at "d") [-x_cons, -andO_nx, ik, sl_str, j4, o_fdiv, o_mod, c_eqF, a2]
    rw [andO_nx, x_cons]
    generalize cutS s none (some a) ++ ⟨#[c]⟩ ++ cutS s (some (a + if x4 / 16 % 2 = 0 then 1 else 0)) none = p
    simp (disch := wtm_at "d") [-x_cons, -andO_nx, ik, i0, a3, a4, j2, q2, l1, -List.getD_eq_getElem?_getD, -List.getD_cons_succ, -List.getD_cons_zero]
    generalize List.getD _ i2.toNat D.non = o1
    rw [andO_nx, x_cons]
    simp (disch := wtm_at "d") [-x_cons, -andO_nx, j3, j4, q3, q4, l2, l3, -List.getD_eq_getElem?_getD, -List.getD_cons_succ, -List.getD_cons_zero]
    generalize List.getD _ i3.toNat D.non = o2
    rw [andO_nx, x_cons]
    simp (disch := wtm_at "d") [-x_cons, -andO_nx, put, pn, o_addT, c1, c2, hNl]
    generalize hL : ([_, _, _] : List D) = L
    have lL : L.length = 3 := by rw [← hL]; rfl
    rw [andO_nx, x_cons]
    simp (disch := wtm_at "d") [-x_cons, -andO_nx, put, o_addT, o_addL, lL]
    generalize hL2 : L ++ _ = L2
    have lL2 : L2.length = 8 := by rw [← hL2, List.length_append, lL]; rfl
    rw [andO_nx, x_cons]
    simp (disch := wtm_at "d") [-x_cons, -andO_nx, ownL, lL2, sz_lt, put]
    generalize hL3 : L2 ++ _ = L3
    have lL3 : L3.length = 9 := by rw [← hL3, List.length_append, lL2]; rfl
    rw [andO_nx, x_cons]
    simp (disch := wtm_at "d") [-x_cons, -andO_nx, put, o_addT, o_addL, lL3, tS]
    generalize hL4 : L3 ++ _ = L4
    have lL4 : L4.length = 16 := by rw [← hL4, List.length_append, lL3]; rfl
    rw [andO_nx, x_cons]
    clear hL hL2 hL3 hL4 pn c1 c2 l1 l2 l3 a1 a2 a3 a4 i0 ik
    by_cases he : es = []
    · subst he
      have hP' : P = [] := by rw [← hP]; rfl
      subst hP'
      have ne : cmD .ne (D.tup []) (D.tup []) = .ok (.bl false) := rfl
      have q0 : o2D .mod (.int x0) (.int (L4.length : Int)) = .ok (.int (x0 % 16)) := by rw [lL4]; exact o_mod (by omega)
      have q0' : ixD (.lst L4) (.int (x0 % 16)) = .ok (L4.getD (x0 % 16).toNat .non) := ix_lstL (by omega)
      simp [ne, j0, q0, q0']
    · have ne : cmD .ne (D.tup P) (D.tup []) = .ok (.bl true) := by
        rw [← hP]
        have := c_neF (e := fun ps : List (Str × Str) => D.tup (ps.map prD)) (by decide) es []
        rw [decide_eq_false he] at this
        exact this
      have hel1 : 1 ≤ es.length := by
        cases es with
        | nil => exact absurd rfl he
        | cons _ _ => simp
      have q3j : o2D .mod (.int x3) (.int (P.length : Int)) = .ok (.int (x3 % es.length)) := by rw [hPl]; exact o_mod (by omega)
      have t0 : 0 ≤ x3 % es.length := Int.emod_nonneg _ (by omega)
      have t1 : x3 % es.length < es.length := Int.emod_lt_of_pos _ (by omega)
      have ij : ixD (.tup P) (.int (x3 % es.length)) = .ok (prD (es.getD (x3 % es.length).toNat default)) := by rw [← hP]; exact ix_tupM ⟨t0, t1⟩
      have hjm : es.getD (x3 % es.length).toNat default ∈ es := by
        have hk : (x3 % es.length).toNat < es.length := by omega
        rw [List.getD, List.getElem?_eq_getElem hk]; exact List.getElem_mem hk
      generalize x3 % (es.length : Int) = j at *
      generalize es.getD j.toNat default = e at *
      obtain ⟨e1, e2⟩ := e
      have hm := hem _ hjm
      have n1 : e1.length ≤ 8 := (hnm _ hm.1).1.2
      have n2 : e2.length ≤ 8 := (hnm _ hm.2.1).1.2
      have aS : o2D .add (.str e1) (.str e2) = .ok (.str (e1 ++ e2)) := o_addS (by omega)
      have pp : ∀ d : D, run T Γ (n - 1) 332 [.tup P, .int j, d] = .ok (.tup (P.take j.toNat ++ [d] ++ P.drop (j + 1).toNat)) := fun d => put_any _ _ _ t0 (by omega) (by omega)
      have c1 : cutD P none (some j) = P.take j.toNat := cut_to t0
      have c2 : cutD P (some (j + 1)) none = P.drop (j + 1).toNat := cut_from (by omega)
      have c3 : cutD P (some j) (some (j + 1)) = (P.drop j.toNat).take ((j + 1).toNat - j.toNat) := cut_in (by omega)
      rw [x_ife]
      simp [-x_cons, -andO_nx, ne]
      rw [x_cons]
      simp [-x_cons, -andO_nx, j3, q3j]
      rw [andO_nx, x_cons]
      simp [-x_cons, -andO_nx, ij]
      rw [andO_nx, x_cons]
      simp (disch := wtm_at "d") [-x_cons, -andO_nx, put, aS]
      generalize hM : ([_, _, _, _, _, _, _, _] : List D) = M
      have lM : M.length = 8 := by rw [← hM]; rfl
      rw [andO_nx, x_cons]
      simp (disch := wtm_at "d") [-x_cons, -andO_nx, ownL, lM, sz_lt, put]
      generalize hM2 : M ++ _ = M2
      have lM2 : M2.length = 9 := by rw [← hM2, List.length_append, lM]; rfl
      rw [andO_nx, x_cons]
      have eM : mapR (lcI (run T Γ (n - 1)) Γ (.tup (.cons (.var 8) (.cons (.call 332 (.cons (.var 9) (.cons (.var 10) (.cons (.var 14) .nil)))) .nil))) (.one 14) .nil [14] [some (.tup [.tup N, .tup P]), some (.lst X), some (.int k), some (.int a), some (.str sgs), some (.str p), some o2, some (.lst L4), some (.tup N), some (.tup P), some (.int j), some (.lst M2), some (.str e1), some (.str e2), none]) M2 = .ok (M2.map fun d => .tup [.tup N, .tup (P.take j.toNat ++ [d] ++ P.drop (j + 1).toNat)]) :=
        mapR_ok fun d _ => by simp [lcI, wipeE, ofE, pp]
      simp (disch := wtm_at "d") [-x_cons, -andO_nx, put, itemsD, lM2, fits_ok, eM, lL4, o_addL, -List.map_map]
      generalize hL5 : L4 ++ _ = L5
      have lL5 : L5.length = 25 := by rw [← hL5, List.length_append, lL4, List.length_map, lM2]
      rw [andO_nx, x_cons]
      simp (disch := wtm_at "d") [-x_cons, -andO_nx, put, c1, c2, c3, o_addT, o_addL, lL5, hPl, -List.map_map]
      generalize hL6 : L5 ++ _ = L6
      have lL6 : L6.length = 28 := by rw [← hL6, List.length_append, lL5]; rfl
      have q0 : o2D .mod (.int x0) (.int (L6.length : Int)) = .ok (.int (x0 % 28)) := by rw [lL6]; exact o_mod (by omega)
      have q0' : ixD (.lst L6) (.int (x0 % 28)) = .ok (L6.getD (x0 % 28).toNat .non) := ix_lstL (by omega)
      simp [j0, q0, q0']
end K42
/-! What graphs are: the law. -/
namespace K42
open PySem PP PW G
variable {n : Nat}
local macro_rules | `(tactic| wtm_at "d") => `(tactic| first | decide | omega | (simp only [List.length_map, List.length_append, List.length_cons, List.length_nil, List.length_range, appW_len, chr_len, repW_len, List.length_take, List.length_drop]; omega))
theorem thing_turn (d : D) (a0 a4 a5 : D) (a1 : Option D) : turn (run T Γ 59) Γ (.one 6) b_334_0 d [some a0, a1, none, none, some a4, some a5, none, none, none, none] = .nx [some a0, a1, none, none, some a4, some a5, none, none, none, none] := by
  have e1 := is_graph_any (T := T) (Γ := Γ) (n := 59) d rfl rfl rfl rfl (by omega)
  have e2 := due_any (n := 59) d (by omega)
  simp (disch := wtm_at "d") [turn, b_334_0, e1, e2, c_neF, wipeE, tyB]
theorem part_turn (g : Gr) (hg : g.Ok) (c : List Str) (a0 a4 : D) (a1 : Option D) : turn (run T Γ 59) Γ (.one 7) b_334_1 (cD c) [some a0, a1, none, none, some a4, some (grD g), none, none, none, none] = .nx [some a0, a1, none, none, some a4, some (grD g), none, none, none, none] := by
  have e1 := within_is (T := T) (Γ := Γ) (n := 59) g hg.elen c (by omega)
  have e2 := lwithin_is (T := T) (Γ := Γ) (n := 59) g hg.elen c (by omega)
  simp (disch := wtm_at "d") [turn, b_334_1, e1, e2, c_neF, wipeE, tyB]
theorem turn_ok (ns : List Int) (k : Nat) (hk : k < 100) : turn (run T Γ 59) Γ (.one 1) b_334_2 (.int (k : Nat)) [some (.fl (ns.map D.int)), none, none, none, none, none, none, none, none, none] = .nx [some (.fl (ns.map D.int)), none, none, none, none, none, none, none, none, none] := by
  obtain ⟨z, ez⟩ := cell_any (T := T) (Γ := Γ) (n := 59) ns (k : Int) (by omega) (by omega)
  obtain ⟨xs, ex, hx, hs⟩ := numbers_any (T := T) (Γ := Γ) (n := 59) z 40 (by omega) (by omega)
  have hx : xs.length = 40 := hx
  obtain ⟨g, eg, hg⟩ := graph_any (T := T) (Γ := Γ) (n := 59) xs (by omega) 7 (by omega) (by omega)
  have ep := lparts_is (T := T) (Γ := Γ) (n := 59) g hg.len (by omega)
  have c1 : cutD (xs.map D.int) (some 20) none = (xs.drop 20).map D.int := by rw [cut_map, cut_from (by omega)]; rfl
  have c2 : cutD (xs.map D.int) (some 26) none = (xs.drop 26).map D.int := by rw [cut_map, cut_from (by omega)]; rfl
  have c3 : cutD (xs.map D.int) (some 32) none = (xs.drop 32).map D.int := by rw [cut_map, cut_from (by omega)]; rfl
  obtain ⟨d1, e1⟩ := bent_any (n := 59) g hg (xs.drop 20) (by rw [List.length_drop]; omega) (by omega)
  obtain ⟨d2, e2⟩ := bent_any (n := 59) g hg (xs.drop 26) (by rw [List.length_drop]; omega) (by omega)
  obtain ⟨d3, e3⟩ := bent_any (n := 59) g hg (xs.drop 32) (by rw [List.length_drop]; omega) (by omega)
  have t := fun d => thing_turn d (.fl (ns.map D.int)) (.lst (xs.map D.int)) (grD g) (some (.int (k : Nat)))
  have el : forGo (turn (run T Γ 59) Γ (.one 7) b_334_1) (g.lparts.map cD) [some (.fl (ns.map D.int)), some (.int (k : Nat)), none, none, some (.lst (xs.map D.int)), some (grD g), none, none, none, none] = .nx [some (.fl (ns.map D.int)), some (.int (k : Nat)), none, none, some (.lst (xs.map D.int)), some (grD g), none, none, none, none] :=
    for_pass fun c _ => part_turn g hg c _ _ _
  have e4 : forGo (turn (run T Γ 59) Γ (.one 6) b_334_0) [grD g, d1, d2, d3] [some (.fl (ns.map D.int)), some (.int (k : Nat)), none, none, some (.lst (xs.map D.int)), some (grD g), none, none, none, none] = .nx [some (.fl (ns.map D.int)), some (.int (k : Nat)), none, none, some (.lst (xs.map D.int)), some (grD g), none, none, none, none] := by
    simp [forGo, t]
  clear hs hk hx t
  simp (disch := wtm_at "d") [turn, b_334_2, put, ez, ex, eg, c1, c2, c3, e1, e2, e3, e4, ep, el, wipeE, -List.map_map, -List.map_drop]
def sev : List Str := ["a", "b", "c", "d", "e", "f", "g"]
def evStep (s : List (Str × Str)) (k : Nat) : List (Str × Str) := s ++ (sev.drop (k + 1)).map fun o => (sev.getD k default, o)
def evry : List (Str × Str) := (List.range 7).foldl evStep []
abbrev E3 (a0 : D) (s : List (Str × Str)) : PP.Env := [some a0, none, some (.tup (sev.map D.str)), some (.tup (s.map prD)), none, none, none, none, none, none]
theorem sev_turn (a0 : D) (s : List (Str × Str)) (hs : s.length ≤ 100) (k : Nat) (hk : k < 7) : turn (run T Γ 59) Γ (.one 1) b_334_3 (.int (k : Nat)) (E3 a0 s) = .nx (E3 a0 (evStep s k)) := by
  have hl : sev.length = 7 := rfl
  have i1 : ixD (.tup (sev.map D.str)) (.int (k : Nat)) = .ok (.str (sev.getD k default)) := by
    have := ix_tupM (e := D.str) (xs := sev) (i := (k : Int)) (by omega)
    simpa using this
  have c1 : cutD (sev.map D.str) (some ((k : Int) + 1)) none = (sev.drop (k + 1)).map D.str := by rw [cut_map, cut_from (by omega)]; congr 1
  have hd : (sev.drop (k + 1)).length ≤ 7 := by rw [List.length_drop]; omega
  have e1 : mapR (lcI (run T Γ 59) Γ (.tup (.cons (.ix (.var 2) (.var 1)) (.cons (.var 9) .nil))) (.one 9) .nil [9] [some a0, some (.int (k : Nat)), some (.tup (sev.map D.str)), some (.tup (s.map prD)), none, none, none, none, none, none]) ((sev.drop (k + 1)).map D.str) = .ok ((sev.drop (k + 1)).map fun o => D.tup [.str (sev.getD k default), .str o]) := by
    rw [mapR_map]
    exact mapR_ok fun o _ => by simp [lcI, wipeE, ofE, i1, -List.getD_eq_getElem?_getD]
  have he : (evStep s k).map prD = s.map prD ++ (sev.drop (k + 1)).map fun o => D.tup [.str (sev.getD k default), .str o] := by
    rw [evStep, List.map_append, List.map_map]; rfl
  generalize sev.getD k default = q at *
  generalize sev.drop (k + 1) = r at *
  simp only [E3, he]
  generalize sev.map D.str = SV at *
  simp (disch := wtm_at "d") [turn, b_334_3, c1, e1, itemsD, fits_ok, o_addT, wipeE, -List.map_map]
theorem sev_ok (a0 : D) : forGo (turn (run T Γ 59) Γ (.one 1) b_334_3) ((List.range 7).map fun k : Nat => D.int k) (E3 a0 []) = .nx (E3 a0 evry) :=
  (for_fold (f := turn (run T Γ 59) Γ (.one 1) b_334_3) (enc := fun k : Nat => D.int k) (E := E3 a0) (step := evStep) (fun ks s => (∀ k ∈ ks, k < 7) ∧ s.length + 7 * ks.length ≤ 100) (fun k ks s ⟨h1, h2⟩ => by
    rw [List.length_cons] at h2
    refine ⟨sev_turn a0 s (by omega) k (h1 k List.mem_cons_self), fun j hj => h1 j (List.mem_cons_of_mem _ hj), ?_⟩
    have hl : sev.length = 7 := rfl
    rw [evStep, List.length_append, List.length_map, List.length_drop]
    omega) (List.range 7) [] ⟨fun k hk => List.mem_range.mp hk, by simp⟩).1
theorem gr_12 : grB (.tup [.tup (sev.map D.str), .tup ((evry.map prD).take 12)]) = true := by decide +kernel
theorem gr_13 : grB (.tup [.tup (sev.map D.str), .tup ((evry.map prD).take 13)]) = false := by decide +kernel
theorem law_true (ns : List Int) (h1 : ns.length ≤ 63) (h2 : ∀ z ∈ ns, Builtin.Int.intBits z ≤ 1048576) : PP.run T Γ 60 334 [.fl (ns.map D.int)] = .ok (.bl true) := by
  rw [run_at (by omega) rfl]
  have e : ∀ m : Nat, m ≤ 63 → forGo (turn (run T Γ 59) Γ (.one 1) b_334_2) ((List.range m).map fun k : Nat => D.int k) [some (.fl (ns.map D.int)), none, none, none, none, none, none, none, none, none] = .nx [some (.fl (ns.map D.int)), none, none, none, none, none, none, none, none, none] := fun m hm =>
    for_pass fun k hk => turn_ok ns k (by have := List.mem_range.mp hk; omega)
  generalize hm : (if (if (10 : Int) < ns.length then (10 : Int) else ns.length) > 3 then (if (10 : Int) < ns.length then (10 : Int) else ns.length) else 3) = m
  have hb : 3 ≤ m ∧ m ≤ 10 := by subst hm; split <;> (try split at *) <;> omega
  have e := e m.toNat (by omega)
  have hsm : sm62 m = true := sm62_ok (by omega)
  have es := sev_ok (.fl (ns.map D.int))
  have tS : biD .tuple [.str "abcdefg"] = .ok (.tup (sev.map D.str)) := rfl
  have g1 := is_graph_any (T := T) (Γ := Γ) (n := 59) (.tup [.tup (sev.map D.str), .tup ((evry.map prD).take 12)]) rfl rfl rfl rfl (by omega)
  have g2 := is_graph_any (T := T) (Γ := Γ) (n := 59) (.tup [.tup (sev.map D.str), .tup ((evry.map prD).take 13)]) rfl rfl rfl rfl (by omega)
  rw [gr_12] at g1
  rw [gr_13] at g2
  have c1 : cutD (evry.map prD) none (some 12) = (evry.map prD).take 12 := cut_to (by omega)
  have c2 : cutD (evry.map prD) none (some 13) = (evry.map prD).take 13 := cut_to (by omega)
  have hs7 : sm62 7 = true := by decide
  simp only [E3, List.map_nil] at es
  generalize sev.map D.str = SV at *
  generalize evry.map prD = EV at *
  simp [f_334, b_334, hm, hsm, rng0, e, tS, hs7, es, c1, c2, g1, g2, wipeE, cmD]
end K42
/-! What stands at the module's top. -/
namespace PP
open PySem PySem.Spec L2
section
variable {K : Fg} {mg : Str → Option Value} {Γ : Nat → Option D} {g : Nat} {x : Str}
/-- a constant: a whole number, a text -/
theorem glob_int {i : Int} {t : Nat} (hm : mg x = some (.int i t)) (hΓ : Γ g = some (.int i)) : ∃ v u d, mg x = some u ∧ RelV v u ∧ Γ g = some d ∧ isMut d = false ∧ ∀ S H, Rp K S H v d :=
  ⟨.int i, _, _, hm, ⟨t, rfl⟩, hΓ, rfl, fun S H => by simp only [Rp]⟩
theorem glob_str {s : Str} {t : Nat} (hm : mg x = some (.str s t)) (hΓ : Γ g = some (.str s)) (hs : sOk s = true) : ∃ v u d, mg x = some u ∧ RelV v u ∧ Γ g = some d ∧ isMut d = false ∧ ∀ S H, Rp K S H v d :=
  ⟨.str s, _, _, hm, ⟨t, rfl⟩, hΓ, rfl, fun S H => by simp only [Rp]; exact ⟨trivial, hs⟩⟩
/-- .. a pair of whole numbers -/
theorem glob_two {a : Addr} {i j : Int} {t t' : Nat} {od : Option Addr} {n : Nat} {osl : Array (Option Value)} (hm : mg x = some (.ref a)) (l : K.lookup a = some ⟨.type "tuple", od, .seq #[.int i t, .int j t'] n, osl⟩) (hΓ : Γ g = some (.tup [.int i, .int j])) :
    ∃ v u d, mg x = some u ∧ RelV v u ∧ Γ g = some d ∧ isMut d = false ∧ ∀ S H, Rp K S H v d :=
  ⟨.ref a, _, _, hm, rfl, hΓ, rfl, fun S H => by
    simp only [Rp]
    refine ⟨a, [.int i, .int j], rfl, .inr ⟨_, _, n, l, rfl, rfl, by rw [sizeLine_eq]; show 2 ≤ 16777216; omega, .cons ⟨t, rfl⟩ (.cons ⟨t', rfl⟩ .nil)⟩, ?_⟩
    simp only [RpA, Rp, and_self]⟩
end
end PP
namespace K42
open PySem PP PW G
def top (i : Nat) : Stmt := PySem.Challenge.pw_cutstairs_k42_what_graphs_are.main.body.getD i (.Pass ⟨0, 0, 0, 0⟩)
theorem m_0 : mDef T glb f_25 (top 3) = true := by decide +kernel
theorem m_1 : mDef T glb f_96 (top 7) = true := by decide +kernel
theorem m_2 : mDef T glb f_97 (top 8) = true := by decide +kernel
theorem m_3 : mDef T glb f_98 (top 9) = true := by decide +kernel
theorem m_4 : mDef T glb f_99 (top 10) = true := by decide +kernel
theorem m_5 : mDef T glb f_198 (top 12) = true := by decide +kernel
theorem m_6 : mDef T glb f_199 (top 13) = true := by decide +kernel
theorem m_7 : mDef T glb f_200 (top 14) = true := by decide +kernel
theorem m_8 : mDef T glb f_235 (top 15) = true := by decide +kernel
theorem m_9 : mDef T glb f_238 (top 16) = true := by decide +kernel
theorem m_10 : mDef T glb f_233 (top 17) = true := by decide +kernel
theorem m_11 : mDef T glb f_251 (top 18) = true := by decide +kernel
theorem m_12 : mDef T glb f_330 (top 19) = true := by decide +kernel
theorem m_13 : mDef T glb f_331 (top 20) = true := by decide +kernel
theorem m_14 : mDef T glb f_332 (top 21) = true := by decide +kernel
theorem m_15 : mDef T glb f_333 (top 22) = true := by decide +kernel
theorem m_16 : mDef T glb f_334 (top 23) = true := by decide +kernel
theorem text {K : Fg}
    (d0 : ∃ f, DefK K "is_name" (top 3) ["thing"] f)
    (d1 : ∃ f, DefK K "is_rising" (top 7) ["things"] f)
    (d2 : ∃ f, DefK K "is_pair" (top 8) ["thing", "names"] f)
    (d3 : ∃ f, DefK K "is_graph" (top 9) ["thing"] f)
    (d4 : ∃ f, DefK K "within" (top 10) ["graph", "part"] f)
    (d5 : ∃ f, DefK K "_law_cell" (top 12) ["script", "k"] f)
    (d6 : ∃ f, DefK K "_law_numbers" (top 13) ["cell", "many"] f)
    (d7 : ∃ f, DefK K "_law_names" (top 14) ["xs", "many"] f)
    (d8 : ∃ f, DefK K "_law_graph" (top 15) ["xs", "most"] f)
    (d9 : ∃ f, DefK K "_law_parts" (top 16) ["graph"] f)
    (d10 : ∃ f, DefK K "_law_within" (top 17) ["graph", "part"] f)
    (d11 : ∃ f, DefK K "_law_is_name" (top 18) ["thing"] f)
    (d12 : ∃ f, DefK K "_law_rising" (top 19) ["things"] f)
    (d13 : ∃ f, DefK K "_law_due" (top 20) ["thing"] f)
    (d14 : ∃ f, DefK K "_law_put" (top 21) ["parts", "k", "thing"] f)
    (d15 : ∃ f, DefK K "_law_bent" (top 22) ["graph", "xs"] f)
    (d16 : ∃ f, DefK K "law" (top 23) ["script"] f)
    : TextK K T glb := by
  refine ⟨fun i F h => ?_⟩
  have h := look_mem h
  simp only [tab, List.mem_cons, Prod.mk.injEq, List.not_mem_nil, or_false] at h
  rcases h with ⟨rfl, rfl⟩ | ⟨rfl, rfl⟩ | ⟨rfl, rfl⟩ | ⟨rfl, rfl⟩ | ⟨rfl, rfl⟩ | ⟨rfl, rfl⟩ | ⟨rfl, rfl⟩ | ⟨rfl, rfl⟩ | ⟨rfl, rfl⟩ | ⟨rfl, rfl⟩ | ⟨rfl, rfl⟩ | ⟨rfl, rfl⟩ | ⟨rfl, rfl⟩ | ⟨rfl, rfl⟩ | ⟨rfl, rfl⟩ | ⟨rfl, rfl⟩ | ⟨rfl, rfl⟩
  · obtain ⟨f, d⟩ := d0; exact ⟨_, f, m_0, d⟩
  · obtain ⟨f, d⟩ := d1; exact ⟨_, f, m_1, d⟩
  · obtain ⟨f, d⟩ := d2; exact ⟨_, f, m_2, d⟩
  · obtain ⟨f, d⟩ := d3; exact ⟨_, f, m_3, d⟩
  · obtain ⟨f, d⟩ := d4; exact ⟨_, f, m_4, d⟩
  · obtain ⟨f, d⟩ := d5; exact ⟨_, f, m_5, d⟩
  · obtain ⟨f, d⟩ := d6; exact ⟨_, f, m_6, d⟩
  · obtain ⟨f, d⟩ := d7; exact ⟨_, f, m_7, d⟩
  · obtain ⟨f, d⟩ := d8; exact ⟨_, f, m_8, d⟩
  · obtain ⟨f, d⟩ := d9; exact ⟨_, f, m_9, d⟩
  · obtain ⟨f, d⟩ := d10; exact ⟨_, f, m_10, d⟩
  · obtain ⟨f, d⟩ := d11; exact ⟨_, f, m_11, d⟩
  · obtain ⟨f, d⟩ := d12; exact ⟨_, f, m_12, d⟩
  · obtain ⟨f, d⟩ := d13; exact ⟨_, f, m_13, d⟩
  · obtain ⟨f, d⟩ := d14; exact ⟨_, f, m_14, d⟩
  · obtain ⟨f, d⟩ := d15; exact ⟨_, f, m_15, d⟩
  · obtain ⟨f, d⟩ := d16; exact ⟨_, f, m_16, d⟩
end K42
open PySem PySem.W PyProof.Rows in
theorem PySem.Challenge.cw_cutstairs_k42_what_graphs_are_holds : PySem.Challenge.rw_cutstairs_k42_what_graphs_are.Holds := by
  w_on; o_law; k_head; (case hw => w_witness2)
  k_fill
  refine PP.law_end (l := PySem.Challenge.rw_cutstairs_k42_what_graphs_are) rfl rfl (fun w h Y => PySem.W.kIn_of Y) K42.T K42.glb K42.Γ (fun _ _ => .none) 60 334 K42.f_334 ⟨rfl, by decide, by decide⟩ rfl rfl rfl rfl rfl ?X ?B ?G K42.law_true
  case G =>
    intro w mg h KX G g x hx
    have hx := PP.look_mem hx
    simp only [K42.glbs, List.mem_cons, Prod.mk.injEq, List.not_mem_nil, or_false] at hx
    rcases hx with ⟨rfl, rfl⟩ | ⟨rfl, rfl⟩ | ⟨rfl, rfl⟩ | ⟨rfl, rfl⟩
    · refine' PP.glob_str (PySem.W.mg_of KX G ?a) rfl (by decide +kernel)
      (case a => k_is)
    · refine' PP.glob_int (PySem.W.mg_of KX G ?a) rfl
      (case a => k_is)
    · refine' PP.glob_int (PySem.W.mg_of KX G ?a) rfl
      (case a => k_is)
    · refine' PP.glob_int (PySem.W.mg_of KX G ?a) rfl
      (case a => k_is)
  case B =>
    intro w ⟨h, KX⟩ x hx
    simp only [PP.bltL, List.mem_cons, List.not_mem_nil, or_false] at hx
    rcases hx with rfl | rfl | rfl | rfl | rfl | rfl | rfl | rfl | rfl | rfl | rfl | rfl | rfl | rfl | rfl | rfl | rfl | rfl <;> k_is
  case X =>
    intro w ⟨h, KX⟩
    refine' K42.text ?d0 ?d1 ?d2 ?d3 ?d4 ?d5 ?d6 ?d7 ?d8 ?d9 ?d10 ?d11 ?d12 ?d13 ?d14 ?d15 ?d16
    case d0 =>
      refine' ⟨_, PP.defK_mk ?a ?l ?c ?k (fun _ _ _ _ _ _ us hl => match us, hl with | [_], _ => rfl)⟩
      (case a => k_is); (case l => k_is); (case c => k_is); (case k => k_is)
    case d1 =>
      refine' ⟨_, PP.defK_mk ?a ?l ?c ?k (fun _ _ _ _ _ _ us hl => match us, hl with | [_], _ => rfl)⟩
      (case a => k_is); (case l => k_is); (case c => k_is); (case k => k_is)
    case d2 =>
      refine' ⟨_, PP.defK_mk ?a ?l ?c ?k (fun _ _ _ _ _ _ us hl => match us, hl with | [_, _], _ => rfl)⟩
      (case a => k_is); (case l => k_is); (case c => k_is); (case k => k_is)
    case d3 =>
      refine' ⟨_, PP.defK_mk ?a ?l ?c ?k (fun _ _ _ _ _ _ us hl => match us, hl with | [_], _ => rfl)⟩
      (case a => k_is); (case l => k_is); (case c => k_is); (case k => k_is)
    case d4 =>
      refine' ⟨_, PP.defK_mk ?a ?l ?c ?k (fun _ _ _ _ _ _ us hl => match us, hl with | [_, _], _ => rfl)⟩
      (case a => k_is); (case l => k_is); (case c => k_is); (case k => k_is)
    case d5 =>
      refine' ⟨_, PP.defK_mk ?a ?l ?c ?k (fun _ _ _ _ _ _ us hl => match us, hl with | [_, _], _ => rfl)⟩
      (case a => k_is); (case l => k_is); (case c => k_is); (case k => k_is)
    case d6 =>
      refine' ⟨_, PP.defK_mk ?a ?l ?c ?k (fun _ _ _ _ _ _ us hl => match us, hl with | [_, _], _ => rfl)⟩
      (case a => k_is); (case l => k_is); (case c => k_is); (case k => k_is)
    case d7 =>
      refine' ⟨_, PP.defK_mk ?a ?l ?c ?k (fun _ _ _ _ _ _ us hl => match us, hl with | [_, _], _ => rfl)⟩
      (case a => k_is); (case l => k_is); (case c => k_is); (case k => k_is)
    case d8 =>
      refine' ⟨_, PP.defK_mk ?a ?l ?c ?k (fun _ _ _ _ _ _ us hl => match us, hl with | [_, _], _ => rfl)⟩
      (case a => k_is); (case l => k_is); (case c => k_is); (case k => k_is)
    case d9 =>
      refine' ⟨_, PP.defK_mk ?a ?l ?c ?k (fun _ _ _ _ _ _ us hl => match us, hl with | [_], _ => rfl)⟩
      (case a => k_is); (case l => k_is); (case c => k_is); (case k => k_is)
    case d10 =>
      refine' ⟨_, PP.defK_mk ?a ?l ?c ?k (fun _ _ _ _ _ _ us hl => match us, hl with | [_, _], _ => rfl)⟩
      (case a => k_is); (case l => k_is); (case c => k_is); (case k => k_is)
    case d11 =>
      refine' ⟨_, PP.defK_mk ?a ?l ?c ?k (fun _ _ _ _ _ _ us hl => match us, hl with | [_], _ => rfl)⟩
      (case a => k_is); (case l => k_is); (case c => k_is); (case k => k_is)
    case d12 =>
      refine' ⟨_, PP.defK_mk ?a ?l ?c ?k (fun _ _ _ _ _ _ us hl => match us, hl with | [_], _ => rfl)⟩
      (case a => k_is); (case l => k_is); (case c => k_is); (case k => k_is)
    case d13 =>
      refine' ⟨_, PP.defK_mk ?a ?l ?c ?k (fun _ _ _ _ _ _ us hl => match us, hl with | [_], _ => rfl)⟩
      (case a => k_is); (case l => k_is); (case c => k_is); (case k => k_is)
    case d14 =>
      refine' ⟨_, PP.defK_mk ?a ?l ?c ?k (fun _ _ _ _ _ _ us hl => match us, hl with | [_, _, _], _ => rfl)⟩
      (case a => k_is); (case l => k_is); (case c => k_is); (case k => k_is)
    case d15 =>
      refine' ⟨_, PP.defK_mk ?a ?l ?c ?k (fun _ _ _ _ _ _ us hl => match us, hl with | [_, _], _ => rfl)⟩
      (case a => k_is); (case l => k_is); (case c => k_is); (case k => k_is)
    case d16 =>
      refine' ⟨_, PP.defK_mk ?a ?l ?c ?k (fun _ _ _ _ _ _ us hl => match us, hl with | [_], _ => rfl)⟩
      (case a => k_is); (case l => k_is); (case c => k_is); (case k => k_is)
