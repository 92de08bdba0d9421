import PyProof.Rows.All
import Wide.All
import OpenK.AllK
import Wide.FinOn
import HandS.ForMost
import HandS.IsInst
import HandS.Flow
import HandS.FStr
import HandS.SortRule
import HandS.RaiseMore
import HandS.Iter
import HandS.Zip
import HandS.Dict
import HandS.More
import PyProof.Rows.DictMod
import PyProof.StrBlock2
import PySem.Challenge.RW_watchfloor_k76_configuration_words_check
set_option Elab.async false
set_option linter.all false
set_option maxRecDepth 100000
set_option maxHeartbeats 4000000
/-! DL: plain data over the hand layer. D: data; Rep: a value of the abstract heap stands for data; DE, DN, DB, DT, DS: an expression (frozen, new, borrowed), a test, a statement computes a function of the slots' data. -/
namespace DL
open PySem PySem.Spec PyProof.Rows L2
open TL (tl len_tl ext_tl tl_append tl_mk mk_tl map_tl_inj tl_ofString)

/-! ### data -/
abbrev DK := Sum Int (List Nat)
inductive D where
  | non | bl (b : Bool) | int (i : Int) | str (l : List Nat) | lst (ds : List D) | tup (ds : List D) | dic (kvs : List (DK × D)) | obj (cn : Str) (fs : List (Str × D))

def keyOf : DK → Key
  | .inl i => .inl i
  | .inr l => .inr ⟨l.toArray⟩

/-- what is known: the written part, the module's names -/
structure Kn where
  K : PySem.W.Frag
  mg : Str → Option Value
abbrev kn (X : Cx) : Kn := ⟨X.K, X.mg⟩

def Sub (F H : Hp) : Prop := ∀ a o, F a = some o → H a = some o
theorem Sub.refl (F : Hp) : Sub F F := fun _ _ h => h
theorem Sub.trans {A B C : Hp} (h : Sub A B) (g : Sub B C) : Sub A C := fun a o e => g a o (h a o e)

theorem sqL_sub {K : PySem.W.Frag} {H H' : Hp} {a : Addr} {xs : List V} (e : Sub H H') (h : SqL K H a xs) : SqL K H' a xs := by
  rcases h with (h | ⟨o, h⟩) | h
  · exact .inl (.inl (e _ _ h))
  · exact .inl (.inr ⟨o, e _ _ h⟩)
  · exact .inr h
theorem sqT_sub {K : PySem.W.Frag} {H H' : Hp} {a : Addr} {xs : List V} (e : Sub H H') (h : SqT K H a xs) : SqT K H' a xs := by
  rcases h with (h | ⟨o, h⟩) | h
  · exact .inl (.inl (e _ _ h))
  · exact .inl (.inr ⟨o, e _ _ h⟩)
  · exact .inr h

mutual
/-- the value stands for the data, by the frozen part F of the heap -/
inductive Rep (Y : Kn) (F : Hp) : V → D → Prop where
  | non : Rep Y F .non .non
  | bl (b : Bool) : Rep Y F (.bl b) (.bl b)
  | int (i : Int) : Rep Y F (.int i) (.int i)
  | str (z : Str) : Rep Y F (.str z) (.str (tl z))
  | lst {a : Addr} {vs : List V} {ds : List D} (h : SqL Y.K F a vs) (r : Reps Y F vs ds) : Rep Y F (.ref a) (.lst ds)
  | tup {a : Addr} {vs : List V} {ds : List D} (h : SqT Y.K F a vs) (r : Reps Y F vs ds) : Rep Y F (.ref a) (.tup ds)
  | dic {a : Addr} {kvs : List (Key × V)} {ds : List (DK × D)} (h : F a = some (.dK kvs)) (r : RepK Y F kvs ds) : Rep Y F (.ref a) (.dic ds)
  | obj {a C dx : Addr} {cn : Str} {fs : List (Str × V)} {ds : List (Str × D)} (c : Y.mg cn = some (.ref C)) (h : F a = some (.ins C dx fs)) (hd : F dx = some (.own a)) (r : RepF Y F fs ds) : Rep Y F (.ref a) (.obj cn ds)
inductive Reps (Y : Kn) (F : Hp) : List V → List D → Prop where
  | nil : Reps Y F [] []
  | cons {v : V} {d : D} {vs : List V} {ds : List D} (h : Rep Y F v d) (t : Reps Y F vs ds) : Reps Y F (v :: vs) (d :: ds)
inductive RepK (Y : Kn) (F : Hp) : List (Key × V) → List (DK × D) → Prop where
  | nil : RepK Y F [] []
  | cons {k : DK} {v : V} {d : D} {vs : List (Key × V)} {ds : List (DK × D)} (h : Rep Y F v d) (t : RepK Y F vs ds) : RepK Y F ((keyOf k, v) :: vs) ((k, d) :: ds)
inductive RepF (Y : Kn) (F : Hp) : List (Str × V) → List (Str × D) → Prop where
  | nil : RepF Y F [] []
  | cons {k : Str} {v : V} {d : D} {vs : List (Str × V)} {ds : List (Str × D)} (h : Rep Y F v d) (t : RepF Y F vs ds) : RepF Y F ((k, v) :: vs) ((k, d) :: ds)
end

section
variable {Y : Kn} {F F' : Hp}
mutual
theorem Rep.mono (s : Sub F F') : ∀ {v : V} {d : D}, Rep Y F v d → Rep Y F' v d
  | _, _, .non => .non
  | _, _, .bl b => .bl b
  | _, _, .int i => .int i
  | _, _, .str z => .str z
  | _, _, .lst h r => .lst (sqL_sub s h) (Reps.mono s r)
  | _, _, .tup h r => .tup (sqT_sub s h) (Reps.mono s r)
  | _, _, .dic h r => .dic (s _ _ h) (RepK.mono s r)
  | _, _, .obj c h hd r => .obj c (s _ _ h) (s _ _ hd) (RepF.mono s r)
theorem Reps.mono (s : Sub F F') : ∀ {vs : List V} {ds : List D}, Reps Y F vs ds → Reps Y F' vs ds
  | _, _, .nil => .nil
  | _, _, .cons h t => .cons (Rep.mono s h) (Reps.mono s t)
theorem RepK.mono (s : Sub F F') : ∀ {vs : List (Key × V)} {ds : List (DK × D)}, RepK Y F vs ds → RepK Y F' vs ds
  | _, _, .nil => .nil
  | _, _, .cons h t => .cons (Rep.mono s h) (RepK.mono s t)
theorem RepF.mono (s : Sub F F') : ∀ {vs : List (Str × V)} {ds : List (Str × D)}, RepF Y F vs ds → RepF Y F' vs ds
  | _, _, .nil => .nil
  | _, _, .cons h t => .cons (Rep.mono s h) (RepF.mono s t)
end
theorem Reps.length : ∀ {vs : List V} {ds : List D}, Reps Y F vs ds → vs.length = ds.length
  | _, _, .nil => rfl
  | _, _, .cons _ t => by rw [List.length_cons, List.length_cons, Reps.length t]
theorem Reps.append : ∀ {vs ws : List V} {ds es : List D}, Reps Y F vs ds → Reps Y F ws es → Reps Y F (vs ++ ws) (ds ++ es)
  | _, _, _, _, .nil, s => s
  | _, _, _, _, .cons h t, s => .cons h (Reps.append t s)
theorem Reps.get : ∀ {vs : List V} {ds : List D} {i : Nat} {d : D}, Reps Y F vs ds → ds[i]? = some d → ∃ v, vs[i]? = some v ∧ Rep Y F v d
  | _, _, _, _, .nil, e => by simp at e
  | _, _, 0, _, .cons h _, e => by simp at e; subst e; exact ⟨_, rfl, h⟩
  | _, _, i + 1, d, .cons _ t, e => by
    obtain ⟨v, h1, h2⟩ := Reps.get (i := i) (d := d) t (by simpa using e)
    exact ⟨v, by simpa using h1, h2⟩
theorem Reps.getV : ∀ {vs : List V} {ds : List D} {i : Nat} {v : V}, Reps Y F vs ds → vs[i]? = some v → ∃ d, ds[i]? = some d ∧ Rep Y F v d
  | _, _, _, _, .nil, e => by simp at e
  | _, _, 0, _, .cons h _, e => by simp at e; subst e; exact ⟨_, rfl, h⟩
  | _, _, i + 1, v, .cons _ t, e => by
    obtain ⟨d, h1, h2⟩ := Reps.getV (i := i) (v := v) t (by simpa using e)
    exact ⟨d, by simpa using h1, h2⟩
theorem Reps.drop : ∀ {vs : List V} {ds : List D} (n : Nat), Reps Y F vs ds → Reps Y F (vs.drop n) (ds.drop n)
  | _, _, 0, r => r
  | _, _, _ + 1, .nil => .nil
  | _, _, n + 1, .cons _ t => Reps.drop n t
theorem Reps.take : ∀ {vs : List V} {ds : List D} (n : Nat), Reps Y F vs ds → Reps Y F (vs.take n) (ds.take n)
  | _, _, 0, _ => .nil
  | _, _, _ + 1, .nil => .nil
  | _, _, n + 1, .cons h t => .cons h (Reps.take n t)
theorem Reps.set {v : V} {d : D} (r : Rep Y F v d) : ∀ {vs : List V} {ds : List D} (i : Nat), Reps Y F vs ds → Reps Y F (vs.set i v) (ds.set i d)
  | _, _, _, .nil => .nil
  | _, _, 0, .cons _ t => .cons r t
  | _, _, i + 1, .cons q t => .cons q (Reps.set r i t)
theorem Reps.ints : ∀ (ns : List Int), Reps Y F (ns.map V.int) (ns.map D.int)
  | [] => .nil
  | n :: ns => .cons (.int n) (Reps.ints ns)

/-- at the top by the whole heap: a list, dict or object that is one's own -/
def Own (Y : Kn) (H F : Hp) (a : Addr) (d : D) : Prop := match d with
  | .lst ds => ∃ vs, H a = some (.lst vs) ∧ Reps Y F vs ds
  | .dic ds => ∃ kvs, H a = some (.dK kvs) ∧ RepK Y F kvs ds
  | _ => False
theorem Own.mono {H H' : Hp} {a : Addr} {d : D} (o : Own Y H F a d) (e : H' a = H a) (s : Sub F F') : Own Y H' F' a d := by
  cases d with
  | lst ds => obtain ⟨vs, h, r⟩ := o; exact ⟨vs, e.trans h, r.mono s⟩
  | dic ds => obtain ⟨vs, h, r⟩ := o; exact ⟨vs, e.trans h, r.mono s⟩
  | _ => exact o
/-- frozen: part of F -/
theorem Own.rep {H : Hp} {a : Addr} {d : D} (o : Own Y H F a d) (s : Sub F F') (e : F' a = H a) : Rep Y F' (.ref a) d := by
  cases d with
  | lst ds => obtain ⟨vs, h, r⟩ := o; exact .lst (.inl (.inl (e.trans h))) (r.mono s)
  | dic ds => obtain ⟨vs, h, r⟩ := o; exact .dic (e.trans h) (r.mono s)
  | _ => exact o.elim
/-- borrowed: frozen, or one's own -/
def RepT (Y : Kn) (H F : Hp) (v : V) (d : D) : Prop := Rep Y F v d ∨ ∃ a, v = .ref a ∧ Own Y H F a d
end

/-! ### slots -/
inductive Sl where
  | no | fz (d : D) | ow (d : D)
abbrev Reg := List Sl
def fzAt (ρ : Reg) (i : Nat) : Option D := match ρ[i]? with
  | some (.fz d) => some d
  | _ => none
def anyAt (ρ : Reg) (i : Nat) : Option D := match ρ[i]? with
  | some (.fz d) => some d
  | some (.ow d) => some d
  | _ => none
def owAt (ρ : Reg) (i : Nat) : Option D := match ρ[i]? with
  | some (.ow d) => some d
  | _ => none
def SlOk (Y : Kn) (H F : Hp) (v : Option V) : Sl → Prop
  | .no => True
  | .fz d => ∃ x, v = some x ∧ Rep Y F x d
  | .ow d => ∃ a, v = some (.ref a) ∧ F a = none ∧ Own Y H F a d
/-- the slots hold the data; F is a part of H -/
structure R0 (Y : Kn) (H F : Hp) (σ : L2.St) (ρ : Reg) : Prop where
  sub : Sub F H
  len : σ.length = ρ.length
  at_ : ∀ (i : Nat) (s : Sl), ρ[i]? = some s → ∃ v, σ[i]? = some v ∧ SlOk Y H F v s
  sep : ∀ (i j : Nat) (d e : D) (a : Addr), ρ[i]? = some (.ow d) → ρ[j]? = some (.ow e) → σ[i]? = some (some (.ref a)) → σ[j]? = some (some (.ref a)) → i = j
/-- the heap grows; what was one's own is not frozen by it -/
structure Ext (H F H' F' : Hp) : Prop where
  h : Sub H H'
  f : Sub F F'
  s : Sub F' H'
  n : ∀ a o, H a = some o → F a = none → F' a = none
theorem Ext.refl {H F : Hp} (s : Sub F H) : Ext H F H F := ⟨Sub.refl _, Sub.refl _, s, fun _ _ _ e => e⟩
theorem Ext.trans {H F H1 F1 H2 F2 : Hp} (a : Ext H F H1 F1) (b : Ext H1 F1 H2 F2) : Ext H F H2 F2 :=
  ⟨a.h.trans b.h, a.f.trans b.f, b.s, fun p o h e => b.n p o (a.h p o h) (a.n p o h e)⟩
section
variable {Y : Kn} {H F H' F' : Hp} {σ : L2.St} {ρ : Reg}
theorem Own.some_ {a : Addr} {d : D} (o : Own Y H F a d) : ∃ u, H a = some u := by
  cases d with
  | lst ds => obtain ⟨vs, h, r⟩ := o; exact ⟨_, h⟩
  | dic ds => obtain ⟨vs, h, r⟩ := o; exact ⟨_, h⟩
  | _ => exact o.elim
theorem Own.ext {a : Addr} {d : D} (o : Own Y H F a d) (x : Ext H F H' F') : Own Y H' F' a d := by
  obtain ⟨u, hu⟩ := o.some_
  exact o.mono ((x.h _ _ hu).trans hu.symm) x.f
theorem RepT.ext {v : V} {d : D} (r : RepT Y H F v d) (x : Ext H F H' F') : RepT Y H' F' v d := by
  rcases r with r | ⟨a, e, o⟩
  · exact .inl (r.mono x.f)
  · exact .inr ⟨a, e, o.ext x⟩
theorem SlOk.ext {v : Option V} {s : Sl} (k : SlOk Y H F v s) (x : Ext H F H' F') : SlOk Y H' F' v s := by
  cases s with
  | no => exact trivial
  | fz d => obtain ⟨y, e, r⟩ := k; exact ⟨y, e, r.mono x.f⟩
  | ow d =>
    obtain ⟨a, e, n, o⟩ := k
    obtain ⟨u, hu⟩ := o.some_
    exact ⟨a, e, x.n _ _ hu n, o.ext x⟩
theorem R0.ext (r : R0 Y H F σ ρ) (x : Ext H F H' F') : R0 Y H' F' σ ρ :=
  ⟨x.s, r.len, fun i s e => let ⟨v, h1, h2⟩ := r.at_ i s e; ⟨v, h1, h2.ext x⟩, r.sep⟩
theorem R0.fz (r : R0 Y H F σ ρ) {i : Nat} {d : D} (e : fzAt ρ i = some d) : ∃ v, σ[i]? = some (some v) ∧ Rep Y F v d := by
  unfold fzAt at e
  cases q : ρ[i]? with
  | none => rw [q] at e; cases e
  | some s =>
    rw [q] at e
    cases s with
    | no => cases e
    | ow _ => cases e
    | fz d' =>
      cases e
      obtain ⟨v, h1, x, h2, h3⟩ := r.at_ i _ q
      subst h2
      exact ⟨x, h1, h3⟩
theorem R0.any (r : R0 Y H F σ ρ) {i : Nat} {d : D} (e : anyAt ρ i = some d) : ∃ v, σ[i]? = some (some v) ∧ RepT Y H F v d := by
  unfold anyAt at e
  cases q : ρ[i]? with
  | none => rw [q] at e; cases e
  | some s =>
    rw [q] at e
    cases s with
    | no => cases e
    | ow d' =>
      cases e
      obtain ⟨v, h1, a, h2, h3, h4⟩ := r.at_ i _ q
      subst h2
      exact ⟨.ref a, h1, .inr ⟨a, rfl, h4⟩⟩
    | fz d' =>
      cases e
      obtain ⟨v, h1, x, h2, h3⟩ := r.at_ i _ q
      subst h2
      exact ⟨x, h1, .inl h3⟩
theorem R0.ow (r : R0 Y H F σ ρ) {i : Nat} {d : D} (e : owAt ρ i = some d) : ∃ a, σ[i]? = some (some (.ref a)) ∧ F a = none ∧ Own Y H F a d ∧ ρ[i]? = some (.ow d) := by
  unfold owAt at e
  cases q : ρ[i]? with
  | none => rw [q] at e; cases e
  | some s =>
    rw [q] at e
    cases s with
    | no => cases e
    | fz _ => cases e
    | ow d' =>
      cases e
      obtain ⟨v, h1, a, h2, h3, h4⟩ := r.at_ i _ q
      subst h2
      exact ⟨a, h1, h3, h4, rfl⟩
/-- a list, borrowed -/
theorem RepT.lst {v : V} {ds : List D} (r : RepT Y H F v (.lst ds)) (s : Sub F H) : ∃ a vs, v = .ref a ∧ SqL Y.K H a vs ∧ Reps Y F vs ds := by
  rcases r with r | ⟨a, e, vs, h, r⟩
  · cases r with
    | lst h r => exact ⟨_, _, rfl, sqL_sub s h, r⟩
  · exact ⟨a, vs, e, .inl (.inl h), r⟩
theorem RepT.tup {v : V} {ds : List D} (r : RepT Y H F v (.tup ds)) (s : Sub F H) : ∃ a vs, v = .ref a ∧ SqT Y.K H a vs ∧ Reps Y F vs ds := by
  rcases r with r | ⟨a, e, h⟩
  · cases r with
    | tup h r => exact ⟨_, _, rfl, sqT_sub s h, r⟩
  · exact h.elim
theorem RepT.int {v : V} {i : Int} (r : RepT Y H F v (.int i)) : v = .int i := by
  rcases r with r | ⟨a, e, h⟩
  · cases r; rfl
  · exact h.elim
theorem RepT.bl {v : V} {i : Bool} (r : RepT Y H F v (.bl i)) : v = .bl i := by
  rcases r with r | ⟨a, e, h⟩
  · cases r; rfl
  · exact h.elim
theorem RepT.non {v : V} (r : RepT Y H F v .non) : v = .non := by
  rcases r with r | ⟨a, e, h⟩
  · cases r; rfl
  · exact h.elim
theorem RepT.str {v : V} {l : List Nat} (r : RepT Y H F v (.str l)) : ∃ z, v = .str z ∧ tl z = l := by
  rcases r with r | ⟨a, e, h⟩
  · cases r; exact ⟨_, rfl, rfl⟩
  · exact h.elim
theorem RepT.isNon {v : V} {d : D} (r : RepT Y H F v d) : decide (v = V.non) = (match d with | .non => true | _ => false) := by
  rcases r with r | ⟨a, e, h⟩
  · cases r <;> simp
  · subst e
    cases d <;> first | exact h.elim | simp
end

/-! ### judgements -/
def EvE (Y : Kn) (t : TE) (f : Reg → Option D) : Prop := ∀ (σ : L2.St) (H F : Hp) (ρ : Reg) (d : D) (Q : VK), R0 Y H F σ ρ → f ρ = some d → (∀ v H' F', Ext H F H' F' → Rep Y F' v d → Q v H') → t σ H Q
def EvB (Y : Kn) (t : TE) (f : Reg → Option D) : Prop := ∀ (σ : L2.St) (H F : Hp) (ρ : Reg) (d : D) (Q : VK), R0 Y H F σ ρ → f ρ = some d → (∀ v H' F', Ext H F H' F' → RepT Y H' F' v d → Q v H') → t σ H Q
def EvN (Y : Kn) (t : TE) (f : Reg → Option D) : Prop := ∀ (σ : L2.St) (H F : Hp) (ρ : Reg) (d : D) (Q : VK), R0 Y H F σ ρ → f ρ = some d → (∀ a H' F', Ext H F H' F' → H a = none → F' a = none → Own Y H' F' a d → Q (.ref a) H') → t σ H Q
def EvT (Y : Kn) (t : TT) (f : Reg → Option Bool) : Prop := ∀ (σ : L2.St) (H F : Hp) (ρ : Reg) (b : Bool) (Q : Bool → Hp → Prop), R0 Y H F σ ρ → f ρ = some b → (∀ H' F', Ext H F H' F' → Q b H') → t σ H Q
def EvA (Y : Kn) (t : TA) (f : Reg → Option (List D)) : Prop := ∀ (σ : L2.St) (H F : Hp) (ρ : Reg) (ds : List D) (Q : List V → Hp → Prop), R0 Y H F σ ρ → f ρ = some ds → (∀ vs H' F', Ext H F H' F' → Reps Y F' vs ds → Q vs H') → t σ H Q
/-- an expression whose value is frozen data -/
structure DE (X : Cx) (e : Expr) (t : TE) (f : Reg → Option D) : Prop where
  p : PE X e t
  q : EvE (kn X) t f
/-- .. borrowed -/
structure DB (X : Cx) (e : Expr) (t : TE) (f : Reg → Option D) : Prop where
  p : PE X e t
  q : EvB (kn X) t f
/-- .. a new list or dict -/
structure DN (X : Cx) (e : Expr) (t : TE) (f : Reg → Option D) : Prop where
  p : PE X e t
  q : EvN (kn X) t f
structure DT (X : Cx) (e : Expr) (t : TT) (f : Reg → Option Bool) : Prop where
  p : PT X e t
  q : EvT (kn X) t f
structure DA (X : Cx) (es : List Expr) (t : TA) (f : Reg → Option (List D)) : Prop where
  p : PA X es t
  q : EvA (kn X) t f
  len : ∀ ρ ds, f ρ = some ds → ds.length = es.length
section
variable {X : Cx} {e a b : Expr} {es : List Expr} {f g : Reg → Option D} {pos : Pos} {t ta tb : TE}
theorem DE.toB (h : DE X e t f) : DB X e t f := ⟨h.p, fun σ H F ρ d Q r e k => h.q σ H F ρ d Q r e fun v H' F' x y => k v H' F' x (.inl y)⟩
/-- freeze an address -/
def frz1 (H F : Hp) (a : Addr) : Hp := fun b => if b = a then H a else F b
theorem frz1_sub {H F : Hp} {a : Addr} (n : F a = none) : Sub F (frz1 H F a) := fun b o e => by
  unfold frz1
  by_cases h : b = a
  · subst h; rw [n] at e; cases e
  · rw [if_neg h]; exact e
theorem frz1_in {H F : Hp} {a : Addr} (s : Sub F H) : Sub (frz1 H F a) H := fun b o e => by
  unfold frz1 at e
  by_cases h : b = a
  · subst h; rw [if_pos rfl] at e; exact e
  · rw [if_neg h] at e; exact s b o e
theorem DN.toE (h : DN X e t f) : DE X e t f := by
  refine ⟨h.p, fun σ H F ρ d Q r e k => h.q σ H F ρ d Q r e fun a H' F' x n0 n1 o => ?_⟩
  refine k (.ref a) H' (frz1 H' F' a) ⟨x.h, x.f.trans (frz1_sub n1), frz1_in x.s, fun b u hb nb => ?_⟩ (o.rep (frz1_sub n1) (if_pos rfl))
  unfold frz1
  by_cases hh : b = a
  · subst hh; rw [n0] at hb; cases hb
  · rw [if_neg hh]; exact x.n b u hb nb
theorem DN.toB (h : DN X e t f) : DB X e t f := h.toE.toB

/-! ### names, constants -/
theorem de_var (i : Nat) {x : Str} (hN : X.N[i]? = some x := by rfl) (hv : Vis X.env.scope x := by first | exact Or.inl rfl | exact Or.inr (Or.inl rfl) | exact Or.inr (Or.inr rfl)) (hd : (x == ("__debug__" : Str)) = false := by decide)
    (hcd : (x == ("__classdict__" : Str)) = false := by decide) : DE X (.Name x pos) (tVar i) (fun ρ => fzAt ρ i) :=
  ⟨pe_var hN hv hd hcd, fun σ H F ρ d Q r e k => let ⟨v, h1, h2⟩ := r.fz e; ⟨v, h1, k v H F (.refl r.sub) h2⟩⟩
theorem db_var (i : Nat) {x : Str} (hN : X.N[i]? = some x := by rfl) (hv : Vis X.env.scope x := by first | exact Or.inl rfl | exact Or.inr (Or.inl rfl) | exact Or.inr (Or.inr rfl)) (hd : (x == ("__debug__" : Str)) = false := by decide)
    (hcd : (x == ("__classdict__" : Str)) = false := by decide) : DB X (.Name x pos) (tVar i) (fun ρ => anyAt ρ i) :=
  ⟨pe_var hN hv hd hcd, fun σ H F ρ d Q r e k => let ⟨v, h1, h2⟩ := r.any e; ⟨v, h1, k v H F (.refl r.sub) h2⟩⟩
def lit (s : String) : List Nat := s.toList.map Char.toNat
theorem de_int {i : Int} {j : Nat} : DE X (.Constant (.int i) j pos) (tC (.int i)) (fun _ => some (.int i)) := ⟨pe_int, fun σ H F ρ d Q r e k => by cases e; exact k _ H F (.refl r.sub) (.int i)⟩
theorem de_bl {i : Bool} {j : Nat} : DE X (.Constant (.bool i) j pos) (tC (.bl i)) (fun _ => some (.bl i)) := ⟨pe_bl, fun σ H F ρ d Q r e k => by cases e; exact k _ H F (.refl r.sub) (.bl i)⟩
theorem de_non {j : Nat} : DE X (.Constant .none j pos) (tC .non) (fun _ => some .non) := ⟨pe_non, fun σ H F ρ d Q r e k => by cases e; exact k _ H F (.refl r.sub) .non⟩
theorem rep_lit {Y : Kn} {F : Hp} (s : String) : Rep Y F (.str (Str.ofString s)) (.str (lit s)) := by
  have e : tl (Str.ofString s) = lit s := tl_ofString s
  rw [← e]
  exact .str _
theorem de_str {s : String} {j : Nat} : DE X (.Constant (.str (Str.ofString s)) j pos) (tC (.str (Str.ofString s))) (fun _ => some (.str (lit s))) := ⟨pe_str, fun σ H F ρ d Q r e k => by cases e; exact k _ H F (.refl r.sub) (rep_lit s)⟩

/-! ### arguments -/
def consA (f : Reg → Option D) (fs : Reg → Option (List D)) : Reg → Option (List D) := fun ρ => (f ρ).bind fun d => (fs ρ).bind fun ds => some (d :: ds)
theorem da_nil : DA X [] tNil (fun _ => some []) := ⟨pa_nil, fun σ H F ρ d Q r e k => by cases e; exact k _ H F (.refl r.sub) .nil, fun ρ ds e => by cases e; rfl⟩
theorem da_cons {fs : Reg → Option (List D)} {ts : TA} (h : DE X e t f) (hs : DA X es ts fs) (hst : starEach (e :: es) X.env = (false, eval e X.env) :: starEach es X.env := by rfl) :
    DA X (e :: es) (tCons t ts) (consA f fs) := by
  refine ⟨pa_cons h.p hs.p hst, fun σ H F ρ d Q r e k => ?_, fun ρ ds e => ?_⟩
  · obtain ⟨d1, e1, e⟩ := Option.bind_eq_some_iff.mp e
    obtain ⟨d2, e2, e⟩ := Option.bind_eq_some_iff.mp e
    cases e
    refine h.q σ H F ρ d1 _ r e1 fun v H1 F1 x1 r1 => ?_
    exact hs.q σ H1 F1 ρ d2 _ (r.ext x1) e2 fun vs H2 F2 x2 r2 => k _ H2 F2 (x1.trans x2) (.cons (r1.mono x2.f) r2)
  · obtain ⟨d1, e1, e⟩ := Option.bind_eq_some_iff.mp e
    obtain ⟨d2, e2, e⟩ := Option.bind_eq_some_iff.mp e
    cases e
    rw [List.length_cons, List.length_cons, hs.len ρ d2 e2]

/-! ### displays -/
theorem upd_sub {H : Hp} {p : Addr} {o : HO} (n : H p = none) : Sub H (upd H p o) := fun b u e => by rw [upd_ne (ne_of_none e n)]; exact e
/-- a new object stands at p, not frozen -/
theorem ext_new {H F : Hp} {p : Addr} {o : HO} (s : Sub F H) (n : H p = none) : Ext H F (upd H p o) F :=
  ⟨upd_sub n, Sub.refl _, s.trans (upd_sub n), fun _ _ _ e => e⟩
theorem none_of_sub {F H : Hp} {p : Addr} (s : Sub F H) (n : H p = none) : F p = none := by
  cases e : F p with
  | none => rfl
  | some u => rw [s p u e] at n; cases n
/-- .. frozen -/
theorem ext_newF {H F : Hp} {p : Addr} {o : HO} (s : Sub F H) (n : H p = none) : Ext H F (upd H p o) (upd F p o) := by
  have n1 : F p = none := none_of_sub s n
  refine ⟨upd_sub n, upd_sub n1, fun b u e => ?_, fun b u hb nb => ?_⟩
  · by_cases h : b = p
    · subst h; rw [upd_same] at e ⊢; exact e
    · rw [upd_ne h] at e ⊢; exact s b u e
  · rw [upd_ne (ne_of_none hb n)]; exact nb
def lstV (fs : Reg → Option (List D)) : Reg → Option D := fun ρ => (fs ρ).bind fun ds => some (.lst ds)
def tupV (fs : Reg → Option (List D)) : Reg → Option D := fun ρ => (fs ρ).bind fun ds => some (.tup ds)
theorem dn_lst {fs : Reg → Option (List D)} {ts : TA} (hs : DA X es ts fs) (hz : es.length ≤ sizeLine := by decide) : DN X (.List es pos) (tLst ts) (lstV fs) := by
  refine ⟨pe_lst hs.p, fun σ H F ρ d Q r e k => ?_⟩
  obtain ⟨ds, e1, e⟩ := Option.bind_eq_some_iff.mp e
  cases e
  refine hs.q σ H F ρ ds _ r e1 fun vs H1 F1 x1 r1 => ⟨by rw [r1.length, hs.len ρ ds e1]; exact hz, fun p hp => ?_⟩
  have n0 : H p = none := none_of_sub x1.h hp
  exact k p _ F1 (x1.trans (ext_new x1.s hp)) n0 (none_of_sub x1.s hp) ⟨vs, upd_same, r1⟩
theorem de_tup {fs : Reg → Option (List D)} {j : Nat} {ts : TA} (hs : DA X es ts fs) (hz : es.length ≤ sizeLine := by decide) : DE X (.Tuple es j pos) (tTup ts) (tupV fs) := by
  refine ⟨pe_tup hs.p, fun σ H F ρ d Q r e k => ?_⟩
  obtain ⟨ds, e1, e⟩ := Option.bind_eq_some_iff.mp e
  cases e
  refine hs.q σ H F ρ ds _ r e1 fun vs H1 F1 x1 r1 => ⟨by rw [r1.length, hs.len ρ ds e1]; exact hz, fun p hp => ?_⟩
  have x2 := ext_newF (o := .tup vs) x1.s hp
  exact k (.ref p) _ _ (x1.trans x2) (.tup (.inl (.inl upd_same)) (r1.mono x2.f))

/-! ### operators -/
/-- two borrowed operands -/
theorem two {r : R2} (qa : EvB (kn X) ta f) (qb : EvB (kn X) tb g) {σ : L2.St} {H F : Hp} {ρ : Reg} {da db : D} {Q : VK} (r0 : R0 (kn X) H F σ ρ) (ea : f ρ = some da) (eb : g ρ = some db)
    (k : ∀ x y H' F', Ext H F H' F' → RepT (kn X) H' F' x da → RepT (kn X) H' F' y db → r x y H' Q) : tOp r ta tb σ H Q := by
  refine qa σ H F ρ da _ r0 ea fun x H1 F1 x1 r1 => ?_
  exact qb σ H1 F1 ρ db _ (r0.ext x1) eb fun y H2 F2 x2 r2 => k x y H2 F2 (x1.trans x2) (r1.ext x2) r2
/-- what a two-place rule gives on data: frozen -/
def RdE (Y : Kn) (r : R2) (g : D → D → Option D) : Prop := ∀ (H F : Hp) (x y : V) (da db d : D) (Q : VK), Sub F H → RepT Y H F x da → RepT Y H F y db → g da db = some d → (∀ v H' F', Ext H F H' F' → Rep Y F' v d → Q v H') → r x y H Q
def RdN (Y : Kn) (r : R2) (g : D → D → Option D) : Prop := ∀ (H F : Hp) (x y : V) (da db d : D) (Q : VK), Sub F H → RepT Y H F x da → RepT Y H F y db → g da db = some d →
  (∀ a H' F', Ext H F H' F' → H a = none → F' a = none → Own Y H' F' a d → Q (.ref a) H') → r x y H Q
def bin2 (f g : Reg → Option D) (h : D → D → Option D) : Reg → Option D := fun ρ => (f ρ).bind fun x => (g ρ).bind fun y => h x y
theorem bin2_some {f g : Reg → Option D} {h : D → D → Option D} {ρ : Reg} {d : D} (e : bin2 f g h ρ = some d) : ∃ x y, f ρ = some x ∧ g ρ = some y ∧ h x y = some d := by
  obtain ⟨x, e1, e⟩ := Option.bind_eq_some_iff.mp e
  obtain ⟨y, e2, e⟩ := Option.bind_eq_some_iff.mp e
  exact ⟨x, y, e1, e2, e⟩
theorem de_op {op : Operator} {r : R2} {h : D → D → Option D} (ho : OpR X (binaryOp op) r) (hr : RdE (kn X) r h) (ha : DB X a ta f) (hb : DB X b tb g) : DE X (.BinOp a op b pos) (tOp r ta tb) (bin2 f g h) := by
  refine ⟨pe_op ho ha.p hb.p, fun σ H F ρ d Q r0 e k => ?_⟩
  obtain ⟨x, y, e1, e2, e3⟩ := bin2_some e
  exact two (r := r) ha.q hb.q r0 e1 e2 fun v w H' F' x' r1 r2 => hr H' F' v w x y d Q x'.s r1 r2 e3 fun u H2 F2 x2 r3 => k u H2 F2 (x'.trans x2) r3
theorem dn_op {op : Operator} {r : R2} {h : D → D → Option D} (ho : OpR X (binaryOp op) r) (hr : RdN (kn X) r h) (ha : DB X a ta f) (hb : DB X b tb g) : DN X (.BinOp a op b pos) (tOp r ta tb) (bin2 f g h) := by
  refine ⟨pe_op ho ha.p hb.p, fun σ H F ρ d Q r0 e k => ?_⟩
  obtain ⟨x, y, e1, e2, e3⟩ := bin2_some e
  exact two (r := r) ha.q hb.q r0 e1 e2 fun v w H' F' x' r1 r2 => hr H' F' v w x y d Q x'.s r1 r2 e3 fun u H2 F2 x2 n0 n1 o => k u H2 F2 (x'.trans x2) (none_of_sub x'.h n0) n1 o
/-- what a two-place rule gives on data: a bool -/
def RdT (Y : Kn) (r : R2) (g : D → D → Option Bool) : Prop := ∀ (H F : Hp) (x y : V) (da db : D) (c : Bool) (Q : VK), Sub F H → RepT Y H F x da → RepT Y H F y db → g da db = some c → Q (.bl c) H → r x y H Q
def cmp2 (f g : Reg → Option D) (h : D → D → Option Bool) : Reg → Option Bool := fun ρ => (f ρ).bind fun x => (g ρ).bind fun y => h x y
theorem cmp2_some {f g : Reg → Option D} {h : D → D → Option Bool} {ρ : Reg} {d : Bool} (e : cmp2 f g h ρ = some d) : ∃ x y, f ρ = some x ∧ g ρ = some y ∧ h x y = some d := by
  obtain ⟨x, e1, e⟩ := Option.bind_eq_some_iff.mp e
  obtain ⟨y, e2, e⟩ := Option.bind_eq_some_iff.mp e
  exact ⟨x, y, e1, e2, e⟩
def bV (f : Reg → Option Bool) : Reg → Option D := fun ρ => (f ρ).bind fun c => some (.bl c)
theorem dt_cmp {op : CmpOp} {r : R2} {h : D → D → Option Bool} (ho : OpR X (compareOp op) r) (hr : RdT (kn X) r h) (hm : behindInMarks op b = false) (ha : DB X a ta f) (hb : DB X b tb g) : DT X (.Compare a [op] [b] pos) (tTest (tOp r ta tb)) (cmp2 f g h) := by
  refine ⟨pt_cmpR ho ha.p hb.p hm, fun σ H F ρ c Q r0 e k => ?_⟩
  obtain ⟨x, y, e1, e2, e3⟩ := cmp2_some e
  exact two (r := r) ha.q hb.q r0 e1 e2 fun v w H' F' x' r1 r2 => hr H' F' v w x y c _ x'.s r1 r2 e3 ⟨c, rfl, k H' F' x'⟩
theorem de_cmp {op : CmpOp} {r : R2} {h : D → D → Option Bool} (ho : OpR X (compareOp op) r) (hr : RdT (kn X) r h) (hm : behindInMarks op b = false) (ha : DB X a ta f) (hb : DB X b tb g) : DE X (.Compare a [op] [b] pos) (tOp r ta tb) (bV (cmp2 f g h)) := by
  refine ⟨pe_cmpR ho ha.p hb.p hm, fun σ H F ρ d Q r0 e k => ?_⟩
  obtain ⟨c, e0, e'⟩ := Option.bind_eq_some_iff.mp e
  cases e'
  obtain ⟨x, y, e1, e2, e3⟩ := cmp2_some e0
  exact two (r := r) ha.q hb.q r0 e1 e2 fun v w H' F' x' r1 r2 => hr H' F' v w x y c _ x'.s r1 r2 e3 (k _ H' F' x' (.bl c))
end
end DL

/-! DL, statements: outcomes, blocks, assignments, loops, comprehensions, a def's promise. -/
namespace DL
open PySem PySem.Spec PyProof.Rows L2
open TL (tl len_tl ext_tl tl_append tl_mk mk_tl map_tl_inj tl_ofString)
section
/-- how a statement ends -/
inductive Out where
  | nx (ρ : Reg) | rt (d : D) | bk (ρ : Reg) | ct (ρ : Reg) | bad
/-- the slots, beside the entry's heap -/
structure RS (Y : Kn) (H0 F0 H F : Hp) (σ : L2.St) (ρ : Reg) : Prop where
  r : R0 Y H F σ ρ
  x : Ext H0 F0 H F
  own : ∀ (i : Nat) (d : D) (a : Addr), ρ[i]? = some (.ow d) → σ[i]? = some (some (.ref a)) → H0 a = none
section
variable {Y : Kn} {H0 F0 H F H' F' : Hp} {σ σ' : L2.St} {ρ ρ' : Reg}
theorem RS.ext (s : RS Y H0 F0 H F σ ρ) (x : Ext H F H' F') : RS Y H0 F0 H' F' σ ρ := ⟨s.r.ext x, s.x.trans x, s.own⟩
def ownedAt (σ : L2.St) (ρ : Reg) (a : Addr) : Prop := ∃ (i : Nat) (d : D), ρ[i]? = some (Sl.ow d) ∧ σ[i]? = some (some (V.ref a))
open Classical in
/-- the heap without what is one's own -/
noncomputable def bare (H : Hp) (σ : L2.St) (ρ : Reg) : Hp := fun a => if ownedAt σ ρ a then none else H a
theorem R0.free (r : R0 Y H F σ ρ) {a : Addr} (o : ownedAt σ ρ a) : F a = none := by
  obtain ⟨i, d, h1, h2⟩ := o
  obtain ⟨v, e, b, h3, h4, h5⟩ := r.at_ i _ h1
  rw [h2] at e
  cases e
  cases h3
  exact h4
theorem R0.rebase (r : R0 Y H F σ ρ) : RS Y (bare H σ ρ) F H F σ ρ := by
  refine ⟨r, ⟨fun a o e => ?_, Sub.refl _, r.sub, fun a o e n => n⟩, fun i d a h1 h2 => if_pos ⟨i, d, h1, h2⟩⟩
  unfold bare at e
  by_cases h : ownedAt σ ρ a
  · rw [if_pos h] at e; cases e
  · rw [if_neg h] at e; exact e
theorem RS.over (s : RS Y H0 F0 H F σ ρ) : Ext H0 F0 (bare H σ ρ) F := by
  have no : ∀ a o, H0 a = some o → ¬ ownedAt σ ρ a := fun a o e h => by
    obtain ⟨i, d, h1, h2⟩ := h
    rw [s.own i d a h1 h2] at e; cases e
  refine ⟨fun a o e => ?_, s.x.f, fun a o e => ?_, s.x.n⟩
  · unfold bare; rw [if_neg (no a o e)]; exact s.x.h a o e
  · unfold bare
    by_cases h : ownedAt σ ρ a
    · rw [s.r.free h] at e; cases e
    · rw [if_neg h]; exact s.r.sub a o e
theorem RS.back {Hb : Hp} (o : Ext H0 F0 Hb F) (s : RS Y Hb F H' F' σ' ρ') : RS Y H0 F0 H' F' σ' ρ' :=
  ⟨s.r, o.trans s.x, fun i d a h1 h2 => none_of_sub o.h (s.own i d a h1 h2)⟩
end
/-- what is wanted behind, on data -/
def Post (Y : Kn) (H0 F0 : Hp) (D : Ends) : Out → Prop
  | .nx ρ => ∀ σ H F, RS Y H0 F0 H F σ ρ → D.nx σ H
  | .rt d => ∀ v H F, Ext H0 F0 H F → Rep Y F v d → D.rt v H
  | .bk ρ => ∀ σ H F, RS Y H0 F0 H F σ ρ → D.bk σ H
  | .ct ρ => ∀ σ H F, RS Y H0 F0 H F σ ρ → D.ct σ H
  | .bad => False
def EvS (Y : Kn) (t : TS) (B : Reg → Out) : Prop := ∀ (σ : L2.St) (H F : Hp) (ρ : Reg) (H0 F0 : Hp) (D : Ends), RS Y H0 F0 H F σ ρ → Post Y H0 F0 D (B ρ) → t D σ H
structure DS (X : Cx) (st : Stmt) (t : TS) (B : Reg → Out) : Prop where
  p : PS X st t
  q : EvS (kn X) t B
structure DSs (X : Cx) (sts : List Stmt) (t : TS) (B : Reg → Out) : Prop where
  p : PSs X sts t
  q : EvS (kn X) t B
/-- one behind the other -/
def sq (A B : Reg → Out) : Reg → Out := fun ρ => match A ρ with
  | .nx ρ' => B ρ'
  | o => o
def skip : Reg → Out := fun ρ => .nx ρ
section
variable {X : Cx} {st : Stmt} {rest : List Stmt} {t u : TS} {A B : Reg → Out} {e : Expr} {f : Reg → Option D} {te : TE} {pos : Pos}
theorem dss_nil : DSs X [] tNext skip := ⟨pss_nil, fun σ H F ρ H0 F0 D s h => h σ H F s⟩
theorem dss_cons (h1 : DS X st t A) (h2 : DSs X rest u B) : DSs X (st :: rest) (tSeq t u) (sq A B) := by
  refine ⟨pss_cons h1.p h2.p, fun σ H F ρ H0 F0 D s h => h1.q σ H F ρ H0 F0 _ s ?_⟩
  unfold sq at h
  cases e : A ρ with
  | nx ρ' => rw [e] at h; exact fun σ' H' F' s' => h2.q σ' H' F' ρ' H0 F0 D s' h
  | rt d => rw [e] at h; exact h
  | bk ρ' => rw [e] at h; exact h
  | ct ρ' => rw [e] at h; exact h
  | bad => rw [e] at h; exact h.elim
theorem dss_one (h1 : DS X st t A) : DSs X [st] t A := ⟨pss_one h1.p, h1.q⟩
theorem ds_pass : DS X (.Pass pos) tNext skip := ⟨ps_pass, fun σ H F ρ H0 F0 D s h => h σ H F s⟩
theorem ds_break : DS X (.Break pos) tBreak (fun ρ => .bk ρ) := ⟨ps_break, fun σ H F ρ H0 F0 D s h => h σ H F s⟩
theorem ds_continue : DS X (.Continue pos) tCont (fun ρ => .ct ρ) := ⟨ps_continue, fun σ H F ρ H0 F0 D s h => h σ H F s⟩
/-- a statement that is never reached -/
theorem ds_never : DS X st tNever (fun _ => .bad) := ⟨ps_never, fun σ H F ρ H0 F0 D s h => h⟩
theorem dss_never : DSs X rest tNever (fun _ => .bad) := ⟨pss_never, fun σ H F ρ H0 F0 D s h => h⟩
def retS (f : Reg → Option D) : Reg → Out := fun ρ => match f ρ with
  | some d => .rt d
  | none => .bad
theorem ds_ret (h : DE X e te f) : DS X (.Return (some e) pos) (tRet te) (retS f) := by
  refine ⟨ps_ret h.p, fun σ H F ρ H0 F0 D s k => ?_⟩
  unfold retS at k
  cases q : f ρ with
  | none => rw [q] at k; exact k.elim
  | some d =>
    rw [q] at k
    exact h.q σ H F ρ d _ s.r q fun v H' F' x r => k v H' F' (s.x.trans x) r
theorem ds_retN : DS X (.Return none pos) tRetN (fun _ => .rt .non) := ⟨ps_retN, fun σ H F ρ H0 F0 D s h => h .non H F s.x .non⟩
def iteS (c : Reg → Option Bool) (A B : Reg → Out) : Reg → Out := fun ρ => match c ρ with
  | some true => A ρ
  | some false => B ρ
  | none => .bad
theorem ds_if {c : Expr} {a b : List Stmt} {tc : TT} {fc : Reg → Option Bool} (hc : DT X c tc fc) (ha : DSs X a t A) (hb : DSs X b u B) : DS X (.If c a b pos) (tIfS tc t u) (iteS fc A B) := by
  refine ⟨ps_if hc.p ha.p hb.p, fun σ H F ρ H0 F0 D s k => ?_⟩
  unfold iteS at k
  cases q : fc ρ with
  | none => rw [q] at k; exact k.elim
  | some c =>
    rw [q] at k
    refine hc.q σ H F ρ c _ s.r q fun H' F' x => ?_
    cases c with
    | true => exact iteT (ha.q σ H' F' ρ H0 F0 D (s.ext x) k)
    | false => exact iteF (hb.q σ H' F' ρ H0 F0 D (s.ext x) k)
def dropS (f : Reg → Option D) : Reg → Out := fun ρ => match f ρ with
  | some _ => .nx ρ
  | none => .bad
theorem ds_expr (h : DE X e te f) (hs : swapsWith e none pos.line X.env = pure false := by rfl) : DS X (.Expr e pos) (tDrop te) (dropS f) := by
  refine ⟨ps_expr h.p hs, fun σ H F ρ H0 F0 D s k => ?_⟩
  unfold dropS at k
  cases q : f ρ with
  | none => rw [q] at k; exact k.elim
  | some d =>
    rw [q] at k
    exact h.q σ H F ρ d _ s.r q fun v H' F' x r => k σ H' F' (s.ext x)
/-- freeze a slot that is one's own -/
def freeze (ρ : Reg) (i : Nat) : Reg := match ρ[i]? with
  | some (.ow d) => ρ.set i (.fz d)
  | _ => ρ
theorem Own.rep2 {Y : Kn} {H F : Hp} {a : Addr} {d : D} (o : Own Y H F a d) (n : F a = none) : Rep Y (frz1 H F a) (.ref a) d := o.rep (frz1_sub n) (if_pos rfl)
theorem RS.freeze {Y : Kn} {H0 F0 H F : Hp} {σ : L2.St} {ρ : Reg} (s : RS Y H0 F0 H F σ ρ) (i : Nat) : ∃ F', Sub F F' ∧ RS Y H0 F0 H F' σ (freeze ρ i) := by
  unfold DL.freeze
  cases q : ρ[i]? with
  | none => exact ⟨F, Sub.refl _, s⟩
  | some sl =>
    cases sl with
    | no => exact ⟨F, Sub.refl _, s⟩
    | fz _ => exact ⟨F, Sub.refl _, s⟩
    | ow d =>
      obtain ⟨v, h1, a, h2, h3, h4⟩ := s.r.at_ i _ q
      subst h2
      have hs := frz1_sub (H := H) h3
      have hi : i < ρ.length := (List.getElem?_eq_some_iff.mp q).1
      refine ⟨frz1 H F a, hs, ⟨frz1_in s.r.sub, by rw [List.length_set]; exact s.r.len, fun j sl e => ?_, fun j k d1 d2 b e1 e2 e3 e4 => ?_⟩, ⟨s.x.h, s.x.f.trans hs, frz1_in s.r.sub, fun b o hb nb => ?_⟩, fun j d1 b e1 e2 => ?_⟩
      · by_cases hj : i = j
        · subst hj
          rw [List.getElem?_set_self hi] at e
          cases e
          exact ⟨_, h1, .ref a, rfl, h4.rep2 h3⟩
        · rw [List.getElem?_set_ne hj] at e
          obtain ⟨v', g1, g2⟩ := s.r.at_ j sl e
          refine ⟨v', g1, ?_⟩
          cases sl with
          | no => trivial
          | fz d1 => obtain ⟨y, g3, g4⟩ := g2; exact ⟨y, g3, g4.mono hs⟩
          | ow d1 =>
            obtain ⟨b, g3, g4, g5⟩ := g2
            subst g3
            refine ⟨b, rfl, ?_, g5.mono rfl hs⟩
            have nb : b ≠ a := fun z => hj (s.r.sep i j d d1 a q e h1 (by rw [← z]; exact g1))
            unfold frz1
            rw [if_neg nb]; exact g4
      · by_cases hj : i = j
        · subst hj; rw [List.getElem?_set_self hi] at e1; cases e1
        · by_cases hk : i = k
          · subst hk; rw [List.getElem?_set_self hi] at e2; cases e2
          · rw [List.getElem?_set_ne hj] at e1
            rw [List.getElem?_set_ne hk] at e2
            exact s.r.sep j k d1 d2 b e1 e2 e3 e4
      · unfold frz1
        by_cases hba : b = a
        · subst hba
          have n0 : H0 b = none := s.own i d b q h1
          rw [n0] at hb; cases hb
        · rw [if_neg hba]; exact s.x.n b o hb nb
      · by_cases hj : i = j
        · subst hj; rw [List.getElem?_set_self hi] at e1; cases e1
        · rw [List.getElem?_set_ne hj] at e1
          exact s.own j d1 b e1 e2
/-- ahead of a statement a slot is frozen -/
def frzS (i : Nat) (B : Reg → Out) : Reg → Out := fun ρ => B (freeze ρ i)
theorem ds_frz (i : Nat) (h : DS X st t B) : DS X st t (frzS i B) :=
  ⟨h.p, fun σ H F ρ H0 F0 D s k => let ⟨F', _, s'⟩ := s.freeze i; h.q σ H F' (freeze ρ i) H0 F0 D s' k⟩
/-- a slot gets frozen data -/
theorem R0.setF {Y : Kn} {H F : Hp} {σ : L2.St} {ρ : Reg} (r : R0 Y H F σ ρ) (i : Nat) {v : V} {d : D} (h : Rep Y F v d) : R0 Y H F (σ.set i (some v)) (ρ.set i (.fz d)) := by
  refine ⟨r.sub, by rw [List.length_set, List.length_set]; exact r.len, fun j sl e => ?_, fun j k d1 d2 b e1 e2 e3 e4 => ?_⟩
  · by_cases hj : i = j
    · subst hj
      have hi : i < ρ.length := by have := (List.getElem?_eq_some_iff.mp e).1; rw [List.length_set] at this; exact this
      rw [List.getElem?_set_self hi] at e
      cases e
      exact ⟨some v, List.getElem?_set_self (by rw [r.len]; exact hi), v, rfl, h⟩
    · rw [List.getElem?_set_ne hj] at e ⊢
      exact r.at_ j sl e
  · by_cases hj : i = j
    · subst hj
      have hi : i < ρ.length := by have := (List.getElem?_eq_some_iff.mp e1).1; rw [List.length_set] at this; exact this
      rw [List.getElem?_set_self hi] at e1; cases e1
    · by_cases hk : i = k
      · subst hk
        have hi : i < ρ.length := by have := (List.getElem?_eq_some_iff.mp e2).1; rw [List.length_set] at this; exact this
        rw [List.getElem?_set_self hi] at e2; cases e2
      · rw [List.getElem?_set_ne hj] at e1 e3
        rw [List.getElem?_set_ne hk] at e2 e4
        exact r.sep j k d1 d2 b e1 e2 e3 e4
theorem RS.setF {Y : Kn} {H0 F0 H F : Hp} {σ : L2.St} {ρ : Reg} (s : RS Y H0 F0 H F σ ρ) (i : Nat) {v : V} {d : D} (h : Rep Y F v d) : RS Y H0 F0 H F (σ.set i (some v)) (ρ.set i (.fz d)) := by
  refine ⟨s.r.setF i h, s.x, fun j d1 b e1 e2 => ?_⟩
  by_cases hj : i = j
  · subst hj
    have hi : i < ρ.length := by have := (List.getElem?_eq_some_iff.mp e1).1; rw [List.length_set] at this; exact this
    rw [List.getElem?_set_self hi] at e1; cases e1
  · rw [List.getElem?_set_ne hj] at e1 e2
    exact s.own j d1 b e1 e2
/-- a slot gets a new list or dict -/
theorem RS.setO {Y : Kn} {H0 F0 H F H' F' : Hp} {σ : L2.St} {ρ : Reg} (s : RS Y H0 F0 H F σ ρ) (x : Ext H F H' F') (i : Nat) {a : Addr} {d : D} (n0 : H a = none) (n1 : F' a = none) (o : Own Y H' F' a d) : RS Y H0 F0 H' F' (σ.set i (some (.ref a))) (ρ.set i (.ow d)) := by
  have s' := s.ext x
  have ap : ∀ (j : Nat) (d1 : D) (b : Addr), ρ[j]? = some (.ow d1) → σ[j]? = some (some (.ref b)) → b ≠ a := fun j d1 b e1 e2 z => by
    obtain ⟨v, h1, c, h2, h3, h4⟩ := s.r.at_ j _ e1
    rw [e2] at h1
    cases h1
    cases h2
    obtain ⟨u, hu⟩ := h4.some_
    rw [z, n0] at hu; cases hu
  refine ⟨⟨s'.r.sub, by rw [List.length_set, List.length_set]; exact s.r.len, fun j sl e => ?_, fun j k d1 d2 b e1 e2 e3 e4 => ?_⟩, s'.x, fun j d1 b e1 e2 => ?_⟩
  · by_cases hj : i = j
    · subst hj
      have hi : i < ρ.length := by have := (List.getElem?_eq_some_iff.mp e).1; rw [List.length_set] at this; exact this
      rw [List.getElem?_set_self hi] at e
      cases e
      exact ⟨some (.ref a), List.getElem?_set_self (by rw [s.r.len]; exact hi), a, rfl, n1, o⟩
    · rw [List.getElem?_set_ne hj] at e ⊢
      exact s'.r.at_ j sl e
  · by_cases hj : i = j
    · subst hj
      by_cases hk : i = k
      · exact hk
      · have hi : i < σ.length := by have := (List.getElem?_eq_some_iff.mp e3).1; rw [List.length_set] at this; exact this
        rw [List.getElem?_set_self hi] at e3
        cases e3
        rw [List.getElem?_set_ne hk] at e2 e4
        exact absurd rfl (ap k d2 a e2 e4)
    · by_cases hk : i = k
      · subst hk
        have hi : i < σ.length := by have := (List.getElem?_eq_some_iff.mp e4).1; rw [List.length_set] at this; exact this
        rw [List.getElem?_set_self hi] at e4
        cases e4
        rw [List.getElem?_set_ne hj] at e1 e3
        exact absurd rfl (ap j d1 a e1 e3)
      · rw [List.getElem?_set_ne hj] at e1 e3
        rw [List.getElem?_set_ne hk] at e2 e4
        exact s.r.sep j k d1 d2 b e1 e2 e3 e4
  · by_cases hj : i = j
    · subst hj
      have hi : i < σ.length := by have := (List.getElem?_eq_some_iff.mp e2).1; rw [List.length_set] at this; exact this
      rw [List.getElem?_set_self hi] at e2
      cases e2
      exact none_of_sub s.x.h n0
    · rw [List.getElem?_set_ne hj] at e1 e2
      exact s.own j d1 b e1 e2
def setS (i : Nat) (f : Reg → Option D) : Reg → Out := fun ρ => match f ρ with
  | some d => .nx (ρ.set i (.fz d))
  | none => .bad
def setN (i : Nat) (f : Reg → Option D) : Reg → Out := fun ρ => match f ρ with
  | some d => .nx (ρ.set i (.ow d))
  | none => .bad
theorem ds_set (i : Nat) {x : Str} {pos' : Pos} (hN : X.N.Nodup) (h : DE X e te f) (hi : X.N[i]? = some x := by rfl) (hx : Loc X.env.scope x := by first | exact Or.inl rfl | exact Or.inr rfl) (hs : swapsWith e (some (.Name x pos')) pos.line X.env = pure false := by rfl)
    (hf : X.fn x = true ∨ X.env.scope.names.lookup x = some .local := by first | exact .inl rfl | exact .inr rfl) : DS X (.Assign [.Name x pos'] e pos) (tAsg te (gName i)) (setS i f) := by
  refine ⟨ps_set hN hi hx h.p hs hf, fun σ H F ρ H0 F0 D s k => ?_⟩
  unfold setS at k
  cases q : f ρ with
  | none => rw [q] at k; exact k.elim
  | some d =>
    rw [q] at k
    exact h.q σ H F ρ d _ s.r q fun v H' F' x r => k _ H' F' ((s.ext x).setF i r)
theorem ds_setN (i : Nat) {x : Str} {pos' : Pos} (hN : X.N.Nodup) (h : DN X e te f) (hi : X.N[i]? = some x := by rfl) (hx : Loc X.env.scope x := by first | exact Or.inl rfl | exact Or.inr rfl) (hs : swapsWith e (some (.Name x pos')) pos.line X.env = pure false := by rfl)
    (hf : X.fn x = true ∨ X.env.scope.names.lookup x = some .local := by first | exact .inl rfl | exact .inr rfl) : DS X (.Assign [.Name x pos'] e pos) (tAsg te (gName i)) (setN i f) := by
  refine ⟨ps_set hN hi hx h.p hs hf, fun σ H F ρ H0 F0 D s k => ?_⟩
  unfold setN at k
  cases q : f ρ with
  | none => rw [q] at k; exact k.elim
  | some d =>
    rw [q] at k
    exact h.q σ H F ρ d _ s.r q fun a H' F' x n0 n1 o => k _ H' F' (s.setO x i n0 n1 o)
/-! ### targets -/
/-- a target takes data apart; it stores in the slots is alone -/
structure DG (X : Cx) (tg : Expr) (g : TG) (h : D → Reg → Option Reg) (is : List Nat) : Prop where
  p : PG X tg g
  q : ∀ (v : V) (d : D) (σ : L2.St) (H F : Hp) (ρ ρ' : Reg) (Q : L2.St → Hp → Prop), R0 (kn X) H F σ ρ → Rep (kn X) F v d → h d ρ = some ρ' →
    (∀ σ', R0 (kn X) H F σ' ρ' → σ'.length = σ.length → (∀ j, j ∉ is → σ'[j]? = σ[j]? ∧ ρ'[j]? = ρ[j]?) → (∀ j d', ρ'[j]? = some (.ow d') → j ∉ is) → Q σ' H) → g v σ H Q
structure DGs (X : Cx) (tgs : List Expr) (g : TGs) (h : List D → Reg → Option Reg) (is : List Nat) : Prop where
  p : PGs X tgs g
  q : ∀ (vs : List V) (ds : List D) (σ : L2.St) (H F : Hp) (ρ ρ' : Reg) (Q : L2.St → Hp → Prop), R0 (kn X) H F σ ρ → Reps (kn X) F vs ds → h ds ρ = some ρ' →
    (∀ σ', R0 (kn X) H F σ' ρ' → σ'.length = σ.length → (∀ j, j ∉ is → σ'[j]? = σ[j]? ∧ ρ'[j]? = ρ[j]?) → (∀ j d', ρ'[j]? = some (.ow d') → j ∉ is) → Q σ' H) → g vs σ H Q
@[simp] def gN (i : Nat) : D → Reg → Option Reg := fun d ρ => some (ρ.set i (.fz d))
theorem dg_name (i : Nat) {x : Str} (hN : X.N.Nodup) (hi : X.N[i]? = some x := by rfl) (hx : Loc X.env.scope x := by first | exact Or.inl rfl | exact Or.inr rfl)
    (hf : X.fn x = true ∨ X.env.scope.names.lookup x = some .local := by first | exact .inl rfl | exact .inr rfl) : DG X (.Name x pos) (gName i) (gN i) [i] := by
  refine ⟨pg_name hN hi hx hf, fun v d σ H F ρ ρ' Q r h e k => ?_⟩
  cases e
  refine k _ (r.setF i h) (List.length_set ..) (fun j hj => ?_) fun j d' e hj => ?_
  · have hj : i ≠ j := fun z => hj (by simp [z])
    rw [List.getElem?_set_ne hj, List.getElem?_set_ne hj]
    exact ⟨rfl, rfl⟩
  · have hj : j = i := by simpa using hj
    subst hj
    have hi : j < ρ.length := by have := (List.getElem?_eq_some_iff.mp e).1; rw [List.length_set] at this; exact this
    rw [List.getElem?_set_self hi] at e; cases e
def gsN : List D → Reg → Option Reg
  | [], ρ => some ρ
  | _, _ => none
def gsC (g : D → Reg → Option Reg) (gs : List D → Reg → Option Reg) : List D → Reg → Option Reg
  | d :: ds, ρ => (g d ρ).bind fun ρ' => gs ds ρ'
  | [], _ => none
def gT (gs : List D → Reg → Option Reg) : D → Reg → Option Reg
  | .tup ds, ρ => gs ds ρ
  | _, _ => none
theorem dgs_nil : DGs X [] gNil gsN [] := by
  refine ⟨pgs_nil, fun vs ds σ H F ρ ρ' Q r h e k => ?_⟩
  cases ds with
  | nil => cases h; cases e; exact ⟨rfl, k σ r rfl (fun j _ => ⟨rfl, rfl⟩) fun j d' _ => by simp⟩
  | cons d ds => cases e
theorem dgs_cons {tg : Expr} {tgs : List Expr} {g : TG} {gs : TGs} {h : D → Reg → Option Reg} {hs : List D → Reg → Option Reg} {is js : List Nat} (a : DG X tg g h is) (b : DGs X tgs gs hs js)
    (he : (assignEach (tg :: tgs) X.env).map (·.2) = assign tg X.env :: (assignEach tgs X.env).map (·.2) := by rfl) : DGs X (tg :: tgs) (gCons g gs) (gsC h hs) (is ++ js) := by
  refine ⟨pgs_cons a.p b.p he, fun vs ds σ H F ρ ρ' Q r q e k => ?_⟩
  cases q with
  | nil => cases e
  | cons q1 q2 =>
    obtain ⟨ρ1, e1, e2⟩ := Option.bind_eq_some_iff.mp e
    refine ⟨_, _, rfl, a.q _ _ σ H F ρ ρ1 _ r q1 e1 fun σ1 r1 l1 k1 o1 => b.q _ _ σ1 H F ρ1 ρ' _ r1 q2 e2 fun σ2 r2 l2 k2 o2 => ?_⟩
    refine k σ2 r2 (l2.trans l1) (fun j hj => ?_) fun j d' e hj => ?_
    · simp only [List.mem_append, not_or] at hj
      exact ⟨(k2 j hj.2).1.trans (k1 j hj.1).1, (k2 j hj.2).2.trans (k1 j hj.1).2⟩
    · have nj := o2 j d' e
      rcases List.mem_append.mp hj with z | z
      · exact o1 j d' ((k2 j nj).2.symm.trans e) z
      · exact nj z
theorem dgs_len {tgs : List Expr} {gs : TGs} {hs : List D → Reg → Option Reg} {js : List Nat} (b : DGs X tgs gs hs js) : True := trivial
theorem dg_tup {tgs : List Expr} {j : Nat} {gs : TGs} {hs : List D → Reg → Option Reg} {js : List Nat} (n : Nat) (hc : X.calm = true) (b : DGs X tgs gs hs js) (hl : ∀ ds ρ ρ', hs ds ρ = some ρ' → ds.length = n)
    (hn : (assignEach tgs X.env).length = n := by rfl) (hst : (assignEach tgs X.env).findIdx? (·.1) = none := by rfl) : DG X (.Tuple tgs j pos) (gTup X.K n gs) (gT hs) js := by
  refine ⟨pg_tup hc b.p hn hst, fun v d σ H F ρ ρ' Q r h e k => ?_⟩
  cases h with
  | tup q1 q2 => exact ⟨_, _, rfl, sqT_sub r.sub q1, by rw [q2.length]; exact hl _ _ _ e, b.q _ _ σ H F ρ ρ' Q r q2 e k⟩
  | _ => cases e
theorem gsN_len : ∀ ds ρ ρ', gsN ds ρ = some ρ' → ds.length = 0
  | [], _, _, _ => rfl
  | _ :: _, _, _, e => by cases e
theorem gsC_len {g : D → Reg → Option Reg} {gs : List D → Reg → Option Reg} {n : Nat} (h : ∀ ds ρ ρ', gs ds ρ = some ρ' → ds.length = n) : ∀ ds ρ ρ', gsC g gs ds ρ = some ρ' → ds.length = n + 1
  | [], _, _, e => by cases e
  | d :: ds, ρ, ρ', e => by
    obtain ⟨ρ1, e1, e2⟩ := Option.bind_eq_some_iff.mp e
    rw [List.length_cons, h ds ρ1 ρ' e2]
theorem DG.rs {tg : Expr} {g : TG} {h : D → Reg → Option Reg} {is : List Nat} (a : DG X tg g h is) {v : V} {d : D} {σ : L2.St} {H0 F0 H F : Hp} {ρ ρ' : Reg} {Q : L2.St → Hp → Prop} (s : RS (kn X) H0 F0 H F σ ρ) (r : Rep (kn X) F v d) (e : h d ρ = some ρ')
    (k : ∀ σ', RS (kn X) H0 F0 H F σ' ρ' → Q σ' H) : g v σ H Q := by
  refine a.q v d σ H F ρ ρ' Q s.r r e fun σ' r' l k' o => k σ' ⟨r', s.x, fun j d1 b e1 e2 => ?_⟩
  have nj := o j d1 e1
  rw [(k' j nj).1] at e2
  rw [(k' j nj).2] at e1
  exact s.own j d1 b e1 e2
/-- target = e, any target -/
def asgS (f : Reg → Option D) (h : D → Reg → Option Reg) : Reg → Out := fun ρ => match (f ρ).bind fun d => h d ρ with
  | some ρ' => .nx ρ'
  | none => .bad
theorem ds_asg {tg : Expr} {g : TG} {h : D → Reg → Option Reg} {is : List Nat} (he : DE X e te f) (hg : DG X tg g h is) (hs : swapsWithSole [tg] e pos.line X.env = pure false := by rfl) (hw : swappedStores [tg] e X.env = pure none := by rfl)
    (h1 : (assignEach [tg] X.env).map (·.2) = [assign tg X.env] := by rfl) : DS X (.Assign [tg] e pos) (tAsg te g) (asgS f h) := by
  refine ⟨ps_asg he.p hg.p hs hw h1, fun σ H F ρ H0 F0 D s k => ?_⟩
  unfold asgS at k
  cases q : (f ρ).bind fun d => h d ρ with
  | none => rw [q] at k; exact k.elim
  | some ρ' =>
    rw [q] at k
    obtain ⟨d, e1, e2⟩ := Option.bind_eq_some_iff.mp q
    exact he.q σ H F ρ d _ s.r e1 fun v H' F' x r => hg.rs (s.ext x) r e2 fun σ' s' => k σ' H' F' s'
end
end
end DL

/-! DL, loops: what is walked, for, while, comprehensions; calls and a def's promise. -/
namespace DL
open PySem PySem.Spec PyProof.Rows L2
open TL (tl len_tl ext_tl tl_append tl_mk mk_tl map_tl_inj tl_ofString)
section
/-- the iterator yields the data ds, while the frozen part F1 is kept -/
structure Wlk (Y : Kn) (J : It) (F1 : Hp) (ds : List D) : Prop where
  go : ∀ (i : Nat) (H F : Hp), i < ds.length → Sub F1 F → Sub F H → J.go i H
  stop : ∀ (H F : Hp), Sub F1 F → Sub F H → J.stop ds.length H
  yld : ∀ (i : Nat) (H F : Hp) (x : V) (H' : Hp) (d : D), ds[i]? = some d → Sub F1 F → Sub F H → J.yld i H x H' → ∃ F', Ext H F H' F' ∧ Rep Y F' x d
structure DI (X : Cx) (tg iter : Expr) (wi : TI) (f : Reg → Option (List D)) : Prop where
  p : PI X tg iter wi
  q : ∀ (σ : L2.St) (H F : Hp) (ρ : Reg) (ds : List D) (R : It → Hp → Prop), R0 (kn X) H F σ ρ → f ρ = some ds → (∀ J H' F', Ext H F H' F' → Wlk (kn X) J F' ds → R J H') → wi σ H R
/-- the rest of a for -/
def loopD (g : D → Reg → Option Reg) (B : Reg → Out) : List D → Reg → Out
  | [], ρ => .nx ρ
  | d :: ds, ρ => match g d ρ with
    | none => .bad
    | some ρ1 => match B ρ1 with
      | .nx ρ2 => loopD g B ds ρ2
      | .ct ρ2 => loopD g B ds ρ2
      | .bk ρ2 => .nx ρ2
      | .rt d => .rt d
      | .bad => .bad
def forS (f : Reg → Option (List D)) (g : D → Reg → Option Reg) (B : Reg → Out) : Reg → Out := fun ρ => match f ρ with
  | none => .bad
  | some ds => loopD g B ds ρ
section
variable {X : Cx} {st : Stmt} {t u : TS} {A B : Reg → Out} {tg iter e : Expr} {f : Reg → Option D} {te : TE} {pos : Pos} {body : List Stmt}
theorem ds_for {wi : TI} {fs : Reg → Option (List D)} {g : TG} {h : D → Reg → Option Reg} {is : List Nat} (hp : PassesOwn (model X.prog X.w) X.A X.env X.xe) (hc : X.calm = true) (hi : DI X tg iter wi fs) (hg : DG X tg g h is) (hb : DSs X body t B)
    (hs : ∀ x, foldedSetIterable iter X.env x = pure x := by intro _; rfl) : DS X (.For tg iter body [] pos) (tFor wi g t) (forS fs h B) := by
  refine ⟨ps_for hp hc hi.p hg.p hb.p hs, fun σ H F ρ H0 F0 D0 s k => ?_⟩
  unfold forS at k
  cases q : fs ρ with
  | none => rw [q] at k; exact k.elim
  | some ds =>
    rw [q] at k
    refine hi.q σ H F ρ ds _ s.r q fun J H1 F1 x1 wk => ?_
    refine ⟨fun i m σ H => m = ds.length - i ∧ i ≤ ds.length ∧ ∃ F ρ, RS (kn X) H0 F0 H F σ ρ ∧ Sub F1 F ∧ Post (kn X) H0 F0 D0 (loopD h B (ds.drop i) ρ), ⟨ds.length, by simp, Nat.zero_le _, F1, ρ, s.ext x1, Sub.refl _, k⟩, ?_⟩
    rintro i m σ H ⟨rfl, hil, F, ρ, s, hF, k⟩
    by_cases hlt : i < ds.length
    · refine .inr ⟨wk.go i H F hlt hF s.r.sub, fun σ' H' => ∃ F' ρ', RS (kn X) H0 F0 H' F' σ' ρ' ∧ Sub F1 F' ∧ Post (kn X) H0 F0 D0 (loopD h B (ds.drop (i + 1)) ρ'), ?_, ?_⟩
      · rintro σ' H' ⟨F', ρ', s', hF', k'⟩
        exact ⟨ds.length - (i + 1), by omega, rfl, hlt, F', ρ', s', hF', k'⟩
      · intro x H' y
        obtain ⟨F2, x2, r2⟩ := wk.yld i H F x H' ds[i] (List.getElem?_eq_getElem hlt) hF s.r.sub y
        rw [List.drop_eq_getElem_cons hlt] at k
        unfold loopD at k
        cases eg : h ds[i] ρ with
        | none => rw [eg] at k; exact k.elim
        | some ρ1 =>
          rw [eg] at k
          dsimp only at k
          refine hg.rs (s.ext x2) r2 eg fun σ3 s3 => ?_
          have o := s3.over
          refine hb.q σ3 H' F2 ρ1 (bare H' σ3 ρ1) F2 _ s3.r.rebase ?_
          cases eb : B ρ1 with
          | nx ρ2 =>
            rw [eb] at k
            exact fun σ4 H4 F4 s4 => ⟨F4, ρ2, s4.back o, (hF.trans x2.f).trans s4.x.f, k⟩
          | ct ρ2 =>
            rw [eb] at k
            exact fun σ4 H4 F4 s4 => ⟨F4, ρ2, s4.back o, (hF.trans x2.f).trans s4.x.f, k⟩
          | bk ρ2 =>
            rw [eb] at k
            exact fun σ4 H4 F4 s4 => k σ4 H4 F4 (s4.back o)
          | rt d =>
            rw [eb] at k
            exact fun v H4 F4 x4 r4 => k v H4 F4 (o.trans x4) r4
          | bad => rw [eb] at k; exact k.elim
    · have e : i = ds.length := by omega
      subst e
      refine .inl ⟨wk.stop H F hF s.r.sub, ?_⟩
      rw [List.drop_length] at k
      exact k σ H F s
/-! ### while -/
def whileD (c : Reg → Option Bool) (B : Reg → Out) : Nat → Reg → Out
  | 0, _ => .bad
  | n + 1, ρ => match c ρ with
    | none => .bad
    | some false => .nx ρ
    | some true => match B ρ with
      | .nx ρ2 => whileD c B n ρ2
      | .ct ρ2 => whileD c B n ρ2
      | .bk ρ2 => .nx ρ2
      | .rt d => .rt d
      | .bad => .bad
/-- turns enough -/
def manyN : Nat := 1000000000
theorem ds_while {c : Expr} {tc : TT} {fc : Reg → Option Bool} (hp : PassesOwn (model X.prog X.w) X.A X.env X.xe) (hc : DT X c tc fc) (hb : DSs X body t B) : DS X (.While c body [] pos) (tWhile tc t) (whileD fc B manyN) := by
  refine ⟨ps_while hp hc.p hb.p, fun σ H F ρ H0 F0 D0 s k => ?_⟩
  refine ⟨fun m σ H => ∃ F ρ, RS (kn X) H0 F0 H F σ ρ ∧ Post (kn X) H0 F0 D0 (whileD fc B m ρ), ⟨manyN, F, ρ, s, k⟩, ?_⟩
  rintro m σ H ⟨F, ρ, s, k⟩
  cases m with
  | zero => exact k.elim
  | succ m =>
    unfold whileD at k
    cases q : fc ρ with
    | none => rw [q] at k; exact k.elim
    | some c =>
      rw [q] at k
      refine hc.q σ H F ρ c _ s.r q fun H1 F1 x1 => ?_
      have s1 := s.ext x1
      cases c with
      | false => exact iteF (k σ H1 F1 s1)
      | true =>
        refine iteT ⟨fun σ' H' => ∃ F' ρ', RS (kn X) H0 F0 H' F' σ' ρ' ∧ Post (kn X) H0 F0 D0 (whileD fc B m ρ'), fun σ' H' w => ⟨m, Nat.lt_succ_self _, w⟩, ?_⟩
        refine hb.q σ H1 F1 ρ H0 F0 _ s1 ?_
        cases eb : B ρ with
        | nx ρ2 => rw [eb] at k; exact fun σ4 H4 F4 s4 => ⟨F4, ρ2, s4, k⟩
        | ct ρ2 => rw [eb] at k; exact fun σ4 H4 F4 s4 => ⟨F4, ρ2, s4, k⟩
        | bk ρ2 => rw [eb] at k; exact fun σ4 H4 F4 s4 => k σ4 H4 F4 s4
        | rt d => rw [eb] at k; exact fun v H4 F4 x4 r4 => k v H4 F4 x4 r4
        | bad => rw [eb] at k; exact k.elim
/-! ### what is walked -/
def seqD : D → Option (List D)
  | .lst ds => some ds
  | .tup ds => some ds
  | _ => none
def lstD : D → Option (List D)
  | .lst ds => some ds
  | _ => none
def tupD : D → Option (List D)
  | .tup ds => some ds
  | _ => none
theorem wlk_list {Y : Kn} {a : Addr} {F1 : Hp} {vs : List V} {ds : List D} (h : SqL Y.K F1 a vs) (r : Reps Y F1 vs ds) : Wlk Y (Itl Y.K a) F1 ds := by
  refine ⟨fun i H F hi h1 h2 => ?_, fun H F h1 h2 => ⟨vs, sqL_sub (h1.trans h2) h, by rw [r.length]; exact Nat.le_refl _⟩, fun i H F x H' d e h1 h2 y => ?_⟩
  · have hv : i < vs.length := by rw [r.length]; exact hi
    exact ⟨vs, vs[i], sqL_sub (h1.trans h2) h, List.getElem?_eq_getElem hv⟩
  · obtain ⟨e1, e2⟩ := y
    subst e1
    obtain ⟨v, g1, g2⟩ := r.get e
    have g3 := e2 vs (sqL_sub (h1.trans h2) h)
    rw [g1] at g3
    cases g3
    exact ⟨F, .refl h2, g2.mono h1⟩
theorem wlk_tup {Y : Kn} {a : Addr} {F1 : Hp} {vs : List V} {ds : List D} (h : SqT Y.K F1 a vs) (r : Reps Y F1 vs ds) : Wlk Y (Itt Y.K a) F1 ds := by
  refine ⟨fun i H F hi h1 h2 => ?_, fun H F h1 h2 => ⟨vs, sqT_sub (h1.trans h2) h, by rw [r.length]; exact Nat.le_refl _⟩, fun i H F x H' d e h1 h2 y => ?_⟩
  · have hv : i < vs.length := by rw [r.length]; exact hi
    exact ⟨vs, vs[i], sqT_sub (h1.trans h2) h, List.getElem?_eq_getElem hv⟩
  · obtain ⟨e1, e2⟩ := y
    subst e1
    obtain ⟨v, g1, g2⟩ := r.get e
    have g3 := e2 vs (sqT_sub (h1.trans h2) h)
    rw [g1] at g3
    cases g3
    exact ⟨F, .refl h2, g2.mono h1⟩
/-- a frozen list -/
theorem di_list (h : DE X e te f) : DI X tg e (iList X.K te) (fun ρ => (f ρ).bind lstD) := by
  refine ⟨pi_list h.p, fun σ H F ρ ds R r q k => ?_⟩
  obtain ⟨d, e1, e2⟩ := Option.bind_eq_some_iff.mp q
  refine h.q σ H F ρ d _ r e1 fun v H' F' x rv => ?_
  cases d with
  | lst ds' =>
    cases e2
    cases rv with
    | lst g1 g2 => exact ⟨_, rfl, ⟨_, sqL_sub x.s g1⟩, k _ H' F' x (wlk_list g1 g2)⟩
  | _ => cases e2
theorem di_tup (h : DE X e te f) : DI X tg e (iTup X.K te) (fun ρ => (f ρ).bind tupD) := by
  refine ⟨pi_tup h.p, fun σ H F ρ ds R r q k => ?_⟩
  obtain ⟨d, e1, e2⟩ := Option.bind_eq_some_iff.mp q
  refine h.q σ H F ρ d _ r e1 fun v H' F' x rv => ?_
  cases d with
  | tup ds' =>
    cases e2
    cases rv with
    | tup g1 g2 => exact ⟨_, rfl, ⟨_, sqT_sub x.s g1⟩, k _ H' F' x (wlk_tup g1 g2)⟩
  | _ => cases e2
/-- a list or a tuple: two readings of one expression -/
theorem di_seq {iter : Expr} {wi1 wi2 : TI} {f1 f2 : Reg → Option (List D)} (h1 : DI X tg iter wi1 f1) (h2 : DI X tg iter wi2 f2) : DI X tg iter (fun σ H R => wi1 σ H R ∨ wi2 σ H R) (fun ρ => (f1 ρ).or (f2 ρ)) := by
  refine ⟨⟨fun pins s σ H R I h => h.elim (h1.p.run pins s σ H R I) (h2.p.run pins s σ H R I)⟩, fun σ H F ρ ds R r q k => ?_⟩
  cases e : f1 ρ with
  | some d1 =>
    rw [e] at q
    cases q
    exact .inl (h1.q σ H F ρ _ R r e k)
  | none =>
    rw [e] at q
    exact .inr (h2.q σ H F ρ ds R r q k)
/-- a text, sign by sign -/
def strD : D → Option (List D)
  | .str l => some (l.map fun c => .str [c])
  | _ => none
theorem di_str (h : DE X e te f) : DI X tg e (iStr te) (fun ρ => (f ρ).bind strD) := by
  refine ⟨pi_str h.p, fun σ H F ρ ds R r q k => ?_⟩
  obtain ⟨d, e1, e2⟩ := Option.bind_eq_some_iff.mp q
  refine h.q σ H F ρ d _ r e1 fun v H' F' x rv => ?_
  cases d with
  | str l =>
    cases e2
    cases rv with
    | str z =>
      refine ⟨_, rfl, k _ H' F' x ⟨fun i H F hi h1 h2 => ?_, fun H F h1 h2 => ?_, fun i H F x H' d e h1 h2 y => ?_⟩⟩
      · show i < z.cps.size
        simpa using hi
      · show z.cps.size ≤ _
        simp
      · obtain ⟨rfl, c, h3, rfl⟩ := y
        refine ⟨F, .refl h2, ?_⟩
        have e' : (tl z)[i]? = some c := by simpa [tl] using h3
        rw [List.getElem?_map, e'] at e
        cases e
        exact .str ⟨#[c]⟩
  | _ => cases e2
def rng1 (f : Reg → Option (List D)) : Reg → Option (List D) := fun ρ => (f ρ).bind fun
  | [.int j] => if -(2 ^ 62) ≤ j ∧ j < 2 ^ 62 then some ((List.range j.toNat).map fun k => .int (k : Nat)) else none
  | _ => none
def rng2 (f : Reg → Option (List D)) : Reg → Option (List D) := fun ρ => (f ρ).bind fun
  | [.int i, .int j] => if -(2 ^ 62) ≤ i ∧ i < 2 ^ 62 ∧ -(2 ^ 62) ≤ j ∧ j < 2 ^ 62 then some ((List.range (j - i).toNat).map fun k => .int (i + (k : Nat))) else none
  | _ => none
theorem wlk_range {Y : Kn} {F1 : Hp} {lo : Int} {n : Nat} {ds : List D} (h : ds = (List.range n).map fun k => .int (lo + (k : Nat))) : Wlk Y (Itr lo n) F1 ds := by
  subst h
  refine ⟨fun i H F hi h1 h2 => ?_, fun H F h1 h2 => ?_, fun i H F x H' d e h1 h2 y => ?_⟩
  · show i < n
    simpa using hi
  · show n ≤ _
    simp
  · obtain ⟨rfl, rfl⟩ := y
    refine ⟨F, .refl h2, ?_⟩
    rw [List.getElem?_map] at e
    obtain ⟨k, h3, h4⟩ := Option.map_eq_some_iff.mp e
    have h5 : k = i := by
      have := List.getElem?_eq_some_iff.mp h3
      obtain ⟨a, b⟩ := this
      simpa using b.symm
    subst h5
    rw [← h4]
    exact .int _
theorem di_range1 {a : Expr} {ta : TA} {fs : Reg → Option (List D)} {p : Pos} (hm : X.mg "range" = none) (ha : DA X [a] ta fs) (hg : Gl X "range" := by rfl) (hs : starEach [a] X.env = [(false, eval a X.env)] := by rfl) : DI X tg (.Call (.Name "range" p) [a] [] pos) (iRng1 ta) (rng1 fs) := by
  refine ⟨pi_range1 hg hm ha.p hs, fun σ H F ρ ds R r q k => ?_⟩
  obtain ⟨es, e1, e2⟩ := Option.bind_eq_some_iff.mp q
  refine ha.q σ H F ρ es _ r e1 fun vs H' F' x rv => ?_
  split at e2
  · rename_i j
    split at e2
    · rename_i hb
      cases e2
      cases rv with
      | cons a b =>
        cases b
        cases a
        refine ⟨j, rfl, hb.1, hb.2, k _ H' F' x (wlk_range ?_)⟩
        simp
    · cases e2
  · cases e2
theorem di_range2 {a b : Expr} {ta : TA} {fs : Reg → Option (List D)} {p : Pos} (hm : X.mg "range" = none) (ha : DA X [a, b] ta fs) (hg : Gl X "range" := by rfl) (hs : starEach [a, b] X.env = [(false, eval a X.env), (false, eval b X.env)] := by rfl) (hs2 : starEach [b] X.env = [(false, eval b X.env)] := by rfl) :
    DI X tg (.Call (.Name "range" p) [a, b] [] pos) (iRng2 ta) (rng2 fs) := by
  refine ⟨pi_range2 hg hm ha.p hs hs2, fun σ H F ρ ds R r q k => ?_⟩
  obtain ⟨es, e1, e2⟩ := Option.bind_eq_some_iff.mp q
  refine ha.q σ H F ρ es _ r e1 fun vs H' F' x rv => ?_
  split at e2
  · rename_i i j
    split at e2
    · rename_i hb
      cases e2
      cases rv with
      | cons a b =>
        cases b with
        | cons c d =>
          cases d
          cases a
          cases c
          exact ⟨i, j, rfl, hb, k _ H' F' x (wlk_range rfl)⟩
    · cases e2
  · cases e2
/-! ### comprehensions -/
/-- the slots of a block's own names, forgotten -/
def wipeR (ρ : Reg) : List Nat → Reg
  | [] => ρ
  | v :: vs => (wipeR ρ vs).set v .no
theorem R0.wipe {Y : Kn} {H F : Hp} {σ : L2.St} {ρ : Reg} (r : R0 Y H F σ ρ) : ∀ vs : List Nat, R0 Y H F (L2.wipe σ vs) (wipeR ρ vs)
  | [] => r
  | v :: vs => by
    have r' := R0.wipe r vs
    unfold L2.wipe wipeR
    refine ⟨r'.sub, by rw [List.length_set, List.length_set]; exact r'.len, fun j sl e => ?_, fun j k d1 d2 b e1 e2 e3 e4 => ?_⟩
    · by_cases hj : v = j
      · subst hj
        have hi : v < (wipeR ρ vs).length := by have := (List.getElem?_eq_some_iff.mp e).1; rw [List.length_set] at this; exact this
        rw [List.getElem?_set_self hi] at e
        cases e
        exact ⟨none, List.getElem?_set_self (by rw [r'.len]; exact hi), trivial⟩
      · rw [List.getElem?_set_ne hj] at e ⊢
        exact r'.at_ j sl e
    · by_cases hj : v = j
      · subst hj
        have hi : v < (wipeR ρ vs).length := by have := (List.getElem?_eq_some_iff.mp e1).1; rw [List.length_set] at this; exact this
        rw [List.getElem?_set_self hi] at e1; cases e1
      · by_cases hk : v = k
        · subst hk
          have hi : v < (wipeR ρ vs).length := by have := (List.getElem?_eq_some_iff.mp e2).1; rw [List.length_set] at this; exact this
          rw [List.getElem?_set_self hi] at e2; cases e2
        · rw [List.getElem?_set_ne hj] at e1 e3
          rw [List.getElem?_set_ne hk] at e2 e4
          exact r'.sep j k d1 d2 b e1 e2 e3 e4
theorem wipe_in {σ : L2.St} {j : Nat} : ∀ {vs : List Nat}, j ∈ vs → j < σ.length → (L2.wipe σ vs)[j]? = some none
  | v :: vs, h, hl => by
    unfold L2.wipe
    by_cases hj : v = j
    · subst hj
      exact List.getElem?_set_self (by rw [wipe_length]; exact hl)
    · rw [List.getElem?_set_ne hj]
      exact wipe_in ((List.mem_cons.mp h).resolve_left fun z => hj z.symm) hl
theorem wipe_eq {σ σ2 : L2.St} {vs : List Nat} (hl : σ2.length = (L2.wipe σ vs).length) (h : ∀ j, j ∉ vs → σ2[j]? = (L2.wipe σ vs)[j]?) : L2.wipe σ2 vs = L2.wipe σ vs := by
  have hl2 : σ2.length = σ.length := by rw [hl, wipe_length]
  apply List.ext_getElem?
  intro j
  by_cases hj : j ∈ vs
  · by_cases hlt : j < σ.length
    · rw [wipe_in hj (by rw [hl2]; exact hlt), wipe_in hj hlt]
    · rw [List.getElem?_eq_none (by rw [wipe_length, hl2]; omega), List.getElem?_eq_none (by rw [wipe_length]; omega)]
  · rw [wipe_out hj, h j hj]
def lcD (g : D → Reg → Option Reg) (c : Reg → Option Bool) (f : Reg → Option D) (ρ : Reg) : List D → Option (List D)
  | [] => some []
  | d :: ds => (g d ρ).bind fun ρ1 => (c ρ1).bind fun b => if b then (f ρ1).bind fun y => (lcD g c f ρ ds).bind fun ys => some (y :: ys) else lcD g c f ρ ds
def lcV (fs : Reg → Option (List D)) (g : D → Reg → Option Reg) (c : Reg → Option Bool) (f : Reg → Option D) (vs : List Nat) : Reg → Option D := fun ρ => (fs ρ).bind fun ds => if ds.length ≤ sizeLine then (lcD g c f (wipeR ρ vs) ds).bind fun ys => some (.lst ys) else none
structure DTs (X : Cx) (ifs : List Expr) (t : TT) (f : Reg → Option Bool) : Prop where
  p : PTs X ifs t
  q : EvT (kn X) t f
theorem dts_nil : DTs X [] tYes (fun _ => some true) := ⟨pts_nil, fun σ H F ρ b Q r e k => by cases e; exact k H F (.refl r.sub)⟩
theorem dts_one {c : Expr} {tc : TT} {fc : Reg → Option Bool} (h : DT X c tc fc) : DTs X [c] tc fc := ⟨pts_one h.p, h.q⟩
/-- in every context of the block -/
abbrev Blk (X : Cx) (scope : Scope) (φ : Cx → Prop) : Prop := ∀ (s : Shared) (H : Hp) (C : Addr) (cl : List (Str × Addr)) (fp : List Addr), φ (X.blk s H scope (compEnvC scope cl C X.env) fp)
theorem lcD_len {g : D → Reg → Option Reg} {c : Reg → Option Bool} {f : Reg → Option D} {ρ : Reg} : ∀ {ds ys : List D}, lcD g c f ρ ds = some ys → ys.length ≤ ds.length
  | [], _, e => by cases e; exact Nat.le_refl _
  | d :: ds, ys, e => by
    obtain ⟨ρ1, e1, e⟩ := Option.bind_eq_some_iff.mp e
    obtain ⟨b, e2, e⟩ := Option.bind_eq_some_iff.mp e
    cases b with
    | false => exact Nat.le_trans (lcD_len (show lcD g c f ρ ds = some ys from e)) (Nat.le_succ _)
    | true =>
      have e : ((f ρ1).bind fun y => (lcD g c f ρ ds).bind fun ys => some (y :: ys)) = some ys := e
      obtain ⟨y, e3, e⟩ := Option.bind_eq_some_iff.mp e
      obtain ⟨zs, e4, e⟩ := Option.bind_eq_some_iff.mp e
      cases e
      exact Nat.succ_le_succ (lcD_len e4)
/-- the reading of a comprehension, whatever is done with the new list -/
theorem lc_ev {Y : Kn} {wi : TI} {fs : Reg → Option (List D)} {g : TG} {h : D → Reg → Option Reg} {is : List Nat} {tt : TT} {fc : Reg → Option Bool} {te : TE} {f : Reg → Option D} {vs : List Nat}
    (qi : ∀ (σ : L2.St) (H F : Hp) (ρ : Reg) (ds : List D) (R : It → Hp → Prop), R0 Y H F σ ρ → fs ρ = some ds → (∀ J H' F', Ext H F H' F' → Wlk Y J F' ds → R J H') → wi σ H R)
    (qg : ∀ (v : V) (d : D) (σ : L2.St) (H F : Hp) (ρ ρ' : Reg) (Q : L2.St → Hp → Prop), R0 Y H F σ ρ → Rep Y F v d → h d ρ = some ρ' →
      (∀ σ', R0 Y H F σ' ρ' → σ'.length = σ.length → (∀ j, j ∉ is → σ'[j]? = σ[j]? ∧ ρ'[j]? = ρ[j]?) → (∀ j d', ρ'[j]? = some (.ow d') → j ∉ is) → Q σ' H) → g v σ H Q)
    (qt : EvT Y tt fc) (qe : EvE Y te f) (hv : ∀ j, j ∈ is → j ∈ vs) : EvN Y (tLc wi g tt te vs) (lcV fs h fc f vs) := by
  intro σ H F ρ d Q r e k
  obtain ⟨ds, e1, e⟩ := Option.bind_eq_some_iff.mp e
  by_cases hz : ds.length ≤ sizeLine
  case neg => rw [if_neg hz] at e; cases e
  rw [if_pos hz] at e
  obtain ⟨ys, e2, e⟩ := Option.bind_eq_some_iff.mp e
  cases e
  refine qi σ H F ρ ds _ r e1 fun J H1 F1 x1 wk L nL => ?_
  have nLF : F1 L = none := none_of_sub x1.s nL
  have x2 := ext_new (o := .lst []) x1.s nL
  refine ⟨fun i m H2 => m = ds.length - i ∧ i ≤ ds.length ∧ ∃ F2 acc dacc zs, Ext H1 F1 (fun a => if a = L then none else H2 a) F2 ∧ F2 L = none ∧ H2 L = some (.lst acc) ∧ Reps Y F2 acc dacc ∧ acc.length ≤ i ∧
      lcD h fc f (wipeR ρ vs) (ds.drop i) = some zs ∧ dacc ++ zs = ys, ⟨ds.length, by simp, Nat.zero_le _, F1, [], [], ys, ?_, nLF, upd_same, .nil, Nat.zero_le _, e2, rfl⟩, ?_⟩
  · refine ⟨fun a o q => ?_, Sub.refl _, fun a o q => ?_, fun _ _ _ n => n⟩
    · have ne := ne_of_none q nL
      rw [if_neg ne, upd_ne ne]; exact q
    · have ne : a ≠ L := fun z => by rw [z, nLF] at q; cases q
      rw [if_neg ne, upd_ne ne]; exact x1.s a o q
  · rintro i m H2 ⟨rfl, hil, F2, acc, dacc, zs, x3, n3, hL, ra, hal, ez, ey⟩
    have sub2 : Sub F2 H2 := fun a o q => by
      have ne : a ≠ L := fun z => by rw [z, n3] at q; cases q
      have := x3.s a o q
      rw [if_neg ne] at this; exact this
    have full : ∀ {H3 F3 : Hp}, Ext H2 F2 H3 F3 → Ext H1 F1 H3 F3 := fun {H3 F3} x => by
      refine ⟨fun a o q => ?_, x3.f.trans x.f, x.s, fun a o q n => ?_⟩
      · have ne := ne_of_none q nL
        have := x3.h a o q
        rw [if_neg ne] at this
        exact x.h a o this
      · have ne := ne_of_none q nL
        have := x3.h a o q
        rw [if_neg ne] at this
        exact x.n a o this (x3.n a o q n)
    by_cases hlt : i < ds.length
    · refine .inr ⟨wk.go i H2 F2 hlt x3.f sub2, fun H' => i + 1 ≤ ds.length ∧ ∃ F2 acc dacc zs, Ext H1 F1 (fun a => if a = L then none else H' a) F2 ∧ F2 L = none ∧ H' L = some (.lst acc) ∧ Reps Y F2 acc dacc ∧ acc.length ≤ i + 1 ∧
        lcD h fc f (wipeR ρ vs) (ds.drop (i + 1)) = some zs ∧ dacc ++ zs = ys, fun H' w => ⟨ds.length - (i + 1), by omega, rfl, w⟩, fun x H' y => ?_⟩
      obtain ⟨F3, x4, r4⟩ := wk.yld i H2 F2 x H' ds[i] (List.getElem?_eq_getElem hlt) x3.f sub2 y
      rw [List.drop_eq_getElem_cons hlt] at ez
      obtain ⟨ρ1, g1, ez⟩ := Option.bind_eq_some_iff.mp ez
      obtain ⟨b, g2, ez⟩ := Option.bind_eq_some_iff.mp ez
      have rw1 : R0 Y H' F3 (L2.wipe σ vs) (wipeR ρ vs) := (r.ext (x1.trans (full x4))).wipe vs
      refine qg x ds[i] _ H' F3 _ ρ1 _ rw1 r4 g1 fun σ5 r5 l5 k5 _ => ⟨wipe_eq l5 fun j hj => (k5 j fun z => hj (hv j z)).1, ?_⟩
      refine qt σ5 H' F3 ρ1 b _ r5 g2 fun H6 F6 x6 => ?_
      have hL' : H' L = some (.lst acc) := x4.h _ _ hL
      have nL4 : F3 L = none := x4.n _ _ hL n3
      have hL6 : H6 L = some (.lst acc) := x6.h _ _ hL'
      have n6 : F6 L = none := x6.n _ _ hL' nL4
      have fin : ∀ {H7 F7 : Hp}, Ext H2 F2 H7 F7 → F7 L = none → Ext H1 F1 (fun a => if a = L then none else H7 a) F7 := fun {H7 F7} x7 n7 => by
        have xx := full x7
        refine ⟨fun a o q => ?_, xx.f, fun a o q => ?_, xx.n⟩
        · rw [if_neg (ne_of_none q nL)]; exact xx.h a o q
        · have ne : a ≠ L := fun z => by rw [z, n7] at q; cases q
          rw [if_neg ne]; exact xx.s a o q
      have x46 := x4.trans x6
      cases b with
      | false =>
        refine iteF ⟨hlt, F6, acc, dacc, zs, fin x46 n6, n6, hL6, ra.mono x46.f, Nat.le_succ_of_le hal, ez, ey⟩
      | true =>
        have ez : ((f ρ1).bind fun y => (lcD h fc f (wipeR ρ vs) (ds.drop (i + 1))).bind fun ys => some (y :: ys)) = some zs := ez
        obtain ⟨dy, g3, ez⟩ := Option.bind_eq_some_iff.mp ez
        obtain ⟨zs', g4, ez⟩ := Option.bind_eq_some_iff.mp ez
        cases ez
        refine iteT (qe σ5 H6 F6 ρ1 dy _ (r5.ext x6) g3 fun vy H7 F7 x7 r7 => ?_)
        have x47 := x46.trans x7
        have hL7 : H7 L = some (.lst acc) := x7.h _ _ hL6
        have n7 : F7 L = none := x7.n _ _ hL6 n6
        refine ⟨acc, hL7, by omega, hlt, F7, acc ++ [vy], dacc ++ [dy], zs', ?_, n7, upd_same, (ra.mono x47.f).append (.cons r7 .nil), ?_, g4, ?_⟩
        · have e8 : (fun a => if a = L then none else (upd H7 L (.lst (acc ++ [vy]))) a) = fun a => if a = L then none else H7 a := by
            funext a
            by_cases ha : a = L
            · rw [if_pos ha, if_pos ha]
            · rw [if_neg ha, if_neg ha, upd_ne ha]
          rw [e8]
          exact fin x47 n7
        · rw [List.length_append]
          exact Nat.succ_le_succ hal
        · rw [List.append_assoc]; exact ey
    · have ei : i = ds.length := by omega
      subst ei
      refine .inl ⟨wk.stop H2 F2 x3.f sub2, ?_⟩
      rw [List.drop_length] at ez
      cases ez
      rw [List.append_nil] at ey
      subst ey
      have xx := full (Ext.refl sub2)
      have n0 : H L = none := none_of_sub x1.h nL
      exact k L H2 F2 (x1.trans xx) n0 n3 ⟨acc, hL, ra⟩
/-! readings that hang on the data alone: the same in every context of a block -/
def tEc (Y : Kn) (f : Reg → Option D) : TE := fun σ H Q => ∃ F ρ d, R0 Y H F σ ρ ∧ f ρ = some d ∧ ∀ v H' F', Ext H F H' F' → Rep Y F' v d → Q v H'
def tTc (Y : Kn) (f : Reg → Option Bool) : TT := fun σ H Q => ∃ F ρ b, R0 Y H F σ ρ ∧ f ρ = some b ∧ ∀ H' F', Ext H F H' F' → Q b H'
def tGc (Y : Kn) (h : D → Reg → Option Reg) (is : List Nat) : TG := fun v σ H Q => ∃ F ρ ρ' d, R0 Y H F σ ρ ∧ Rep Y F v d ∧ h d ρ = some ρ' ∧
  ∀ σ', R0 Y H F σ' ρ' → σ'.length = σ.length → (∀ j, j ∉ is → σ'[j]? = σ[j]? ∧ ρ'[j]? = ρ[j]?) → (∀ j d', ρ'[j]? = some (Sl.ow d') → j ∉ is) → Q σ' H
theorem DE.can {t : TE} (h : DE X e t f) : PE X e (tEc (kn X) f) := ⟨fun pins s σ H Q I ⟨F, ρ, d, r, q, k⟩ => h.p.run pins s σ H Q I (h.q σ H F ρ d Q r q k)⟩
theorem DTs.can {ifs : List Expr} {t : TT} {fc : Reg → Option Bool} (h : DTs X ifs t fc) : PTs X ifs (tTc (kn X) fc) := ⟨fun pins s σ H Q I ⟨F, ρ, d, r, q, k⟩ => h.p.run pins s σ H Q I (h.q σ H F ρ d Q r q k)⟩
theorem DG.can {g : TG} {h : D → Reg → Option Reg} {is : List Nat} (a : DG X tg g h is) : PG X tg (tGc (kn X) h is) := ⟨fun pins s σ H v u Q I rv ⟨F, ρ, ρ', d, r, r1, q, k⟩ => a.p.run pins s σ H v u Q I rv (a.q v d σ H F ρ ρ' Q r r1 q k)⟩
theorem tEc_ev {Y : Kn} : EvE Y (tEc Y f) f := fun σ H F ρ d Q r e k => ⟨F, ρ, d, r, e, k⟩
theorem tTc_ev {Y : Kn} {fc : Reg → Option Bool} : EvT Y (tTc Y fc) fc := fun σ H F ρ d Q r e k => ⟨F, ρ, d, r, e, k⟩
theorem dn_lc {elt : Expr} {ifs : List Expr} {scope : Scope} (own : List (Str × Nat)) {wi : TI} {fs : Reg → Option (List D)} {h : D → Reg → Option Reg} {is : List Nat} {fc : Reg → Option Bool} {f : Reg → Option D} (hc : X.calm = true) (hN : X.N.Nodup)
    (hi : DI X tg iter wi fs) (hg : ∀ (s : Shared) (H : Hp) (C : Addr) (cl : List (Str × Addr)) (fp : List Addr), ∃ g, DG (X.blk s H scope (compEnvC scope cl C X.env) fp) tg g h is) (ht : ∀ (s : Shared) (H : Hp) (C : Addr) (cl : List (Str × Addr)) (fp : List Addr), ∃ tt, DTs (X.blk s H scope (compEnvC scope cl C X.env) fp) ifs tt fc) (he : ∀ (s : Shared) (H : Hp) (C : Addr) (cl : List (Str × Addr)) (fp : List Addr), ∃ te, DE (X.blk s H scope (compEnvC scope cl C X.env) fp) elt te f)
    (ok : BlkOk X.N X.env.scope scope own) (hv : ∀ j, j ∈ is → j ∈ own.map (·.2) := by simp) (hs : ∀ x, foldedSetIterable iter X.env x = pure x := by intro _; rfl) :
    DN X (.ListComp elt [⟨tg, iter, ifs, 0⟩] scope pos) (tLc wi (tGc (kn X) h is) (tTc (kn X) fc) (tEc (kn X) f) (own.map (·.2))) (lcV fs h fc f (own.map (·.2))) :=
  ⟨pe_lc hc hN hi.p ok (fun s H C cl fp => (hg s H C cl fp).elim fun _ z => z.can) (fun s H C cl fp => (ht s H C cl fp).elim fun _ z => z.can) (fun s H C cl fp => (he s H C cl fp).elim fun _ z => z.can) hs,
    lc_ev hi.q (fun v d σ H F ρ ρ' Q r r1 q k => ⟨F, ρ, ρ', d, r, r1, q, k⟩) tTc_ev tEc_ev hv⟩
/-! ### a def's promise, a call -/
def spD (Y : Kn) (n : Nat) (m : List D → Option D) : Sp := fun vs H Q _ => ∃ (F : Hp) (ds : List D) (d : D), Sub F H ∧ Reps Y F vs ds ∧ ds.length = n ∧ m ds = some d ∧ ∀ v H' F', Ext H F H' F' → Rep Y F' v d → Q v H'
def startR (n : Nat) (ds : List D) : Reg := ds.map Sl.fz ++ List.replicate (n - ds.length) Sl.no
def fin : Out → Option D
  | .rt d => some d
  | .nx _ => some .non
  | _ => none
theorem start_r0 {Y : Kn} {H F : Hp} {N : List Str} {vs : List V} {ds : List D} (s : Sub F H) (r : Reps Y F vs ds) : R0 Y H F (L2.start N vs) (startR N.length ds) := by
  have hl := r.length
  have noow : ∀ (i : Nat) (d : D), (startR N.length ds)[i]? ≠ some (Sl.ow d) := fun i d e => by
    unfold startR at e
    by_cases hi : i < ds.length
    · rw [List.getElem?_append_left (by simpa using hi), List.getElem?_map, List.getElem?_eq_getElem hi] at e
      cases e
    · rw [List.getElem?_append_right (by simpa using hi), List.getElem?_replicate] at e
      split at e <;> cases e
  refine ⟨s, ?_, fun i sl e => ?_, fun i j d e a h => absurd h (noow i d)⟩
  · unfold L2.start startR
    simp [hl]
  · unfold startR at e
    unfold L2.start
    by_cases hi : i < ds.length
    · rw [List.getElem?_append_left (by simpa using hi), List.getElem?_map, List.getElem?_eq_getElem hi] at e
      cases e
      obtain ⟨v, g1, g2⟩ := r.get (List.getElem?_eq_getElem hi)
      refine ⟨some v, ?_, v, rfl, g2⟩
      rw [List.getElem?_append_left (by rw [List.length_map, hl]; exact hi), List.getElem?_map, g1]
      rfl
    · rw [List.getElem?_append_right (by simpa using hi), List.getElem?_replicate] at e
      split at e
      · rename_i hk
        cases e
        refine ⟨none, ?_, trivial⟩
        rw [List.length_map] at hk
        rw [List.getElem?_append_right (by rw [List.length_map, hl]; omega), List.getElem?_replicate, List.length_map, hl, if_pos hk]
      · cases e
theorem fn_data {P : Program} {w : World} {K : PySem.W.Frag} {mg : Str → Option Value} {base : Heap} {x qual : Str} {st : Stmt} {f : Addr} {fd : FuncData} {N ps : List Str} {k : Nat} {B : Reg → Out} {m : List D → Option D} (F : Fun K x qual st f fd) (sc : FnScope N ps (defScope st))
    (hm : ∀ ds d, ds.length = ps.length → m ds = some d → fin (B (startR N.length ds)) = some d)
    (hB : ∀ (cdv : Value) (A : Around) (outer : List PySem.Env) (s : Shared) (H : Hp) (E : XK), Room k (A.deeper (envOfC qual (defScope st) s.heap.objs.size f cdv)) → ∃ t, DSs (cxOf CX0 P w K mg base N qual (defScope st) f cdv A outer s H E).nox (defBody st) t B) :
    FnOk P w K mg base CX0 (k + 1) f fd ps (spD ⟨K, mg⟩ ps.length m) := by
  refine F.ok sc (fun vs H Q E h => ?_) (fun cdv A outer s H vs Q E hr h => ?_)
  · obtain ⟨F0, ds, d, _, r, hl, _⟩ := h
    rw [r.length, hl]
  · obtain ⟨F0, ds, d, s0, r, hl, e, kq⟩ := h
    obtain ⟨t, ht⟩ := hB cdv A outer s H E hr
    have e := hm ds d hl e
    refine ⟨t, ht.p, ht.q _ H F0 (startR N.length ds) H F0 _ ⟨start_r0 s0 r, .refl s0, fun i d a h => ?_⟩ ?_⟩
    · exact absurd h (fun q => by
        have r0 := (start_r0 (N := N) s0 r).at_ i _ q
        unfold startR at q
        by_cases hi : i < ds.length
        · rw [List.getElem?_append_left (by simpa using hi), List.getElem?_map, List.getElem?_eq_getElem hi] at q
          cases q
        · rw [List.getElem?_append_right (by simpa using hi), List.getElem?_replicate] at q
          split at q <;> cases q)
    · cases q : B (startR N.length ds) with
      | rt d' => rw [q] at e; cases e; exact fun v H' F' x r' => kq v H' F' x r'
      | nx ρ => rw [q] at e; cases e; exact fun σ' H' F' s' => kq .non H' F' s'.x .non
      | bk ρ => rw [q] at e; cases e
      | ct ρ => rw [q] at e; cases e
      | bad => rw [q] at e; cases e
/-- nothing is promised -/
theorem fn_nil {P : Program} {w : World} {K : PySem.W.Frag} {mg : Str → Option Value} {base : Heap} {f : Addr} {fd : FuncData} {ps : List Str} {k n : Nat} : FnOk P w K mg base CX0 k f fd ps (spD ⟨K, mg⟩ n fun _ => none) :=
  ⟨fun vs H Q E h => (by obtain ⟨_, _, _, _, _, _, e, _⟩ := h; cases e), fun A outer s H args us vs Q E hr he hb hv h => (by obtain ⟨_, _, _, _, _, _, e, _⟩ := h; cases e)⟩
def callV (m : List D → Option D) (fs : Reg → Option (List D)) : Reg → Option D := fun ρ => (fs ρ).bind m
theorem de_call {k n : Nat} {fa : Addr} {fd : FuncData} {ps : List Str} {m : List D → Option D} {x : Str} {p : Pos} {es : List Expr} {ta : TA} {fs : Reg → Option (List D)} (G : FnOk X.prog X.w X.K X.mg X.base CX0 k fa fd ps (spD (kn X) n m)) (hr : Room k X.A) (hm : X.mg x = some (.ref fa))
    (hk : PySem.W.keepIn X.K (.ref fa) = true) (hb : Binds X.K fd ps []) (ha : DA X (e :: es) ta fs) (hn : (e :: es).length = n := by rfl) (hg : Gl X x := by rfl) (hdb : (x == ("__debug__" : Str)) = false := by decide)
    (he : starEach (e :: es) X.env = (false, eval e X.env) :: starEach es X.env := by rfl) (hpl : (backTo pos (starEach es X.env)).any (·.1) = false := by rfl) : DE X (.Call (.Name x p) (e :: es) [] pos) (tCall (spD (kn X) n m) [] E0 ta) (callV m fs) := by
  refine ⟨pe_call G hr hg hm hk hb .nil pass0 ha.p hdb he hpl, fun σ H F ρ d Q r q kq => ?_⟩
  obtain ⟨ds, e1, e2⟩ := Option.bind_eq_some_iff.mp q
  refine ha.q σ H F ρ ds _ r e1 fun vs H' F' x' r' => ?_
  rw [List.append_nil]
  exact ⟨F', ds, d, x'.s, r', (ha.len ρ ds e1).trans hn, e2, fun v H2 F2 x2 r2 => kq v H2 F2 (x'.trans x2) r2⟩
end
end
end DL

/-! DL, operations on data: numbers, texts, lists, tuples; tests; builtins; methods. -/
namespace DL
open PySem PySem.Spec PyProof.Rows L2
open TL (tl len_tl ext_tl tl_append tl_mk mk_tl map_tl_inj tl_ofString)
section
/-! ### + - * // % ** -/
theorem op_catL {X : Cx} : OpR X (binaryOp .Add) (fun x y H Q => ∃ l b xs zs, x = .ref l ∧ y = .ref b ∧ SqL X.K H l xs ∧ SqL X.K H b zs ∧ xs.length + zs.length ≤ sizeLine ∧ ∀ p, H p = none → Q (.ref p) (upd H p (.lst (xs ++ zs)))) := by
  intro pins s σ H x y v u Q I rx ry h
  obtain ⟨l, b, xs, zs, rfl, rfl, hH, hB, hz, q⟩ := h
  cases rx
  cases ry
  obtain ⟨its, r, ⟨⟨cls, dd, data, sl⟩, n, e, hc, hd, ht⟩, z⟩ := I.list hH
  obtain ⟨its2, r2, ⟨⟨cls2, dd2, data2, sl2⟩, n2, e2, hc2, hd2, ht2⟩, z2⟩ := I.list hB
  have hl := r.length
  have hl2 := r2.length
  simp only at hc hd ht hc2 hd2 ht2
  subst hc hd ht hc2 hd2 ht2
  have hsz : its.toArray.size + its2.toArray.size ≤ sizeLine := by rw [List.size_toArray, List.size_toArray]; omega
  refine concat_meets ⟨_, e, rfl⟩ ⟨_, e2, rfl⟩ noFill_list_add seq_list_add PySem.F.slot_list_add PySem.F.entry_list_add (PySem.F.args_list_add_2 _ _) (list_addW l b its.toArray its2.toArray n n2 none none sl sl2 hsz) ⟨e, e2, ?_⟩
  rw [show its.toArray ++ its2.toArray = (its ++ its2).toArray by simp]
  exact ⟨.ref _, _, I.lnew (t' := s.toks) (r.append r2) (by rw [List.length_append]; omega), rfl, q _ I.fresh⟩
/-! the two-place operations on data -/
def dAdd : D → D → Option D
  | .int a, .int b => some (.int (a + b))
  | .str a, .str b => if a.length + b.length ≤ sizeLine then some (.str (a ++ b)) else none
  | _, _ => none
def dCat : D → D → Option D
  | .lst a, .lst b => if a.length + b.length ≤ sizeLine then some (.lst (a ++ b)) else none
  | _, _ => none
def dCatT : D → D → Option D
  | .tup a, .tup b => if a ≠ [] ∧ a.length + b.length ≤ sizeLine then some (.tup (a ++ b)) else none
  | _, _ => none
def dSub : D → D → Option D
  | .int a, .int b => some (.int (a - b))
  | _, _ => none
def dMul : D → D → Option D
  | .int a, .int b => if (-(2 ^ 64) < a ∧ a < 2 ^ 64) ∨ (-(2 ^ 64) < b ∧ b < 2 ^ 64) then some (.int (a * b)) else none
  | _, _ => none
def dMod : D → D → Option D
  | .int a, .int b => if 0 < b then some (.int (a % b)) else none
  | _, _ => none
def dDiv : D → D → Option D
  | .int a, .int b => if 0 < b ∧ b < 1073741824 then some (.int (a / b)) else none
  | _, _ => none
def dPow : D → D → Option D
  | .int a, .int b => if 0 ≤ b ∧ b ≤ 1000000 ∧ a.natAbs < 2 ^ 64 then some (.int (a ^ b.toNat)) else none
  | _, _ => none
section
variable {Y : Kn}
theorem rd_add : RdE Y (fun x y H Q => (∃ i j, x = .int i ∧ y = .int j ∧ Q (.int (i + j)) H) ∨ (∃ i j, x = .str i ∧ y = .str j ∧ i.length + j.length ≤ sizeLine ∧ Q (.str (i ++ j)) H)) dAdd := by
  intro H F x y da db d Q s rx ry e k
  unfold dAdd at e
  split at e
  · cases e
    exact .inl ⟨_, _, rx.int, ry.int, k _ H F (.refl s) (.int _)⟩
  · split at e
    · rename_i a b hz
      cases e
      obtain ⟨z, rfl, ez⟩ := rx.str
      obtain ⟨z', rfl, ez'⟩ := ry.str
      refine .inr ⟨z, z', rfl, rfl, by rw [len_tl, len_tl, ez, ez']; exact hz, k _ H F (.refl s) ?_⟩
      rw [← ez, ← ez', ← tl_append]
      exact .str _
    · cases e
  · cases e
theorem rd_sub : RdE Y (rI0 fun i j => .int (i - j)) dSub := by
  intro H F x y da db d Q s rx ry e k
  unfold dSub at e
  split at e
  · cases e
    exact ⟨_, _, rx.int, ry.int, k _ H F (.refl s) (.int _)⟩
  · cases e
theorem rd_mul : RdE Y (rI CMul fun i j => .int (i * j)) dMul := by
  intro H F x y da db d Q s rx ry e k
  unfold dMul at e
  split at e
  · split at e
    · rename_i hc
      cases e
      exact ⟨_, _, rx.int, ry.int, hc, k _ H F (.refl s) (.int _)⟩
    · cases e
  · cases e
theorem rd_mod : RdE Y (rI (fun _ j => 0 < j) fun i j => .int (i % j)) dMod := by
  intro H F x y da db d Q s rx ry e k
  unfold dMod at e
  split at e
  · split at e
    · rename_i hc
      cases e
      exact ⟨_, _, rx.int, ry.int, hc, k _ H F (.refl s) (.int _)⟩
    · cases e
  · cases e
theorem rd_div : RdE Y (rI CDiv fun i j => .int (i / j)) dDiv := by
  intro H F x y da db d Q s rx ry e k
  unfold dDiv at e
  split at e
  · split at e
    · rename_i hc
      cases e
      exact ⟨_, _, rx.int, ry.int, hc, k _ H F (.refl s) (.int _)⟩
    · cases e
  · cases e
theorem rd_pow : RdE Y (rI CPow fun i j => .int (i ^ j.toNat)) dPow := by
  intro H F x y da db d Q s rx ry e k
  unfold dPow at e
  split at e
  · split at e
    · rename_i hc
      cases e
      exact ⟨_, _, rx.int, ry.int, hc, k _ H F (.refl s) (.int _)⟩
    · cases e
  · cases e
theorem rd_cat : RdN Y (fun x y H Q => ∃ l b xs zs, x = .ref l ∧ y = .ref b ∧ SqL Y.K H l xs ∧ SqL Y.K H b zs ∧ xs.length + zs.length ≤ sizeLine ∧ ∀ p, H p = none → Q (.ref p) (upd H p (.lst (xs ++ zs)))) dCat := by
  intro H F x y da db d Q s rx ry e k
  unfold dCat at e
  split at e
  · split at e
    · rename_i a b hz
      cases e
      obtain ⟨p, vs, rfl, h1, r1⟩ := rx.lst s
      obtain ⟨p', ws, rfl, h2, r2⟩ := ry.lst s
      refine ⟨p, p', vs, ws, rfl, rfl, h1, h2, by rw [r1.length, r2.length]; exact hz, fun q hq => ?_⟩
      exact k q _ F (ext_new s hq) hq (none_of_sub s hq) ⟨_, upd_same, r1.append r2⟩
    · cases e
  · cases e
theorem rd_catT : RdE Y (rCatT Y.K) dCatT := by
  intro H F x y da db d Q s rx ry e k
  unfold dCatT at e
  split at e
  · split at e
    · rename_i a b hz
      cases e
      obtain ⟨p, vs, rfl, h1, r1⟩ := rx.tup s
      obtain ⟨p', ws, rfl, h2, r2⟩ := ry.tup s
      have hv : vs ≠ [] := fun z => hz.1 (by cases r1 with | nil => rfl | cons _ _ => cases z)
      refine ⟨p, p', vs, ws, rfl, rfl, h1, h2, hv, by rw [r1.length, r2.length]; exact hz.2, fun z => ?_, fun _ q hq => ?_⟩
      · have hb : b = [] := by subst z; cases r2; rfl
        subst hb
        rw [List.append_nil] at k
        rcases rx with rx | ⟨q, _, o⟩
        · exact k _ H F (.refl s) rx
        · exact o.elim
      · have x2 := ext_newF (o := .tup (vs ++ ws)) s hq
        exact k (.ref q) _ _ x2 (.tup (.inl (.inl upd_same)) ((r1.append r2).mono x2.f))
    · cases e
  · cases e
end

section
variable {X : Cx} {a b e : Expr} {f g : Reg → Option D} {ta tb t : TE} {pos : Pos}
def de_add (ha : DB X a ta f) (hb : DB X b tb g) := (de_op (op_add.or op_add_str) rd_add ha hb : DE X (.BinOp a .Add b pos) (tOp _ ta tb) (bin2 f g dAdd))
def dn_cat (ha : DB X a ta f) (hb : DB X b tb g) := (dn_op op_catL rd_cat ha hb : DN X (.BinOp a .Add b pos) (tOp _ ta tb) (bin2 f g dCat))
def de_catT (ha : DB X a ta f) (hb : DB X b tb g) := (de_op op_catT rd_catT ha hb : DE X (.BinOp a .Add b pos) (tOp _ ta tb) (bin2 f g dCatT))
def de_sub (ha : DB X a ta f) (hb : DB X b tb g) := (de_op op_sub rd_sub ha hb : DE X (.BinOp a .Sub b pos) (tOp _ ta tb) (bin2 f g dSub))
def de_mul (ha : DB X a ta f) (hb : DB X b tb g) := (de_op op_mul rd_mul ha hb : DE X (.BinOp a .Mult b pos) (tOp _ ta tb) (bin2 f g dMul))
def de_mod (ha : DB X a ta f) (hb : DB X b tb g) := (de_op op_mod rd_mod ha hb : DE X (.BinOp a .Mod b pos) (tOp _ ta tb) (bin2 f g dMod))
def de_div (ha : DB X a ta f) (hb : DB X b tb g) := (de_op op_fdiv rd_div ha hb : DE X (.BinOp a .FloorDiv b pos) (tOp _ ta tb) (bin2 f g dDiv))
def de_pow (ha : DB X a ta f) (hb : DB X b tb g) := (de_op op_pow rd_pow ha hb : DE X (.BinOp a .Pow b pos) (tOp _ ta tb) (bin2 f g dPow))
def dNeg : D → Option D
  | .int a => some (.int (-a))
  | _ => none
def un1 (f : Reg → Option D) (h : D → Option D) : Reg → Option D := fun ρ => (f ρ).bind h
theorem de_neg (ha : DB X a ta f) : DE X (.UnaryOp .USub a pos) (tUn (rU fun i => .int (-i)) ta) (un1 f dNeg) := by
  refine ⟨pe_un un_neg ha.p, fun σ H F ρ d Q r e k => ?_⟩
  obtain ⟨x, e1, e2⟩ := Option.bind_eq_some_iff.mp e
  refine ha.q σ H F ρ x _ r e1 fun v H' F' x' rv => ?_
  unfold dNeg at e2
  split at e2
  · cases e2
    exact ⟨_, rv.int, k _ H' F' x' (.int _)⟩
  · cases e2
end
/-! ### comparisons -/
section
variable {Y : Kn}
def dLt : D → D → Option Bool
  | .int a, .int b => some (decide (a < b))
  | _, _ => none
def dLe : D → D → Option Bool
  | .int a, .int b => some (decide (a ≤ b))
  | _, _ => none
def dGt : D → D → Option Bool
  | .int a, .int b => some (decide (b < a))
  | _, _ => none
def dGe : D → D → Option Bool
  | .int a, .int b => some (decide (b ≤ a))
  | _, _ => none
/-- == of scalars -/
def dEq : D → D → Option Bool
  | .non, .non => some true
  | .int a, .int b => some (decide (a = b))
  | .str a, .str b => some (decide (a = b))
  | .bl a, .bl b => some (decide (a = b))
  | .non, .int _ => some false | .int _, .non => some false | .non, .str _ => some false | .str _, .non => some false | .int _, .str _ => some false | .str _, .int _ => some false
  | _, _ => none
def dNe (x y : D) : Option Bool := (dEq x y).map not
theorem rd_lt : RdT Y (rI0 fun i j => .bl (decide (i < j))) dLt := by
  intro H F x y da db c Q s rx ry e k
  unfold dLt at e
  split at e
  · cases e; exact ⟨_, _, rx.int, ry.int, k⟩
  · cases e
theorem rd_le : RdT Y (rI0 fun i j => .bl (decide (i ≤ j))) dLe := by
  intro H F x y da db c Q s rx ry e k
  unfold dLe at e
  split at e
  · cases e; exact ⟨_, _, rx.int, ry.int, k⟩
  · cases e
theorem rd_gt : RdT Y (rI0 fun i j => .bl (decide (j < i))) dGt := by
  intro H F x y da db c Q s rx ry e k
  unfold dGt at e
  split at e
  · cases e; exact ⟨_, _, rx.int, ry.int, k⟩
  · cases e
theorem rd_ge : RdT Y (rI0 fun i j => .bl (decide (j ≤ i))) dGe := by
  intro H F x y da db c Q s rx ry e k
  unfold dGe at e
  split at e
  · cases e; exact ⟨_, _, rx.int, ry.int, k⟩
  · cases e
theorem scal_eq {H F : Hp} {x y : V} {da db : D} {c : Bool} (rx : RepT Y H F x da) (ry : RepT Y H F y db) (e : dEq da db = some c) : scal x y = true ∧ decide (x = y) = c := by
  unfold dEq at e
  split at e
  · cases e; rw [rx.non, ry.non]; exact ⟨rfl, by simp⟩
  · cases e; rw [rx.int, ry.int]; exact ⟨rfl, by simp⟩
  · cases e
    obtain ⟨z, rfl, ez⟩ := rx.str
    obtain ⟨z', rfl, ez'⟩ := ry.str
    refine ⟨rfl, ?_⟩
    rw [← ez, ← ez', Bool.eq_iff_iff]
    simp only [decide_eq_true_eq, V.str.injEq]
    exact ⟨fun h => by rw [h], fun h => ext_tl h⟩
  · cases e; rw [rx.bl, ry.bl]; exact ⟨rfl, by simp⟩
  · cases e; rw [rx.non, ry.int]; exact ⟨rfl, by simp⟩
  · cases e; rw [rx.int, ry.non]; exact ⟨rfl, by simp⟩
  · cases e; obtain ⟨z', rfl, ez'⟩ := ry.str; rw [rx.non]; exact ⟨rfl, by simp⟩
  · cases e; obtain ⟨z', rfl, ez'⟩ := rx.str; rw [ry.non]; exact ⟨rfl, by simp⟩
  · cases e; obtain ⟨z', rfl, ez'⟩ := ry.str; rw [rx.int]; exact ⟨rfl, by simp⟩
  · cases e; obtain ⟨z', rfl, ez'⟩ := rx.str; rw [ry.int]; exact ⟨rfl, by simp⟩
  · cases e
theorem rd_eq : RdT Y rEq dEq := by
  intro H F x y da db c Q s rx ry e k
  obtain ⟨h1, h2⟩ := scal_eq rx ry e
  exact ⟨h1, by rw [h2]; exact k⟩
theorem rd_ne : RdT Y rNe dNe := by
  intro H F x y da db c Q s rx ry e k
  obtain ⟨c', e1, e2⟩ := Option.map_eq_some_iff.mp e
  obtain ⟨h1, h2⟩ := scal_eq rx ry e1
  exact ⟨h1, by rw [h2, e2]; exact k⟩
/-- flat items, as == sees them -/
def flatD : D → Bool
  | .non => true | .bl _ => true | .int _ => true | .str _ => true
  | _ => false
def eqvD : D → D → Bool
  | .non, .non => true
  | .bl a, .bl b => a == b
  | .bl a, .int b => (if a then 1 else 0) == b
  | .int a, .bl b => a == (if b then 1 else 0)
  | .int a, .int b => a == b
  | .str a, .str b => a == b
  | _, _ => false
theorem flat_rep {F : Hp} {v : V} {d : D} (r : Rep Y F v d) (h : flatD d = true) : flatV v = true := by
  cases r <;> first | rfl | exact absurd h Bool.false_ne_true
theorem flat_reps {F : Hp} : ∀ {vs : List V} {ds : List D}, Reps Y F vs ds → ds.all flatD = true → vs.all flatV = true
  | _, _, .nil, _ => rfl
  | _, _, .cons h t, e => by
    rw [List.all_cons, Bool.and_eq_true] at e ⊢
    exact ⟨flat_rep h e.1, flat_reps t e.2⟩
theorem eqv_rep {F F' : Hp} {v w : V} {d e : D} (r : Rep Y F v d) (q : Rep Y F' w e) : flatD d = true → flatD e = true → eqV v w = eqvD d e := by
  intro h1 h2
  cases r <;> first | exact absurd h1 Bool.false_ne_true | (cases q <;> first | exact absurd h2 Bool.false_ne_true | rfl | skip)
  rename_i z z'
  show (z == z') = (tl z == tl z')
  rw [Bool.eq_iff_iff]
  simp only [beq_iff_eq]
  exact ⟨fun h => by rw [h], fun h => ext_tl h⟩
def inD (x : D) (ds : List D) : Bool := ds.any fun y => eqvD y x
theorem in_reps {F F' : Hp} {v : V} {d : D} (r : Rep Y F v d) (h : flatD d = true) : ∀ {vs : List V} {ds : List D}, Reps Y F' vs ds → ds.all flatD = true → inV v vs = inD d ds
  | _, _, .nil, _ => rfl
  | _, _, .cons q t, e => by
    rw [List.all_cons, Bool.and_eq_true] at e
    show (eqV _ _ || inV _ _) = (eqvD _ _ || inD _ _)
    rw [eqv_rep q r e.1 h, in_reps r h t e.2]
def dIn (x y : D) : Option Bool := match seqD y with
  | some ds => if flatD x = true ∧ ds.all flatD = true then some (inD x ds) else none
  | none => none
def dNotIn (x y : D) : Option Bool := (dIn x y).map not
theorem in_core {H F : Hp} {x y : V} {da db : D} {c : Bool} (s : Sub F H) (rx : RepT Y H F x da) (ry : RepT Y H F y db) (e : dIn da db = some c) : ∃ p xs, y = .ref p ∧ (SqL Y.K H p xs ∨ SqT Y.K H p xs) ∧ flatV x = true ∧ xs.all flatV = true ∧ inV x xs = c := by
  unfold dIn at e
  split at e
  · rename_i ds hs
    split at e
    · rename_i hf
      cases e
      have rx' : Rep Y F x da := by
        rcases rx with rx | ⟨q, _, o⟩
        · exact rx
        · exact absurd hf.1 (by cases da <;> first | exact o.elim | exact Bool.false_ne_true)
      cases db with
      | lst ds' =>
        cases hs
        obtain ⟨p, vs, rfl, h1, r1⟩ := ry.lst s
        exact ⟨p, vs, rfl, .inl h1, flat_rep rx' hf.1, flat_reps r1 hf.2, in_reps rx' hf.1 r1 hf.2⟩
      | tup ds' =>
        cases hs
        obtain ⟨p, vs, rfl, h1, r1⟩ := ry.tup s
        exact ⟨p, vs, rfl, .inr h1, flat_rep rx' hf.1, flat_reps r1 hf.2, in_reps rx' hf.1 r1 hf.2⟩
      | _ => cases hs
    · cases e
  · cases e
theorem rd_in : RdT Y (rIn Y.K false) dIn := by
  intro H F x y da db c Q s rx ry e k
  obtain ⟨p, xs, h1, h2, h3, h4, h5⟩ := in_core s rx ry e
  exact ⟨p, xs, h1, h2, h3, h4, by rw [h5]; exact k⟩
theorem rd_notIn : RdT Y (rIn Y.K true) dNotIn := by
  intro H F x y da db c Q s rx ry e k
  obtain ⟨c', e1, e2⟩ := Option.map_eq_some_iff.mp e
  obtain ⟨p, xs, h1, h2, h3, h4, h5⟩ := in_core s rx ry e1
  exact ⟨p, xs, h1, h2, h3, h4, by rw [h5, e2]; exact k⟩
/-- a sign in a text -/
def dInS : D → D → Option Bool
  | .str [c], .str z => some (decide (c ∈ z))
  | _, _ => none
def dNotInS (x y : D) : Option Bool := (dInS x y).map not
theorem ins_core {H F : Hp} {x y : V} {da db : D} {c : Bool} (rx : RepT Y H F x da) (ry : RepT Y H F y db) (e : dInS da db = some c) : ∃ (k : Nat) (z : Str), x = .str ⟨#[k]⟩ ∧ y = .str z ∧ decide (k ∈ z.cps.toList) = c := by
  unfold dInS at e
  split at e
  · rename_i k z
    cases e
    obtain ⟨w, rfl, ew⟩ := rx.str
    obtain ⟨z', rfl, ez'⟩ := ry.str
    subst ez'
    refine ⟨k, z', ?_, rfl, rfl⟩
    congr 1
    exact ext_tl ew
  · cases e
theorem rd_inS : RdT Y (fun x y H Q => ∃ (c : Nat) (z : Str), x = .str ⟨#[c]⟩ ∧ y = .str z ∧ Q (.bl (decide (c ∈ z.cps.toList))) H) dInS := by
  intro H F x y da db c Q s rx ry e k
  obtain ⟨n, z, h1, h2, h3⟩ := ins_core rx ry e
  exact ⟨n, z, h1, h2, by rw [h3]; exact k⟩
theorem rd_notInS : RdT Y (fun x y H Q => ∃ (c : Nat) (z : Str), x = .str ⟨#[c]⟩ ∧ y = .str z ∧ Q (.bl (!decide (c ∈ z.cps.toList))) H) dNotInS := by
  intro H F x y da db c Q s rx ry e k
  obtain ⟨c', e1, e2⟩ := Option.map_eq_some_iff.mp e
  obtain ⟨n, z, h1, h2, h3⟩ := ins_core rx ry e1
  exact ⟨n, z, h1, h2, by rw [h3, e2]; exact k⟩
def dIsN : D → D → Option Bool
  | .non, .non => some true
  | _, .non => some false
  | _, _ => none
def dNotN (x y : D) : Option Bool := (dIsN x y).map not
theorem isn_core {H F : Hp} {x y : V} {da db : D} {c : Bool} (rx : RepT Y H F x da) (ry : RepT Y H F y db) (e : dIsN da db = some c) : y = .non ∧ decide (x = V.non) = c := by
  have h := rx.isNon
  unfold dIsN at e
  split at e
  · cases e; exact ⟨ry.non, h⟩
  · rename_i hne
    cases e
    refine ⟨ry.non, h.trans ?_⟩
    cases da <;> first | rfl | exact (hne rfl).elim | exact (hne rfl rfl).elim
  · cases e
theorem rd_isN : RdT Y (fun x y H Q => y = .non ∧ Q (.bl (decide (x = .non))) H) dIsN := by
  intro H F x y da db c Q s rx ry e k
  obtain ⟨h1, h2⟩ := isn_core rx ry e
  exact ⟨h1, by rw [h2]; exact k⟩
theorem rd_notN : RdT Y (fun x y H Q => y = .non ∧ Q (.bl (!decide (x = .non))) H) dNotN := by
  intro H F x y da db c Q s rx ry e k
  obtain ⟨c', e1, e2⟩ := Option.map_eq_some_iff.mp e
  obtain ⟨h1, h2⟩ := isn_core rx ry e1
  exact ⟨h1, by rw [h2, e2]; exact k⟩
end
section
variable {X : Cx} {a b c e : Expr} {f g h : Reg → Option D} {ta tb tc t : TE} {pos : Pos} {tA tB' : TT} {p q : Reg → Option Bool} {rest : List Expr}
/-! ### tests -/
def dTru : D → Option Bool
  | .non => some false
  | .bl b => some b
  | .int i => some (i != 0)
  | .str l => if l.length ≤ sizeLine then some (!l.isEmpty) else none
  | .lst ds => some (!ds.isEmpty)
  | .tup ds => some (!ds.isEmpty)
  | .dic kvs => some (!kvs.isEmpty)
  | .obj _ _ => none
theorem tru_of {Y : Kn} {H F : Hp} {v : V} {d : D} {k : Bool} (s : Sub F H) (r : RepT Y H F v d) (e : dTru d = some k) : TruV Y.K v H k := by
  cases d with
  | non => cases e; rw [r.non]; exact rfl
  | bl b => cases e; rw [r.bl]; exact rfl
  | int i => cases e; rw [r.int]; exact rfl
  | str l =>
    obtain ⟨z, rfl, ez⟩ := r.str
    unfold dTru at e
    dsimp only at e
    split at e
    · rename_i hz
      cases e
      refine ⟨by rw [len_tl, ez]; exact hz, ?_⟩
      rw [len_tl, ez]
      cases l with
      | nil => rfl
      | cons x xs => simp; omega
    · cases e
  | lst ds =>
    cases e
    obtain ⟨p, vs, rfl, h1, r1⟩ := r.lst s
    refine .inl ⟨vs, h1, ?_⟩
    cases r1 <;> rfl
  | tup ds =>
    cases e
    obtain ⟨p, vs, rfl, h1, r1⟩ := r.tup s
    refine .inr (.inl ⟨vs, h1, ?_⟩)
    cases r1 <;> rfl
  | dic kvs =>
    cases e
    rcases r with r | ⟨p, rfl, kvs', h1, r1⟩
    · cases r with
      | dic h1 r1 => refine .inr (.inr ⟨_, s _ _ h1, ?_⟩); cases r1 <;> rfl
    · refine .inr (.inr ⟨_, h1, ?_⟩); cases r1 <;> rfl
  | obj _ _ => cases e
def truT (f : Reg → Option D) : Reg → Option Bool := fun ρ => (f ρ).bind dTru
theorem dt_tru (ha : DB X a ta f) (he : ∀ whole, isTrue a X.env whole = (do let v ← whole; standAt a.pos; holding [v] (truthy v)) := by intro _; rfl) : DT X a (fun σ H Q => ta σ H fun x H' => ∃ k, TruV X.K x H' k ∧ Q k H') (truT f) := by
  refine ⟨pt_truth ha.p he, fun σ H F ρ b Q r e k => ?_⟩
  obtain ⟨d, e1, e2⟩ := Option.bind_eq_some_iff.mp e
  exact ha.q σ H F ρ d _ r e1 fun v H' F' x rv => ⟨b, tru_of x.s rv e2, k H' F' x⟩
def notT (p : Reg → Option Bool) : Reg → Option Bool := fun ρ => (p ρ).map not
def andT (p q : Reg → Option Bool) : Reg → Option Bool := fun ρ => (p ρ).bind fun c => if c then q ρ else some false
def orT (p q : Reg → Option Bool) : Reg → Option Bool := fun ρ => (p ρ).bind fun c => if c then some true else q ρ
theorem dt_not (ha : DT X a tA p) : DT X (.UnaryOp .Not a pos) (tNot tA) (notT p) := by
  refine ⟨pt_not ha.p, fun σ H F ρ b Q r e k => ?_⟩
  obtain ⟨c, e1, e2⟩ := Option.map_eq_some_iff.mp e
  exact ha.q σ H F ρ c _ r e1 fun H' F' x => by rw [e2]; exact k H' F' x
/-- a chain of and, or: any 'whole' -/
structure DW (X : Cx) (e : Expr) (t : TT) (f : Reg → Option Bool) : Prop where
  p : PW X e t
  q : EvT (kn X) t f
theorem DW.toT (h : DW X e tA p) : DT X e tA p := ⟨h.p.pt, h.q⟩
theorem dw_and1 (ha : DT X a tA p) : DW X (.BoolOp .And [a] pos) tA p := ⟨pw_and1 ha.p, ha.q⟩
theorem dw_or1 (ha : DT X a tA p) : DW X (.BoolOp .Or [a] pos) tA p := ⟨pw_or1 ha.p, ha.q⟩
theorem dw_and (ha : DT X a tA p) (hb : DW X (.BoolOp .And (b :: rest) pos) tB' q) : DW X (.BoolOp .And (a :: b :: rest) pos) (tAnd tA tB') (andT p q) := by
  refine ⟨pw_and ha.p hb.p, fun σ H F ρ c Q r e k => ?_⟩
  obtain ⟨c1, e1, e2⟩ := Option.bind_eq_some_iff.mp e
  refine ha.q σ H F ρ c1 _ r e1 fun H' F' x => ?_
  cases c1 with
  | true => exact iteT (hb.q σ H' F' ρ c _ (r.ext x) e2 fun H2 F2 x2 => k H2 F2 (x.trans x2))
  | false => cases e2; exact iteF (k H' F' x)
theorem dw_or (ha : DT X a tA p) (hb : DW X (.BoolOp .Or (b :: rest) pos) tB' q) : DW X (.BoolOp .Or (a :: b :: rest) pos) (tOr tA tB') (orT p q) := by
  refine ⟨pw_or ha.p hb.p, fun σ H F ρ c Q r e k => ?_⟩
  obtain ⟨c1, e1, e2⟩ := Option.bind_eq_some_iff.mp e
  refine ha.q σ H F ρ c1 _ r e1 fun H' F' x => ?_
  cases c1 with
  | true => cases e2; exact iteT (k H' F' x)
  | false => exact iteF (hb.q σ H' F' ρ c _ (r.ext x) e2 fun H2 F2 x2 => k H2 F2 (x.trans x2))
/-- a if t else b -/
def ifV (p : Reg → Option Bool) (f g : Reg → Option D) : Reg → Option D := fun ρ => (p ρ).bind fun c => if c then f ρ else g ρ
theorem de_if (hc : DT X c tA p) (ha : DE X a ta f) (hb : DE X b tb g) : DE X (.IfExp c a b pos) (tIf tA ta tb) (ifV p f g) := by
  refine ⟨pe_ifExp hc.p ha.p hb.p, fun σ H F ρ d Q r e k => ?_⟩
  obtain ⟨c1, e1, e2⟩ := Option.bind_eq_some_iff.mp e
  refine hc.q σ H F ρ c1 _ r e1 fun H' F' x => ?_
  cases c1 with
  | true => exact iteT (ha.q σ H' F' ρ d _ (r.ext x) e2 fun v H2 F2 x2 r2 => k v H2 F2 (x.trans x2) r2)
  | false => exact iteF (hb.q σ H' F' ρ d _ (r.ext x) e2 fun v H2 F2 x2 r2 => k v H2 F2 (x.trans x2) r2)
/-- x and y, x or y as values -/
def andV (f g : Reg → Option D) : Reg → Option D := fun ρ => (f ρ).bind fun d => (dTru d).bind fun c => if c then g ρ else some d
def orV (f g : Reg → Option D) : Reg → Option D := fun ρ => (f ρ).bind fun d => (dTru d).bind fun c => if c then some d else g ρ
theorem de_one {op : BoolOp} (h : DE X a t f) : DE X (.BoolOp op [a] pos) t f := ⟨pe_one h.p, h.q⟩
theorem de_and (ha : DE X a ta f) (hb : DE X (.BoolOp .And (b :: rest) pos) tb g) : DE X (.BoolOp .And (a :: b :: rest) pos) (tAndT X.K ta tb) (andV f g) := by
  refine ⟨pe_andT ha.p hb.p, fun σ H F ρ d Q r e k => ?_⟩
  obtain ⟨d1, e1, e⟩ := Option.bind_eq_some_iff.mp e
  obtain ⟨c1, e2, e3⟩ := Option.bind_eq_some_iff.mp e
  refine ha.q σ H F ρ d1 _ r e1 fun v H' F' x rv => ⟨c1, tru_of x.s (.inl rv) e2, ?_⟩
  cases c1 with
  | true => exact iteT (hb.q σ H' F' ρ d _ (r.ext x) e3 fun v H2 F2 x2 r2 => k v H2 F2 (x.trans x2) r2)
  | false => cases e3; exact iteF (k v H' F' x rv)
theorem de_or (ha : DE X a ta f) (hb : DE X (.BoolOp .Or (b :: rest) pos) tb g) : DE X (.BoolOp .Or (a :: b :: rest) pos) (tOrT X.K ta tb) (orV f g) := by
  refine ⟨pe_orT ha.p hb.p, fun σ H F ρ d Q r e k => ?_⟩
  obtain ⟨d1, e1, e⟩ := Option.bind_eq_some_iff.mp e
  obtain ⟨c1, e2, e3⟩ := Option.bind_eq_some_iff.mp e
  refine ha.q σ H F ρ d1 _ r e1 fun v H' F' x rv => ⟨c1, tru_of x.s (.inl rv) e2, ?_⟩
  cases c1 with
  | false => exact iteF (hb.q σ H' F' ρ d _ (r.ext x) e3 fun v H2 F2 x2 r2 => k v H2 F2 (x.trans x2) r2)
  | true => cases e3; exact iteT (k v H' F' x rv)
theorem de_not (ha : DB X a ta f) : DE X (.UnaryOp .Not a pos) (tNotT X.K ta) (bV (notT (truT f))) := by
  refine ⟨pe_notT ha.p, fun σ H F ρ d Q r e k => ?_⟩
  obtain ⟨c, e0, e'⟩ := Option.bind_eq_some_iff.mp e
  cases e'
  obtain ⟨c1, e1, e2⟩ := Option.map_eq_some_iff.mp e0
  obtain ⟨d, e3, e4⟩ := Option.bind_eq_some_iff.mp e1
  refine ha.q σ H F ρ d _ r e3 fun v H' F' x rv => ⟨c1, tru_of x.s rv e4, ?_⟩
  rw [e2]
  exact k _ H' F' x (.bl _)
/-! the comparisons by their names -/
def dt_lt (ha : DB X a ta f) (hb : DB X b tb g) := (dt_cmp op_lt rd_lt (nomark _) ha hb : DT X (.Compare a [.Lt] [b] pos) (tTest (tOp _ ta tb)) (cmp2 f g dLt))
def dt_le (ha : DB X a ta f) (hb : DB X b tb g) := (dt_cmp op_le rd_le (nomark _) ha hb : DT X (.Compare a [.LtE] [b] pos) (tTest (tOp _ ta tb)) (cmp2 f g dLe))
def dt_gt (ha : DB X a ta f) (hb : DB X b tb g) := (dt_cmp op_gt rd_gt (nomark _) ha hb : DT X (.Compare a [.Gt] [b] pos) (tTest (tOp _ ta tb)) (cmp2 f g dGt))
def dt_ge (ha : DB X a ta f) (hb : DB X b tb g) := (dt_cmp op_ge rd_ge (nomark _) ha hb : DT X (.Compare a [.GtE] [b] pos) (tTest (tOp _ ta tb)) (cmp2 f g dGe))
def dt_eq (ha : DB X a ta f) (hb : DB X b tb g) := (dt_cmp op_eq rd_eq (nomark _) ha hb : DT X (.Compare a [.Eq] [b] pos) (tTest (tOp _ ta tb)) (cmp2 f g dEq))
def dt_ne (ha : DB X a ta f) (hb : DB X b tb g) := (dt_cmp op_ne rd_ne (nomark _) ha hb : DT X (.Compare a [.NotEq] [b] pos) (tTest (tOp _ ta tb)) (cmp2 f g dNe))
def dt_in (ha : DB X a ta f) (hb : DB X b tb g) (hm : behindInMarks .In b = false := by rfl) := (dt_cmp op_in_seq rd_in hm ha hb : DT X (.Compare a [.In] [b] pos) (tTest (tOp _ ta tb)) (cmp2 f g dIn))
def dt_notIn (ha : DB X a ta f) (hb : DB X b tb g) (hm : behindInMarks .NotIn b = false := by rfl) := (dt_cmp op_notIn_seq rd_notIn hm ha hb : DT X (.Compare a [.NotIn] [b] pos) (tTest (tOp _ ta tb)) (cmp2 f g dNotIn))
def dt_inS (ha : DB X a ta f) (hb : DB X b tb g) (hm : behindInMarks .In b = false := by rfl) := (dt_cmp op_in_sign rd_inS hm ha hb : DT X (.Compare a [.In] [b] pos) (tTest (tOp _ ta tb)) (cmp2 f g dInS))
def dt_notInS (ha : DB X a ta f) (hb : DB X b tb g) (hm : behindInMarks .NotIn b = false := by rfl) := (dt_cmp op_notIn_sign rd_notInS hm ha hb : DT X (.Compare a [.NotIn] [b] pos) (tTest (tOp _ ta tb)) (cmp2 f g dNotInS))
def dt_isN (ha : DB X a ta f) (hb : DB X b tb g) := (dt_cmp op_isN rd_isN (nomark _) ha hb : DT X (.Compare a [.Is] [b] pos) (tTest (tOp _ ta tb)) (cmp2 f g dIsN))
def dt_notN (ha : DB X a ta f) (hb : DB X b tb g) := (dt_cmp op_notN rd_notN (nomark _) ha hb : DT X (.Compare a [.IsNot] [b] pos) (tTest (tOp _ ta tb)) (cmp2 f g dNotN))
def de_lt (ha : DB X a ta f) (hb : DB X b tb g) := (de_cmp op_lt rd_lt (nomark _) ha hb : DE X (.Compare a [.Lt] [b] pos) (tOp _ ta tb) (bV (cmp2 f g dLt)))
def de_le (ha : DB X a ta f) (hb : DB X b tb g) := (de_cmp op_le rd_le (nomark _) ha hb : DE X (.Compare a [.LtE] [b] pos) (tOp _ ta tb) (bV (cmp2 f g dLe)))
def de_gt (ha : DB X a ta f) (hb : DB X b tb g) := (de_cmp op_gt rd_gt (nomark _) ha hb : DE X (.Compare a [.Gt] [b] pos) (tOp _ ta tb) (bV (cmp2 f g dGt)))
def de_ge (ha : DB X a ta f) (hb : DB X b tb g) := (de_cmp op_ge rd_ge (nomark _) ha hb : DE X (.Compare a [.GtE] [b] pos) (tOp _ ta tb) (bV (cmp2 f g dGe)))
def de_eq (ha : DB X a ta f) (hb : DB X b tb g) := (de_cmp op_eq rd_eq (nomark _) ha hb : DE X (.Compare a [.Eq] [b] pos) (tOp _ ta tb) (bV (cmp2 f g dEq)))
def de_ne (ha : DB X a ta f) (hb : DB X b tb g) := (de_cmp op_ne rd_ne (nomark _) ha hb : DE X (.Compare a [.NotEq] [b] pos) (tOp _ ta tb) (bV (cmp2 f g dNe)))
def de_in (ha : DB X a ta f) (hb : DB X b tb g) (hm : behindInMarks .In b = false := by rfl) := (de_cmp op_in_seq rd_in hm ha hb : DE X (.Compare a [.In] [b] pos) (tOp _ ta tb) (bV (cmp2 f g dIn)))
def de_notIn (ha : DB X a ta f) (hb : DB X b tb g) (hm : behindInMarks .NotIn b = false := by rfl) := (de_cmp op_notIn_seq rd_notIn hm ha hb : DE X (.Compare a [.NotIn] [b] pos) (tOp _ ta tb) (bV (cmp2 f g dNotIn)))
def de_inS (ha : DB X a ta f) (hb : DB X b tb g) (hm : behindInMarks .In b = false := by rfl) := (de_cmp op_in_sign rd_inS hm ha hb : DE X (.Compare a [.In] [b] pos) (tOp _ ta tb) (bV (cmp2 f g dInS)))
def de_isN (ha : DB X a ta f) (hb : DB X b tb g) := (de_cmp op_isN rd_isN (nomark _) ha hb : DE X (.Compare a [.Is] [b] pos) (tOp _ ta tb) (bV (cmp2 f g dIsN)))
def de_notN (ha : DB X a ta f) (hb : DB X b tb g) := (de_cmp op_notN rd_notN (nomark _) ha hb : DE X (.Compare a [.IsNot] [b] pos) (tOp _ ta tb) (bV (cmp2 f g dNotN)))
/-! ### items, slices -/
def dIxL : D → D → Option D
  | .lst ds, .int i => atI ds i
  | .tup ds, .int i => atI ds i
  | .str l, .int i => if l.length ≤ sizeLine then (atI l i).map fun c => .str [c] else none
  | _, _ => none
theorem atI_reps {Y : Kn} {F : Hp} {vs : List V} {ds : List D} {i : Int} {d : D} (r : Reps Y F vs ds) (h : atI ds i = some d) : ∃ v, atI vs i = some v ∧ Rep Y F v d := by
  unfold atI at h ⊢
  rw [r.length]
  obtain ⟨j, h1, h2⟩ := Option.bind_eq_some_iff.mp h
  obtain ⟨v, g1, g2⟩ := r.get h2
  exact ⟨v, by rw [h1]; exact g1, g2⟩
theorem rd_ix {Y : Kn} : RdE Y (rIx Y.K) dIxL := by
  intro H F x y da db d Q s rx ry e k
  unfold dIxL at e
  split at e
  · obtain ⟨p, vs, rfl, h1, r1⟩ := rx.lst s
    obtain ⟨v, g1, g2⟩ := atI_reps r1 e
    exact .inl ⟨p, vs, _, v, rfl, ry.int, h1, g1, k v H F (.refl s) g2⟩
  · obtain ⟨p, vs, rfl, h1, r1⟩ := rx.tup s
    obtain ⟨v, g1, g2⟩ := atI_reps r1 e
    exact .inr (.inl ⟨p, vs, _, v, rfl, ry.int, h1, g1, k v H F (.refl s) g2⟩)
  · split at e
    · rename_i hz
      obtain ⟨z, rfl, ez⟩ := rx.str
      subst ez
      obtain ⟨c, h1, h2⟩ := Option.map_eq_some_iff.mp e
      refine .inr (.inr ⟨z, _, c, rfl, ry.int, by rw [len_tl]; exact hz, h1, k _ H F (.refl s) ?_⟩)
      rw [← h2]
      exact .str ⟨#[c]⟩
    · cases e
  · cases e
theorem de_ix (ha : DB X a ta f) (hb : DB X b tb g) (hs : PlainIx b := by exact fun _ _ => rfl) : DE X (.Subscript a b pos) (tOp (rIx X.K) ta tb) (bin2 f g dIxL) := by
  refine ⟨pe_ix ix_seq ha.p hb.p hs, fun σ H F ρ d Q r0 e k => ?_⟩
  obtain ⟨x, y, e1, e2, e3⟩ := bin2_some e
  exact two (r := rIx X.K) ha.q hb.q r0 e1 e2 fun v w H' F' x' r1 r2 => rd_ix H' F' v w x y d Q x'.s r1 r2 e3 fun u H2 F2 x2 r3 => k u H2 F2 (x'.trans x2) r3
/-- a slice's part -/
structure DO (X : Cx) (e : Option Expr) (t : TO) (f : Reg → Option (Option Int)) : Prop where
  p : PO X e t
  q : ∀ (σ : L2.St) (H F : Hp) (ρ : Reg) (d : Option Int) (Q : Option Int → Hp → Prop), R0 (kn X) H F σ ρ → f ρ = some d → (∀ H' F', Ext H F H' F' → Q d H') → t σ H Q
def parV (f : Reg → Option D) : Reg → Option (Option Int) := fun ρ => (f ρ).bind fun
  | .int i => some (some i)
  | _ => none
theorem do_none : DO X none tNoPart (fun _ => some none) := ⟨po_none, fun σ H F ρ d Q r e k => by cases e; exact k H F (.refl r.sub)⟩
theorem do_some (h : DB X e t f) : DO X (some e) (tPart t) (parV f) := by
  refine ⟨po_some h.p, fun σ H F ρ d Q r e k => ?_⟩
  obtain ⟨d1, e1, e2⟩ := Option.bind_eq_some_iff.mp e
  split at e2
  · cases e2
    exact h.q σ H F ρ _ _ r e1 fun v H' F' x rv => ⟨_, rv.int, k H' F' x⟩
  · cases e2
/-- the place of a slice's end -/
def cutG {α : Type} (xs : List α) (lo hi : Option Int) : List α := (xs.drop (HT.sIx xs.length 0 lo)).take (HT.sIx xs.length xs.length hi - HT.sIx xs.length 0 lo)
def slV (f : Reg → Option D) (lo hi : Reg → Option (Option Int)) (h : D → Option Int → Option Int → Option D) : Reg → Option D := fun ρ => (f ρ).bind fun d => (lo ρ).bind fun l => (hi ρ).bind fun u => h d l u
def dSlL : D → Option Int → Option Int → Option D
  | .lst ds, l, u => some (.lst (cutG ds l u))
  | _, _, _ => none
def dSlS : D → Option Int → Option Int → Option D
  | .str z, l, u => if z.length ≤ sizeLine then some (.str (cutG z l u)) else none
  | _, _, _ => none
def dSlT : D → Option Int → Option Int → Option D
  | .tup ds, l, u => if ¬ (HT.sIx ds.length 0 l = 0 ∧ HT.sIx ds.length ds.length u = ds.length) then some (.tup (cutG ds l u)) else none
  | _, _, _ => none
theorem sl_run {r : V → Option Int → Option Int → Hp → VK → Prop} {tl th : TO} {lo hi : Option Expr} {fl fh : Reg → Option (Option Int)} {hh : D → Option Int → Option Int → Option D} (ha : DB X a ta f) (hl : DO X lo tl fl) (hu : DO X hi th fh) {σ : L2.St} {H F : Hp} {ρ : Reg} {d : D} {Q : VK}
    (r0 : R0 (kn X) H F σ ρ) (e : slV f fl fh hh ρ = some d) (k : ∀ v H' F' x l u, Ext H F H' F' → RepT (kn X) H' F' v x → hh x l u = some d → r v l u H' Q) : tSl r ta tl th σ H Q := by
  obtain ⟨x, e1, e⟩ := Option.bind_eq_some_iff.mp e
  obtain ⟨l, e2, e⟩ := Option.bind_eq_some_iff.mp e
  obtain ⟨u, e3, e⟩ := Option.bind_eq_some_iff.mp e
  refine ha.q σ H F ρ x _ r0 e1 fun v H1 F1 x1 r1 => hl.q σ H1 F1 ρ l _ (r0.ext x1) e2 fun H2 F2 x2 => hu.q σ H2 F2 ρ u _ (r0.ext (x1.trans x2)) e3 fun H3 F3 x3 => ?_
  exact k v H3 F3 x l u (x1.trans (x2.trans x3)) (r1.ext (x2.trans x3)) e
theorem cutG_reps {Y : Kn} {F : Hp} {vs : List V} {ds : List D} (r : Reps Y F vs ds) (l u : Option Int) : Reps Y F (cutV vs l u) (cutG ds l u) := by
  unfold cutV cutG
  rw [r.length]
  exact (r.drop _).take _
theorem dn_sl {lo hi : Option Expr} {tl th : TO} {fl fh : Reg → Option (Option Int)} {p2 : Pos} (ha : DB X a ta f) (hl : DO X lo tl fl) (hu : DO X hi th fh) : DN X (.Subscript a (.Slice lo hi none p2) pos) (tSl (rSlL X.K) ta tl th) (slV f fl fh dSlL) := by
  refine ⟨pe_slice sl_list ha.p hl.p hu.p, fun σ H F ρ d Q r e k => sl_run ha hl hu r e fun v H' F' x l u x' rv e' => ?_⟩
  unfold dSlL at e'
  split at e'
  · cases e'
    obtain ⟨p, vs, rfl, h1, r1⟩ := rv.lst x'.s
    refine ⟨p, vs, rfl, h1, fun q hq => ?_⟩
    exact k q _ F' (x'.trans (ext_new x'.s hq)) (none_of_sub x'.h hq) (none_of_sub x'.s hq) ⟨_, upd_same, cutG_reps r1 l u⟩
  · cases e'
theorem de_slS {lo hi : Option Expr} {tl' th : TO} {fl fh : Reg → Option (Option Int)} {p2 : Pos} (ha : DB X a ta f) (hl : DO X lo tl' fl) (hu : DO X hi th fh) : DE X (.Subscript a (.Slice lo hi none p2) pos) (tSl rSlS ta tl' th) (slV f fl fh dSlS) := by
  refine ⟨pe_slice sl_str ha.p hl.p hu.p, fun σ H F ρ d Q r e k => sl_run ha hl hu r e fun v H' F' x l u x' rv e' => ?_⟩
  unfold dSlS at e'
  split at e'
  · split at e'
    · rename_i hz
      cases e'
      obtain ⟨z, rfl, ez⟩ := rv.str
      subst ez
      refine ⟨z, rfl, by rw [len_tl]; exact hz, k _ H' F' x' ?_⟩
      have h := Rep.str (Y := kn X) (F := F') (cutS z l u)
      have e2 : tl (cutS z l u) = cutG (tl z) l u := by
        unfold cutS cutG
        rw [tl_mk, len_tl]
      rw [e2] at h
      exact h
    · cases e'
  · cases e'
theorem de_slT {lo hi : Option Expr} {tl th : TO} {fl fh : Reg → Option (Option Int)} {p2 : Pos} (ha : DB X a ta f) (hl : DO X lo tl fl) (hu : DO X hi th fh) : DE X (.Subscript a (.Slice lo hi none p2) pos) (tSl (rSlT X.K) ta tl th) (slV f fl fh dSlT) := by
  refine ⟨pe_slice sl_tup ha.p hl.p hu.p, fun σ H F ρ d Q r e k => sl_run ha hl hu r e fun v H' F' x l u x' rv e' => ?_⟩
  unfold dSlT at e'
  split at e'
  · split at e'
    · rename_i hz
      cases e'
      obtain ⟨p, vs, rfl, h1, r1⟩ := rv.tup x'.s
      refine ⟨p, vs, rfl, h1, by rw [r1.length]; exact hz, fun q hq => ?_⟩
      have x2 := ext_newF (o := .tup (cutV vs l u)) x'.s hq
      exact k (.ref q) _ _ (x'.trans x2) (.tup (.inl (.inl upd_same)) ((cutG_reps r1 l u).mono x2.f))
    · cases e'
  · cases e'
/-! ### builtins by their names: one borrowed argument -/
/-- what a call of one value gives, frozen -/
def RcE (Y : Kn) (r : List V → Hp → VK → Prop) (g : D → Option D) : Prop := ∀ (H F : Hp) (x : V) (da d : D) (Q : VK), Sub F H → RepT Y H F x da → g da = some d → (∀ v H' F', Ext H F H' F' → Rep Y F' v d → Q v H') → r [x] H Q
def RcN (Y : Kn) (r : List V → Hp → VK → Prop) (g : D → Option D) : Prop := ∀ (H F : Hp) (x : V) (da d : D) (Q : VK), Sub F H → RepT Y H F x da → g da = some d → (∀ a H' F', Ext H F H' F' → H a = none → F' a = none → Own Y H' F' a d → Q (.ref a) H') → r [x] H Q
theorem de_callB {id : String} {x : Str} {r : List V → Hp → VK → Prop} {g : D → Option D} {p : Pos} (hc : CallR X (.builtin id) r) (hr : RcE (kn X) r g) (hm : X.mg x = none) (hv : bootBuiltins x = some (.builtin id)) (ha : DB X a ta f) (hg : Gl X x := by rfl) (hn : x ≠ "__name__" := by decide) (hdb : (x == ("__debug__" : Str)) = false := by decide)
    (hs : starEach [a] X.env = (false, eval a X.env) :: starEach [] X.env := by rfl) (hpl : (backTo pos (starEach [] X.env)).any (·.1) = false := by rfl) : DE X (.Call (.Name x p) [a] [] pos) (tCB r (tCons ta tNil)) (un1 f g) := by
  refine ⟨pe_callB hc hg hm hv (pa_cons ha.p pa_nil hs) hn hdb hs hpl, fun σ H F ρ d Q r0 e k => ?_⟩
  obtain ⟨d1, e1, e2⟩ := Option.bind_eq_some_iff.mp e
  exact ha.q σ H F ρ d1 _ r0 e1 fun v H' F' x' rv => hr H' F' v d1 d Q x'.s rv e2 fun u H2 F2 x2 r2 => k u H2 F2 (x'.trans x2) r2
theorem de_callT {id : String} {x : Str} {r : List V → Hp → VK → Prop} {g : D → Option D} {p : Pos} (hc : CallR X (.type id) r) (hr : RcE (kn X) r g) (hm : X.mg x = none) (hv : bootBuiltins x = some (.type id)) (ha : DB X a ta f) (hg : Gl X x := by rfl) (hn : x ≠ "__name__" := by decide) (hdb : (x == ("__debug__" : Str)) = false := by decide)
    (hs : starEach [a] X.env = (false, eval a X.env) :: starEach [] X.env := by rfl) (hpl : (backTo pos (starEach [] X.env)).any (·.1) = false := by rfl) : DE X (.Call (.Name x p) [a] [] pos) (tCB r (tCons ta tNil)) (un1 f g) := by
  refine ⟨pe_callTy hc hg hm hv (pa_cons ha.p pa_nil hs) hn hdb hs hpl, fun σ H F ρ d Q r0 e k => ?_⟩
  obtain ⟨d1, e1, e2⟩ := Option.bind_eq_some_iff.mp e
  exact ha.q σ H F ρ d1 _ r0 e1 fun v H' F' x' rv => hr H' F' v d1 d Q x'.s rv e2 fun u H2 F2 x2 r2 => k u H2 F2 (x'.trans x2) r2
theorem dn_callT {id : String} {x : Str} {r : List V → Hp → VK → Prop} {g : D → Option D} {p : Pos} (hc : CallR X (.type id) r) (hr : RcN (kn X) r g) (hm : X.mg x = none) (hv : bootBuiltins x = some (.type id)) (ha : DB X a ta f) (hg : Gl X x := by rfl) (hn : x ≠ "__name__" := by decide) (hdb : (x == ("__debug__" : Str)) = false := by decide)
    (hs : starEach [a] X.env = (false, eval a X.env) :: starEach [] X.env := by rfl) (hpl : (backTo pos (starEach [] X.env)).any (·.1) = false := by rfl) : DN X (.Call (.Name x p) [a] [] pos) (tCB r (tCons ta tNil)) (un1 f g) := by
  refine ⟨pe_callTy hc hg hm hv (pa_cons ha.p pa_nil hs) hn hdb hs hpl, fun σ H F ρ d Q r0 e k => ?_⟩
  obtain ⟨d1, e1, e2⟩ := Option.bind_eq_some_iff.mp e
  exact ha.q σ H F ρ d1 _ r0 e1 fun v H' F' x' rv => hr H' F' v d1 d Q x'.s rv e2 fun u H2 F2 x2 n0 n1 o => k u H2 F2 (x'.trans x2) (none_of_sub x'.h n0) n1 o
def dLen : D → Option D
  | .lst ds => some (.int ds.length)
  | .tup ds => some (.int ds.length)
  | .str l => if l.length ≤ sizeLine then some (.int l.length) else none
  | _ => none
theorem rc_len {Y : Kn} : RcE Y (fun xs H Q => ∃ x n, xs = [x] ∧ LenV Y.K x H n ∧ Q (.int n) H) dLen := by
  intro H F x da d Q s rx e k
  unfold dLen at e
  split at e
  · cases e
    obtain ⟨p, vs, rfl, h1, r1⟩ := rx.lst s
    exact ⟨_, _, rfl, .inl ⟨vs, h1, r1.length.symm⟩, k _ H F (.refl s) (.int _)⟩
  · cases e
    obtain ⟨p, vs, rfl, h1, r1⟩ := rx.tup s
    exact ⟨_, _, rfl, .inr ⟨vs, h1, r1.length.symm⟩, k _ H F (.refl s) (.int _)⟩
  · split at e
    · rename_i hz
      cases e
      obtain ⟨z, rfl, ez⟩ := rx.str
      subst ez
      exact ⟨_, _, rfl, ⟨by rw [len_tl]; exact hz, (len_tl z).symm⟩, k _ H F (.refl s) (.int _)⟩
    · cases e
  · cases e
def de_len {p : Pos} (hm : X.mg "len" = none) (ha : DB X a ta f) (hg : Gl X "len" := by rfl) (hs : starEach [a] X.env = (false, eval a X.env) :: starEach [] X.env := by rfl) (hpl : (backTo pos (starEach [] X.env)).any (·.1) = false := by rfl) := (de_callB call_len rc_len hm PySem.boot_len ha hg (by decide) (by decide) hs hpl : DE X (.Call (.Name "len" p) [a] [] pos) (tCB _ (tCons ta tNil)) (un1 f dLen))
def dInt : D → Option D
  | .int i => some (.int i)
  | .bl b => some (.int (if b then 1 else 0))
  | _ => none
theorem rc_int {Y : Kn} : RcE Y (fun xs H Q => (∃ i, xs = [.int i] ∧ Q (.int i) H) ∨ ∃ k, xs = [.bl k] ∧ Q (.int (if k then 1 else 0)) H) dInt := by
  intro H F x da d Q s rx e k
  unfold dInt at e
  split at e
  · cases e
    exact .inl ⟨_, by rw [rx.int], k _ H F (.refl s) (.int _)⟩
  · cases e
    exact .inr ⟨_, by rw [rx.bl], k _ H F (.refl s) (.int _)⟩
  · cases e
def de_toInt {p : Pos} (hm : X.mg "int" = none) (ha : DB X a ta f) (hg : Gl X "int" := by rfl) (hs : starEach [a] X.env = (false, eval a X.env) :: starEach [] X.env := by rfl) (hpl : (backTo pos (starEach [] X.env)).any (·.1) = false := by rfl) := (de_callT call_int1 rc_int hm (by decide +kernel) ha hg (by decide) (by decide) hs hpl : DE X (.Call (.Name "int" p) [a] [] pos) (tCB _ (tCons ta tNil)) (un1 f dInt))
def dList : D → Option D
  | .lst ds => some (.lst ds)
  | .tup ds => some (.lst ds)
  | _ => none
theorem rc_list {Y : Kn} : RcN Y (fun xs H Q => ∃ p ys, xs = [.ref p] ∧ (SqL Y.K H p ys ∨ SqT Y.K H p ys) ∧ ∀ l, H l = none → Q (.ref l) (upd H l (.lst ys))) dList := by
  intro H F x da d Q s rx e k
  unfold dList at e
  split at e
  · cases e
    obtain ⟨p, vs, rfl, h1, r1⟩ := rx.lst s
    exact ⟨p, vs, rfl, .inl h1, fun q hq => k q _ F (ext_new s hq) hq (none_of_sub s hq) ⟨_, upd_same, r1⟩⟩
  · cases e
    obtain ⟨p, vs, rfl, h1, r1⟩ := rx.tup s
    exact ⟨p, vs, rfl, .inr h1, fun q hq => k q _ F (ext_new s hq) hq (none_of_sub s hq) ⟨_, upd_same, r1⟩⟩
  · cases e
def dn_list {p : Pos} (hm : X.mg "list" = none) (ha : DB X a ta f) (hg : Gl X "list" := by rfl) (hs : starEach [a] X.env = (false, eval a X.env) :: starEach [] X.env := by rfl) (hpl : (backTo pos (starEach [] X.env)).any (·.1) = false := by rfl) := (dn_callT call_list_of rc_list hm (by decide +kernel) ha hg (by decide) (by decide) hs hpl : DN X (.Call (.Name "list" p) [a] [] pos) (tCB _ (tCons ta tNil)) (un1 f dList))
def dTup : D → Option D
  | .lst ds => some (.tup ds)
  | .tup ds => some (.tup ds)
  | _ => none
theorem rc_tup {Y : Kn} : RcE Y (fun xs H Q => ∃ p ys, xs = [.ref p] ∧ ((SqL Y.K H p ys ∧ ∀ l, H l = none → Q (.ref l) (upd H l (.tup ys))) ∨ (SqT Y.K H p ys ∧ Q (.ref p) H))) dTup := by
  intro H F x da d Q s rx e k
  unfold dTup at e
  split at e
  · cases e
    obtain ⟨p, vs, rfl, h1, r1⟩ := rx.lst s
    refine ⟨p, vs, rfl, .inl ⟨h1, fun q hq => ?_⟩⟩
    have x2 := ext_newF (o := .tup vs) s hq
    exact k (.ref q) _ _ x2 (.tup (.inl (.inl upd_same)) (r1.mono x2.f))
  · cases e
    have r' : Rep Y F x (.tup _) := rx.elim (fun r => r) fun ⟨_, _, o⟩ => o.elim
    cases r' with
    | tup h1 r1 => exact ⟨_, _, rfl, .inr ⟨sqT_sub s h1, k _ H F (.refl s) (.tup h1 r1)⟩⟩
  · cases e
def de_tuple {p : Pos} (hm : X.mg "tuple" = none) (ha : DB X a ta f) (hg : Gl X "tuple" := by rfl) (hs : starEach [a] X.env = (false, eval a X.env) :: starEach [] X.env := by rfl) (hpl : (backTo pos (starEach [] X.env)).any (·.1) = false := by rfl) := (de_callT call_tuple_of rc_tup hm (by decide +kernel) ha hg (by decide) (by decide) hs hpl : DE X (.Call (.Name "tuple" p) [a] [] pos) (tCB _ (tCons ta tNil)) (un1 f dTup))
end
end
end DL

/-! DL, changes of what is one's own (append, items, pops), methods of texts, isinstance, dicts. -/
namespace DL
open PySem PySem.Spec PyProof.Rows L2
open TL (tl len_tl ext_tl tl_append tl_mk mk_tl map_tl_inj tl_ofString)
section
variable {Y : Kn}
/-- one's own object at slot i is changed -/
theorem RS.mutO {H0 F0 H F : Hp} {σ : L2.St} {ρ : Reg} (s : RS Y H0 F0 H F σ ρ) {i : Nat} {d d' : D} {a : Addr} {u : HO} (hi : ρ[i]? = some (Sl.ow d)) (ha : σ[i]? = some (some (V.ref a))) (n : F a = none) (o : Own Y (upd H a u) F a d') :
    RS Y H0 F0 (upd H a u) F σ (ρ.set i (.ow d')) := by
  have hl : i < ρ.length := (List.getElem?_eq_some_iff.mp hi).1
  have n0 : H0 a = none := s.own i d a hi ha
  refine ⟨⟨fun b w e => ?_, by rw [List.length_set]; exact s.r.len, fun j sl e => ?_, fun j k d1 d2 b e1 e2 e3 e4 => ?_⟩, ⟨fun b w e => ?_, s.x.f, fun b w e => ?_, fun b w hb nb => s.x.n b w hb nb⟩, fun j d1 b e1 e2 => ?_⟩
  · have ne : b ≠ a := fun z => by rw [z, n] at e; cases e
    rw [upd_ne ne]; exact s.r.sub b w e
  · by_cases hj : i = j
    · subst hj
      rw [List.getElem?_set_self hl] at e
      cases e
      exact ⟨_, ha, a, rfl, n, o⟩
    · rw [List.getElem?_set_ne hj] at e
      obtain ⟨v, g1, g2⟩ := s.r.at_ j sl e
      refine ⟨v, g1, ?_⟩
      cases sl with
      | no => trivial
      | fz d1 => exact g2
      | ow d1 =>
        obtain ⟨b, g3, g4, g5⟩ := g2
        subst g3
        have ne : b ≠ a := fun z => hj (s.r.sep i j d d1 a hi e ha (by rw [← z]; exact g1))
        exact ⟨b, rfl, g4, g5.mono (upd_ne ne) (Sub.refl _)⟩
  · by_cases hj : i = j
    · subst hj
      by_cases hk : i = k
      · exact hk
      · rw [List.getElem?_set_ne hk] at e2
        exact s.r.sep i k d d2 b hi e2 e3 e4
    · by_cases hk : i = k
      · subst hk
        rw [List.getElem?_set_ne hj] at e1
        exact s.r.sep j i d1 d b e1 hi e3 e4
      · rw [List.getElem?_set_ne hj] at e1
        rw [List.getElem?_set_ne hk] at e2
        exact s.r.sep j k d1 d2 b e1 e2 e3 e4
  · have ne : b ≠ a := fun z => by rw [z, n0] at e; cases e
    rw [upd_ne ne]; exact s.x.h b w e
  · have ne : b ≠ a := fun z => by rw [z, n] at e; cases e
    rw [upd_ne ne]; exact s.r.sub b w e
  · by_cases hj : i = j
    · subst hj
      rw [ha] at e2
      cases e2
      exact n0
    · rw [List.getElem?_set_ne hj] at e1
      exact s.own j d1 b e1 e2
theorem own_ext {H F H1 F1 : Hp} {a : Addr} {d : D} (o : Own Y H F a d) (x : Ext H F H1 F1) : H1 a = H a := by
  obtain ⟨u, hu⟩ := o.some_
  rw [hu]; exact x.h _ _ hu
theorem owAt_slot {ρ : Reg} {i : Nat} {d : D} (e : owAt ρ i = some d) : ρ[i]? = some (Sl.ow d) := by
  unfold owAt at e
  split at e
  · cases e; assumption
  · cases e
end
section
variable {X : Cx} {a b c e : Expr} {f g h : Reg → Option D} {ta tb tc t te : TE} {pos : Pos} {tA tB' : TT} {p q : Reg → Option Bool} {rest : List Expr}
/-! ### x.append(e), x[i] = e, x[k] = e -/
def appS (i : Nat) (f : Reg → Option D) : Reg → Out := fun ρ => match owAt ρ i, f ρ with
  | some (.lst ds), some d => if ds.length < sizeLine then .nx (ρ.set i (.ow (.lst (ds ++ [d])))) else .bad
  | _, _ => .bad
theorem ds_append (i : Nat) {x : Str} {xp apos cpos : Pos} (he : DE X e te f) (hN : X.N[i]? = some x := by rfl) (hv : Vis X.env.scope x := by first | exact Or.inl rfl | exact Or.inr (Or.inl rfl) | exact Or.inr (Or.inr rfl))
    (hd : (x == ("__debug__" : Str)) = false := by decide) (hcd : (x == ("__classdict__" : Str)) = false := by decide)
    (hbase : attributeBase (.Name x xp) "append" X.env (eval (.Name x xp) X.env) = eval (.Name x xp) X.env := by rfl)
    (hfew : ((backTo cpos (starEach [e] X.env)).all (fun x => !x.1) && (backToKw cpos (keywordEach [] X.env)).all (fun x => x.1.isSome) && decide (([e] : List Expr).length + ([] : List Keyword).length + (if ([] : List Keyword).isEmpty then 0 else 1) < 30)) = true := by rfl)
    (hline : (apos.endLine == cpos.line) = true := by rfl) (hs : starEach [e] X.env = (false, eval e X.env) :: starEach [] X.env := by rfl) (hplain : (backTo cpos (starEach [] X.env)).any (·.1) = false := by rfl)
    (hsw : swapsWith (.Call (.Attribute (.Name x xp) "append" apos) [e] [] cpos) none pos.line X.env = pure false := by rfl) :
    DS X (.Expr (.Call (.Attribute (.Name x xp) "append" apos) [e] [] cpos) pos) (tDrop (tBM X.K "list" rAppend (tVar i) (tCons te tNil))) (appS i f) := by
  refine ⟨ps_expr (pe_bm PySem.F.plainAttrs_list PySem.F.slot_list_append PySem.F.type_list_append mt_append (pe_var hN hv hd hcd) (pa_cons he.p pa_nil hs) hbase hfew hline hs hplain) hsw, fun σ H F ρ H0 F0 D s k => ?_⟩
  unfold appS at k
  split at k
  · rename_i ds d e1 e2
    split at k
    · rename_i hz
      obtain ⟨a, g1, g2, g3, g4⟩ := s.r.ow e1
      obtain ⟨vs, h1, r1⟩ := _root_.id g3
      refine ⟨.ref a, g1, .inl ⟨rfl, vs, .inl (.inl h1)⟩, he.q σ H F ρ d _ s.r e2 fun v H' F' x' rv => ?_⟩
      have h2 : H' a = some (.lst vs) := x'.h _ _ h1
      have n2 : F' a = none := x'.n _ _ h1 g2
      exact ⟨a, vs, v, rfl, rfl, h2, by rw [r1.length]; exact hz, k σ _ F' ((s.ext x').mutO g4 g1 n2 ⟨vs ++ [v], upd_same, (r1.mono x'.f).append (.cons rv .nil)⟩)⟩
    · exact k.elim
  · exact k.elim
def setItS (i : Nat) (fe fi : Reg → Option D) : Reg → Out := fun ρ => match fe ρ, owAt ρ i, fi ρ with
  | some d, some (.lst ds), some (.int k) => match ixN ds.length k with
    | some j => .nx (ρ.set i (.ow (.lst (ds.set j d))))
    | none => .bad
  | _, _, _ => .bad
theorem ds_setItem (i : Nat) {x : Str} {xp sp : Pos} {ix : Expr} {ti : TE} {fi : Reg → Option D} (he : DE X e te f) (hi : DB X ix ti fi) (hN : X.N[i]? = some x := by rfl) (hv : Vis X.env.scope x := by first | exact Or.inl rfl | exact Or.inr (Or.inl rfl) | exact Or.inr (Or.inr rfl))
    (hd : (x == ("__debug__" : Str)) = false := by decide) (hcd : (x == ("__classdict__" : Str)) = false := by decide)
    (ha : ∀ v, assign (.Subscript (.Name x xp) ix sp) X.env v = (do
      let ov ← holding [v] (eval (.Name x xp) X.env)
      let iv ← holding [v, ov] (eval ix X.env)
      standAt sp
      holding [v, ov, iv] (setItem ov iv v)
      release [v, ov, iv] []) := by intro _; rfl)
    (hs : swapsWithSole [.Subscript (.Name x xp) ix sp] e pos.line X.env = pure false := by rfl) (hw : swappedStores [.Subscript (.Name x xp) ix sp] e X.env = pure none := by rfl)
    (h1 : (assignEach [.Subscript (.Name x xp) ix sp] X.env).map (·.2) = [assign (.Subscript (.Name x xp) ix sp) X.env] := by rfl) :
    DS X (.Assign [.Subscript (.Name x xp) ix sp] e pos) (tAsg te (gSub (tVar i) ti rSetL)) (setItS i f fi) := by
  refine ⟨ps_asg he.p (pg_sub (pe_var hN hv hd hcd) hi.p set_list ha) hs hw h1, fun σ H F ρ H0 F0 D s k => ?_⟩
  unfold setItS at k
  split at k
  · rename_i d ds kk e1 e2 e3
    split at k
    · rename_i j ej
      obtain ⟨a, g1, g2, g3, g4⟩ := s.r.ow e2
      obtain ⟨vs, h1, r1⟩ := _root_.id g3
      refine he.q σ H F ρ d _ s.r e1 fun v H' F' x' rv => ⟨.ref a, g1, hi.q σ H' F' ρ _ _ (s.r.ext x') e3 fun w H2 F2 x2 rw' => ?_⟩
      have xx := x'.trans x2
      have h2 : H2 a = some (.lst vs) := xx.h _ _ h1
      have n2 : F2 a = none := xx.n _ _ h1 g2
      exact ⟨a, vs, kk, j, rfl, rw'.int, h2, by rw [r1.length]; exact ej, k σ _ F2 ((s.ext xx).mutO g4 g1 n2 ⟨vs.set j v, upd_same, Reps.set (rv.mono x2.f) j (r1.mono xx.f)⟩)⟩
    · exact k.elim
  · exact k.elim
/-! ### methods of texts -/
def RmE (Y : Kn) (r : V → List V → Hp → VK → Prop) (g : List Nat → Option D) : Prop := ∀ (H F : Hp) (z : Str) (d : D) (Q : VK), Sub F H → g (tl z) = some d → (∀ v H' F', Ext H F H' F' → Rep Y F' v d → Q v H') → r (.str z) [] H Q
def strG (g : List Nat → Option D) : D → Option D
  | .str l => g l
  | _ => none
theorem de_m0 {id : String} {name : Str} {apos : Pos} {r : V → List V → Hp → VK → Prop} {g : List Nat → Option D} (slot : Slot "str" name id) (ty : typeOf (.builtin id) = pure (.type "method_descriptor")) (rule : MtR X id r) (hr : RmE (kn X) r g) (ha : DB X a ta f)
    (hbase : attributeBase a name X.env (eval a X.env) = eval a X.env := by rfl) (hline : (apos.endLine == pos.line) = true := by rfl) : DE X (.Call (.Attribute a name apos) [] [] pos) (tM0 r ta) (un1 f (strG g)) := by
  refine ⟨pe_m0 slot ty rule ha.p hbase hline, fun σ H F ρ d Q r0 e k => ?_⟩
  obtain ⟨x, e1, e2⟩ := Option.bind_eq_some_iff.mp e
  refine ha.q σ H F ρ x _ r0 e1 fun v H' F' x' rv => ?_
  unfold strG at e2
  split at e2
  · obtain ⟨z, rfl, ez⟩ := rv.str
    subst ez
    exact ⟨⟨z, rfl⟩, hr H' F' z d Q x'.s e2 fun u H2 F2 x2 r2 => k u H2 F2 (x'.trans x2) r2⟩
  · cases e2
def gDigit : List Nat → Option D := fun l => some (.bl (Txt.isdigit ⟨l.toArray⟩))
theorem de_isdigit {apos : Pos} (ha : DB X a ta f) (hbase : attributeBase a "isdigit" X.env (eval a X.env) = eval a X.env := by rfl) (hline : (apos.endLine == pos.line) = true := by rfl) :
    DE X (.Call (.Attribute a "isdigit" apos) [] [] pos) (tM0 (fun x xs H Q => ∃ a, x = .str a ∧ xs = [] ∧ True ∧ Q (.bl (Txt.isdigit a)) H) ta) (un1 f (strG gDigit)) :=
  de_m0 PySem.F.slot_str_isdigit PySem.F.type_str_isdigit mt_isdigit (fun H F z d Q s e k => by cases e; rw [mk_tl] at k; exact ⟨z, rfl, rfl, trivial, k _ H F (.refl s) (.bl _)⟩) ha hbase hline
/-- s.split() -/
def strsD (ls : List (List Nat)) : D := .lst (ls.map D.str)
def wordsL (l : List Nat) : List (List Nat) := TL.wfin (l.foldl TL.wstep ([], []))
def dWords : D → Option D
  | .str l => if l.length + 2 ≤ sizeLine then some (strsD (wordsL l)) else none
  | _ => none
theorem reps_strs {Y : Kn} {F : Hp} : ∀ {zs : List Str} {ls : List (List Nat)}, zs.map tl = ls → Reps Y F (zs.map V.str) (ls.map D.str)
  | [], _, e => by subst e; exact .nil
  | z :: zs, _, e => by subst e; exact .cons (.str z) (reps_strs rfl)
theorem dn_words {apos : Pos} (ha : DB X a ta f) (hbase : attributeBase a "split" X.env (eval a X.env) = eval a X.env := by rfl) (hline : (apos.endLine == pos.line) = true := by rfl) :
    DN X (.Call (.Attribute a "split" apos) [] [] pos) (tM0 (fun x xs H Q => ∃ a, x = .str a ∧ xs = [] ∧ a.length + 2 ≤ sizeLine ∧ rNewStrs (Txt.words a) H Q) ta) (un1 f dWords) := by
  refine ⟨pe_words ha.p hbase hline, fun σ H F ρ d Q r0 e k => ?_⟩
  obtain ⟨x, e1, e2⟩ := Option.bind_eq_some_iff.mp e
  refine ha.q σ H F ρ x _ r0 e1 fun v H' F' x' rv => ?_
  unfold dWords at e2
  split at e2
  · split at e2
    · rename_i hz
      cases e2
      obtain ⟨z, rfl, ez⟩ := rv.str
      subst ez
      refine ⟨⟨z, rfl⟩, z, rfl, rfl, by rw [len_tl]; exact hz, fun p hp => ?_⟩
      exact k p _ F' (x'.trans (ext_new x'.s hp)) (none_of_sub x'.h hp) (none_of_sub x'.s hp) ⟨_, upd_same, reps_strs (TL.words_tl z)⟩
    · cases e2
  · cases e2
/-- s.split(sep) -/
def dSplit : D → D → Option D
  | .str l, .str S => if S ≠ [] ∧ S.all (· < 256) = true ∧ l.length + 2 ≤ sizeLine then some (strsD (TL.spl S 0 [] l)) else none
  | _, _ => none
theorem dn_split {apos : Pos} (ha : DB X a ta f) (hb : DB X b tb g) (hs : starEach [b] X.env = [(false, eval b X.env)] := by rfl) (hbase : attributeBase a "split" X.env (eval a X.env) = eval a X.env := by rfl) (hline : (apos.endLine == pos.line) = true := by rfl) :
    DN X (.Call (.Attribute a "split" apos) [b] [] pos) (tM1 (fun x xs H Q => ∃ a b, x = .str a ∧ xs = [.str b] ∧ (b.length == 0) = false ∧ a.length + 2 ≤ sizeLine ∧ rNewStrs (Txt.split a b) H Q) ta tb) (bin2 f g dSplit) := by
  refine ⟨pe_split ha.p hb.p hs hbase hline, fun σ H F ρ d Q r0 e k => ?_⟩
  obtain ⟨x, y, e1, e2, e3⟩ := bin2_some e
  refine ha.q σ H F ρ x _ r0 e1 fun v H' F' x' rv => ?_
  unfold dSplit at e3
  split at e3
  · split at e3
    · rename_i hz
      cases e3
      obtain ⟨z, rfl, ez⟩ := rv.str
      subst ez
      refine ⟨⟨z, rfl⟩, hb.q σ H' F' ρ _ _ (r0.ext x') e2 fun w H2 F2 x2 rw' => ?_⟩
      obtain ⟨y', rfl, ey⟩ := rw'.str
      have xx := x'.trans x2
      have hk : y'.cps.all (· < 256) = true := by
        have := hz.2.1
        rw [← ey] at this
        simpa [tl] using this
      have hy : tl y' ≠ [] := by rw [ey]; exact hz.1
      refine ⟨z, y', rfl, rfl, ?_, by rw [len_tl]; exact hz.2.2, fun p hp => ?_⟩
      · rw [len_tl]
        cases h : tl y' with
        | nil => exact absurd h hy
        | cons _ _ => rfl
      · refine k p _ F2 (xx.trans (ext_new xx.s hp)) (none_of_sub xx.h hp) (none_of_sub xx.s hp) ⟨_, upd_same, reps_strs ?_⟩
        rw [TL.split_spl z y' hy (TL.kind_ok hk), ey]
    · cases e3
  · cases e3
/-- s.startswith(t), t not empty -/
def dStarts : D → D → Option D
  | .str l, .str S => if S ≠ [] then some (.bl (TL.pre S l)) else none
  | _, _ => none
theorem starts_tl {x y : Str} (hy : tl y ≠ []) : Txt.startswith x y = TL.pre (tl y) (tl x) := by
  have h := TL.at_iff (x := x) (y := y) hy 0
  rw [List.drop_zero] at h
  rw [Bool.eq_iff_iff, ← h]
  unfold Txt.startswith PySem.StrLaws.At
  simp
theorem de_starts {apos : Pos} (ha : DB X a ta f) (hb : DB X b tb g) (hs : starEach [b] X.env = [(false, eval b X.env)] := by rfl) (hbase : attributeBase a "startswith" X.env (eval a X.env) = eval a X.env := by rfl) (hline : (apos.endLine == pos.line) = true := by rfl) :
    DE X (.Call (.Attribute a "startswith" apos) [b] [] pos) (tM1 (fun x xs H Q => ∃ a b, x = .str a ∧ xs = [.str b] ∧ Q (.bl (Txt.startswith a b)) H) ta tb) (bin2 f g dStarts) := by
  refine ⟨pe_m1 PySem.F.slot_str_startswith PySem.F.type_str_startswith mt_startswith ha.p hb.p hs hbase hline, fun σ H F ρ d Q r0 e k => ?_⟩
  obtain ⟨x, y, e1, e2, e3⟩ := bin2_some e
  refine ha.q σ H F ρ x _ r0 e1 fun v H' F' x' rv => ?_
  unfold dStarts at e3
  split at e3
  · split at e3
    · rename_i hz
      cases e3
      obtain ⟨z, rfl, ez⟩ := rv.str
      subst ez
      refine ⟨⟨z, rfl⟩, hb.q σ H' F' ρ _ _ (r0.ext x') e2 fun w H2 F2 x2 rw' => ?_⟩
      obtain ⟨y', rfl, ey⟩ := rw'.str
      have hy : tl y' ≠ [] := by rw [ey]; exact hz
      refine ⟨z, y', rfl, rfl, ?_⟩
      rw [starts_tl hy, ey]
      exact k _ H2 F2 (x'.trans x2) (.bl _)
    · cases e3
  · cases e3
/-- sep.join(xs) -/
def strL : D → Option (List Nat)
  | .str l => some l
  | _ => none
def strsL : List D → Option (List (List Nat))
  | [] => some []
  | d :: ds => (strL d).bind fun l => (strsL ds).bind fun ls => some (l :: ls)
def dJoin : D → D → Option D
  | .str S, y => (seqD y).bind fun ds => (strsL ds).bind fun ls => if (ls.map List.length).sum + ls.length * S.length ≤ 16777216 then some (.str (TL.joinL S ls)) else none
  | _, _ => none
theorem strs_reps {Y : Kn} {F : Hp} : ∀ {vs : List V} {ds : List D} {ls : List (List Nat)}, Reps Y F vs ds → strsL ds = some ls → ∃ zs : List Str, vs = zs.map V.str ∧ zs.map tl = ls
  | _, _, _, .nil, e => by cases e; exact ⟨[], rfl, rfl⟩
  | _, _, _, .cons h t, e => by
    obtain ⟨l, e1, e⟩ := Option.bind_eq_some_iff.mp e
    obtain ⟨ls, e2, e⟩ := Option.bind_eq_some_iff.mp e
    cases e
    obtain ⟨zs, h1, h2⟩ := strs_reps t e2
    cases h with
    | str z => cases e1; exact ⟨z :: zs, by rw [h1]; rfl, by rw [← h2]; rfl⟩
    | _ => cases e1
theorem lens_tl : ∀ zs : List Str, (zs.map (·.length)).sum = ((zs.map tl).map List.length).sum
  | [] => rfl
  | z :: zs => by
    simp only [List.map_cons, List.sum_cons]
    rw [lens_tl zs, len_tl]
theorem de_join {apos : Pos} (ha : DB X a ta f) (hb : DB X b tb g) (hs : starEach [b] X.env = [(false, eval b X.env)] := by rfl) (hbase : attributeBase a "join" X.env (eval a X.env) = eval a X.env := by rfl) (hline : (apos.endLine == pos.line) = true := by rfl) :
    DE X (.Call (.Attribute a "join" apos) [b] [] pos) (tM1 (fun x xs H Q => ∃ a p, ∃ ys : List Str, x = .str a ∧ xs = [.ref p] ∧ (SqL X.K H p (ys.map V.str) ∨ SqT X.K H p (ys.map V.str)) ∧ (ys.map (·.length)).sum + ys.length * a.length ≤ 16777216 ∧ Q (.str (Txt.join a ys)) H) ta tb) (bin2 f g dJoin) := by
  refine ⟨pe_join ha.p hb.p hs hbase hline, fun σ H F ρ d Q r0 e k => ?_⟩
  obtain ⟨x, y, e1, e2, e3⟩ := bin2_some e
  refine ha.q σ H F ρ x _ r0 e1 fun v H' F' x' rv => ?_
  unfold dJoin at e3
  split at e3
  · obtain ⟨ds, e4, e3⟩ := Option.bind_eq_some_iff.mp e3
    obtain ⟨ls, e5, e3⟩ := Option.bind_eq_some_iff.mp e3
    split at e3
    · rename_i hz
      cases e3
      obtain ⟨z, rfl, ez⟩ := rv.str
      subst ez
      refine ⟨⟨z, rfl⟩, hb.q σ H' F' ρ _ _ (r0.ext x') e2 fun w H2 F2 x2 rw' => ?_⟩
      have xx := x'.trans x2
      have fin : ∀ zs : List Str, zs.map tl = ls → (zs.map (·.length)).sum + zs.length * z.length ≤ 16777216 ∧ Q (.str (Txt.join z zs)) H2 := fun zs h => by
        refine ⟨?_, ?_⟩
        · rw [lens_tl, h, len_tl, show zs.length = ls.length by rw [← h, List.length_map]]; exact hz
        · have h2 := Rep.str (Y := kn X) (F := F2) (Txt.join z zs)
          have e : tl (Txt.join z zs) = TL.joinL (tl z) ls := by rw [TL.join_eq, TL.tl_join, h]
          rw [e] at h2
          exact k _ H2 F2 xx h2
      cases y with
      | lst ds' =>
        cases e4
        obtain ⟨p, vs, rfl, h1, r1⟩ := rw'.lst xx.s
        obtain ⟨zs, rfl, h2⟩ := strs_reps r1 e5
        exact ⟨z, p, zs, rfl, rfl, .inl h1, fin zs h2⟩
      | tup ds' =>
        cases e4
        obtain ⟨p, vs, rfl, h1, r1⟩ := rw'.tup xx.s
        obtain ⟨zs, rfl, h2⟩ := strs_reps r1 e5
        exact ⟨z, p, zs, rfl, rfl, .inr h1, fin zs h2⟩
      | _ => cases e4
    · cases e3
  · cases e3
/-! ### isinstance(x, T), T a built-in class -/
def tyD : D → Option String
  | .non => some "NoneType"
  | .bl _ => some "bool"
  | .int _ => some "int"
  | .str _ => some "str"
  | .lst _ => some "list"
  | .tup _ => some "tuple"
  | .dic _ => some "dict"
  | .obj _ _ => none
theorem ty_rep {Y : Kn} {H F : Hp} {v : V} {d : D} {T : String} (s : Sub F H) (r : RepT Y H F v d) (e : tyD d = some T) : TyX Y.K H v (.type T) := by
  cases d with
  | non => cases e; rw [r.non]; exact .base .non
  | bl b => cases e; rw [r.bl]; exact .base (.bl b)
  | int b => cases e; rw [r.int]; exact .base (.int b)
  | str b => cases e; obtain ⟨z, rfl, _⟩ := r.str; exact .base (.str z)
  | lst ds =>
    cases e
    obtain ⟨p, vs, rfl, h1, r1⟩ := r.lst s
    rcases h1 with (h1 | ⟨o, h1⟩) | ⟨o, its, n, h1, h2, _⟩
    · exact .base (.lst h1)
    · exact .base (.frz h1)
    · exact .kList h1 h2
  | tup ds =>
    cases e
    obtain ⟨p, vs, rfl, h1, r1⟩ := r.tup s
    rcases h1 with (h1 | ⟨o, h1⟩) | ⟨o, its, n, h1, h2, _⟩
    · exact .base (.tup h1)
    · exact .fTuple h1
    · exact .kTuple h1 h2
  | dic kvs =>
    cases e
    rcases r with r | ⟨p, rfl, kvs', h1, r1⟩
    · cases r with
      | dic h1 r1 => exact .base (.dK (s _ _ h1))
    · exact .base (.dK h1)
  | obj _ _ => cases e
def dIsI (T : String) (d : D) : Option D := (tyD d).bind fun t => (kitB t T).map .bl
theorem de_isi {T : String} {x : Str} {p px : Pos} (hm : X.mg "isinstance" = none) (hmx : X.mg x = none) (hv : bootBuiltins x = some (.type T)) (ha : DB X a ta f) (hg : Gl X "isinstance" := by rfl) (hgx : Gl X x := by rfl) (hn : x ≠ "__name__" := by decide) (hdb : (x == ("__debug__" : Str)) = false := by decide)
    (hs : starEach [a, .Name x px] X.env = (false, eval a X.env) :: starEach [.Name x px] X.env := by rfl) (hs2 : starEach [.Name x px] X.env = (false, eval (.Name x px) X.env) :: starEach [] X.env := by rfl) (hpl : (backTo pos (starEach [.Name x px] X.env)).any (·.1) = false := by rfl) :
    DE X (.Call (.Name "isinstance" p) [a, .Name x px] [] pos) (tCB (rIsi X.K) (tCons ta (tCons (tC (.ty T)) tNil))) (un1 f (dIsI T)) := by
  refine ⟨pe_callB call_isi hg hm (by decide +kernel) (pa_cons ha.p (pa_cons (pe_bltn hgx hmx hv rfl hn hdb) pa_nil hs2) hs) (by decide) (by decide) hs hpl, fun σ H F ρ d Q r0 e k => ?_⟩
  obtain ⟨d1, e1, e2⟩ := Option.bind_eq_some_iff.mp e
  obtain ⟨t1, e3, e4⟩ := Option.bind_eq_some_iff.mp e2
  obtain ⟨b1, e5, e6⟩ := Option.map_eq_some_iff.mp e4
  subst e6
  exact ha.q σ H F ρ d1 _ r0 e1 fun v H' F' x' rv => ⟨v, _, _, _, b1, rfl, .ty T, ty_rep x'.s rv e3, kit_ty e5, k _ H' F' x' (.bl _)⟩
end
end DL

/-! DL, the rules that ask for no kind: +, items, slices, in, len, what is walked, of whatever the data are; names of defs. -/
namespace DL
open PySem PySem.Spec PyProof.Rows L2
open TL (tl len_tl ext_tl tl_append tl_mk mk_tl map_tl_inj tl_ofString)
section
variable {X : Cx} {a b c e : Expr} {f g h : Reg → Option D} {ta tb tc t te t' : TE} {pos : Pos} {tA tB' : TT} {p q : Reg → Option Bool} {rest : List Expr}
def eOr (t u : TE) : TE := fun σ H Q => t σ H Q ∨ u σ H Q
def oElse (f g : Reg → Option D) : Reg → Option D := fun ρ => (f ρ).or (g ρ)
theorem DE.or (h1 : DE X e t f) (h2 : DE X e t' g) : DE X e (eOr t t') (oElse f g) := by
  refine ⟨⟨fun pins s σ H Q I h => h.elim (h1.p.run pins s σ H Q I) (h2.p.run pins s σ H Q I)⟩, fun σ H F ρ d Q r q k => ?_⟩
  unfold oElse at q
  cases e1 : f ρ with
  | some d1 =>
    rw [e1] at q
    cases q
    exact .inl (h1.q σ H F ρ _ Q r e1 k)
  | none =>
    rw [e1] at q
    exact .inr (h2.q σ H F ρ d Q r q k)
/-- two ways by data: the one that is defined -/
theorem DE.alt {k1 k2 k : D → D → Option D} (h1 : DE X e t (bin2 f g k1)) (h2 : DE X e t' (bin2 f g k2)) (hk : ∀ x y, k x y = (k1 x y).or (k2 x y)) : DE X e (eOr t t') (bin2 f g k) := by
  have h := h1.or h2
  refine ⟨h.p, fun σ H F ρ d Q r q kk => h.q σ H F ρ d Q r ?_ kk⟩
  obtain ⟨x, y, e1, e2, e3⟩ := bin2_some q
  unfold oElse bin2
  rw [e1, e2]
  show (k1 x y).or (k2 x y) = some d
  rw [← hk]; exact e3
theorem DT.alt {r r' : TT} {k1 k2 k : D → D → Option Bool} (h1 : DT X e r (cmp2 f g k1)) (h2 : DT X e r' (cmp2 f g k2)) (hk : ∀ x y, k x y = (k1 x y).or (k2 x y)) : DT X e (fun σ H Q => r σ H Q ∨ r' σ H Q) (cmp2 f g k) := by
  refine ⟨⟨fun pins s σ H Q I h => h.elim (h1.p.run pins s σ H Q I) (h2.p.run pins s σ H Q I)⟩, fun σ H F ρ d Q r q kk => ?_⟩
  obtain ⟨x, y, e1, e2, e3⟩ := cmp2_some q
  rw [hk] at e3
  cases e4 : k1 x y with
  | some d1 =>
    rw [e4] at e3
    cases e3
    exact .inl (h1.q σ H F ρ d Q r (by unfold cmp2; rw [e1, e2]; exact e4) kk)
  | none =>
    rw [e4] at e3
    exact .inr (h2.q σ H F ρ d Q r (by unfold cmp2; rw [e1, e2]; exact e3) kk)
/-! + -/
def dPlus : D → D → Option D
  | .int a, .int b => some (.int (a + b))
  | .str a, .str b => if a.length + b.length ≤ sizeLine then some (.str (a ++ b)) else none
  | .lst a, .lst b => if a.length + b.length ≤ sizeLine then some (.lst (a ++ b)) else none
  | .tup a, .tup b => if a ≠ [] ∧ a.length + b.length ≤ sizeLine then some (.tup (a ++ b)) else none
  | _, _ => none
theorem dPlus_eq (x y : D) : dPlus x y = (dAdd x y).or (((dCat x y)).or (dCatT x y)) := by
  cases x <;> cases y <;> simp [dPlus, dAdd, dCat, dCatT] <;> (try split) <;> rfl
def de_plus (ha : DB X a ta f) (hb : DB X b tb g) := (DE.alt (de_add ha hb) (DE.alt (k := fun x y => (dCat x y).or (dCatT x y)) (dn_cat ha hb).toE (de_catT ha hb) fun _ _ => rfl) dPlus_eq : DE X (.BinOp a .Add b pos) (eOr (tOp _ ta tb) (eOr (tOp _ ta tb) (tOp _ ta tb))) (bin2 f g dPlus))
/-! dicts -/
def dkD : D → Option DK
  | .int i => some (.inl i)
  | .str l => some (.inr l)
  | _ => none
def lookD (k : DK) : List (DK × D) → Option D
  | [] => none
  | (j, d) :: r => if j = k then some d else lookD k r
theorem keyOf_inj {j k : DK} : keyOf j = keyOf k ↔ j = k := by
  constructor
  · intro h
    cases j <;> cases k <;> simp [keyOf] at h ⊢ <;> exact h
  · intro h; rw [h]
theorem val_repK {Y : Kn} {F : Hp} {k : DK} : ∀ {kvs : List (Key × V)} {ds : List (DK × D)}, RepK Y F kvs ds → (lookD k ds = none ∧ valV kvs (keyOf k) = none) ∨ ∃ d v, lookD k ds = some d ∧ valV kvs (keyOf k) = some v ∧ Rep Y F v d
  | _, _, .nil => .inl ⟨rfl, rfl⟩
  | _, _, .cons (k := j) h t => by
    by_cases hj : j = k
    · subst hj
      exact .inr ⟨_, _, by unfold lookD; rw [if_pos rfl], valV_pos rfl, h⟩
    · have hn : ¬ keyOf j = keyOf k := fun z => hj (keyOf_inj.mp z)
      rcases val_repK (k := k) t with ⟨h1, h2⟩ | ⟨d, v, h1, h2, h3⟩
      · exact .inl ⟨by unfold lookD; rw [if_neg hj]; exact h1, by rw [valV_neg hn]; exact h2⟩
      · exact .inr ⟨d, v, by unfold lookD; rw [if_neg hj]; exact h1, by rw [valV_neg hn]; exact h2, h3⟩
theorem RepT.dic {Y : Kn} {H F : Hp} {v : V} {ds : List (DK × D)} (r : RepT Y H F v (.dic ds)) (s : Sub F H) : ∃ a kvs, v = .ref a ∧ H a = some (.dK kvs) ∧ RepK Y F kvs ds := by
  rcases r with r | ⟨a, e, vs, h, r⟩
  · cases r with
    | dic h r => exact ⟨_, _, rfl, s _ _ h, r⟩
  · exact ⟨a, vs, e, h, r⟩
theorem dkD_rep {Y : Kn} {H F : Hp} {v : V} {d : D} {k : DK} (r : RepT Y H F v d) (e : dkD d = some k) : v = kV (keyOf k) := by
  unfold dkD at e
  split at e
  · cases e; exact r.int
  · cases e; obtain ⟨z, rfl, ez⟩ := r.str; subst ez; show V.str z = V.str ⟨(tl z).toArray⟩; rw [mk_tl]
  · cases e
def dGet : D → D → Option D
  | .dic kvs, y => (dkD y).bind fun k => lookD k kvs
  | _, _ => none
theorem de_dget {k : Nat} (hr : Room k X.A) (ha : DB X a ta f) (hb : DB X b tb g) (hs : NoSl b := by exact fun _ _ => rfl) : DE X (.Subscript a b pos) (tDGet ta tb) (bin2 f g dGet) := by
  refine ⟨pe_dget (hu_of hr) ha.p hb.p hs, fun σ H F ρ d Q r0 e kk => ?_⟩
  obtain ⟨x, y, e1, e2, e3⟩ := bin2_some e
  refine ha.q σ H F ρ x _ r0 e1 fun v H1 F1 x1 r1 => hb.q σ H1 F1 ρ y _ (r0.ext x1) e2 fun w H2 F2 x2 r2 => ?_
  unfold dGet at e3
  split at e3
  · obtain ⟨kk', e4, e5⟩ := Option.bind_eq_some_iff.mp e3
    obtain ⟨p, kvs, rfl, h1, rk⟩ := (r1.ext x2).dic x2.s
    have ew := dkD_rep r2 e4
    subst ew
    rcases val_repK (k := kk') rk with ⟨h2, _⟩ | ⟨d', v', h2, h3, h4⟩
    · rw [h2] at e5; cases e5
    · rw [h2] at e5
      cases e5
      exact ⟨p, v', rfl, by have := DGet.k (k := keyOf kk') h1; rw [h3] at this; exact this, kk v' H2 F2 (x1.trans x2) h4⟩
  · cases e3
def dItem (x y : D) : Option D := (dIxL x y).or (dGet x y)
def de_item {k : Nat} (hr : Room k X.A) (ha : DB X a ta f) (hb : DB X b tb g) (hs : PlainIx b := by exact fun _ _ => rfl) := (DE.alt (de_ix ha hb hs) (de_dget hr ha hb hs) (fun _ _ => rfl) : DE X (.Subscript a b pos) (eOr (tOp (rIx X.K) ta tb) (tDGet ta tb)) (bin2 f g dItem))
/-- k in d -/
def dInK : D → D → Option Bool
  | y, .dic kvs => (dkD y).map fun k => (lookD k kvs).isSome
  | _, _ => none
theorem inK_core {H F : Hp} {ρ : Reg} {σ : L2.St} {d : Bool} {k : Nat} {Q : VK} (ha : DB X a ta f) (hb : DB X b tb g) (r0 : R0 (kn X) H F σ ρ) (e : cmp2 f g dInK ρ = some d) (u : Bool → Bool)
    (kk : ∀ H' F', Ext H F H' F' → Q (.bl (u d)) H') : ta σ H fun y H1 => tb σ H1 fun x H2 => ∃ a o, x = .ref a ∧ DGet H2 a y o ∧ Q (.bl (u o.isSome)) H2 := by
  obtain ⟨x, y, e1, e2, e3⟩ := cmp2_some e
  refine ha.q σ H F ρ x _ r0 e1 fun v H1 F1 x1 r1 => hb.q σ H1 F1 ρ y _ (r0.ext x1) e2 fun w H2 F2 x2 r2 => ?_
  unfold dInK at e3
  split at e3
  · obtain ⟨kk', e4, e5⟩ := Option.map_eq_some_iff.mp e3
    obtain ⟨p, kvs, rfl, h1, rk⟩ := r2.dic x2.s
    have ew := dkD_rep r1 e4
    subst ew
    refine ⟨p, _, rfl, DGet.k (k := keyOf kk') h1, ?_⟩
    have e6 : (valV kvs (keyOf kk')).isSome = d := by
      rcases val_repK (k := kk') rk with ⟨h2, h3⟩ | ⟨d', v', h2, h3, h4⟩
      · rw [h3, ← e5, h2]; rfl
      · rw [h3, ← e5, h2]; rfl
    rw [e6]
    exact kk H2 F2 (x1.trans x2)
  · cases e3
theorem dt_inK {k : Nat} (hr : Room k X.A) (ha : DB X a ta f) (hb : DB X b tb g) (hm : behindInMarks .In b = false := by rfl) : DT X (.Compare a [.In] [b] pos) (tB (tDIn ta tb)) (cmp2 f g dInK) := by
  refine ⟨pt_cmp (pc_din (hu_of hr) ha.p hb.p) hm, fun σ H F ρ d Q r0 e kk => ?_⟩
  exact inK_core (k := 0) (Q := fun x H1 => ∃ c, x = .bl c ∧ Q c H1) ha hb r0 e id fun H' F' x => ⟨d, rfl, kk H' F' x⟩
theorem dt_notInK {k : Nat} (hr : Room k X.A) (ha : DB X a ta f) (hb : DB X b tb g) (hm : behindInMarks .NotIn b = false := by rfl) : DT X (.Compare a [.NotIn] [b] pos) (tB (tDNotIn ta tb)) (cmp2 f g fun x y => (dInK x y).map not) := by
  refine ⟨pt_cmp (pc_dnotin (hu_of hr) ha.p hb.p) hm, fun σ H F ρ d Q r0 e kk => ?_⟩
  obtain ⟨x, y, e1, e2, e3⟩ := cmp2_some e
  obtain ⟨d', e4, e5⟩ := Option.map_eq_some_iff.mp e3
  refine inK_core (k := 0) (d := d') (Q := fun x H1 => ∃ c, x = .bl c ∧ Q c H1) ha hb r0 (by unfold cmp2; rw [e1, e2]; exact e4) not fun H' F' x => ⟨d, by rw [e5], kk H' F' x⟩
theorem de_inK {k : Nat} (hr : Room k X.A) (ha : DB X a ta f) (hb : DB X b tb g) (hm : behindInMarks .In b = false := by rfl) : DE X (.Compare a [.In] [b] pos) (tDIn ta tb) (bV (cmp2 f g dInK)) := by
  refine ⟨pe_cmp (pc_din (hu_of hr) ha.p hb.p) hm, fun σ H F ρ d Q r0 e kk => ?_⟩
  obtain ⟨c, e0, e'⟩ := Option.bind_eq_some_iff.mp e
  cases e'
  exact inK_core (k := 0) (Q := Q) ha hb r0 e0 id fun H' F' x => kk _ H' F' x (.bl _)
/-- x in y, whatever y is -/
def dMem (x y : D) : Option Bool := (dIn x y).or ((dInS x y).or (dInK x y))
def dNotMem (x y : D) : Option Bool := (dMem x y).map not
theorem dNotMem_eq (x y : D) : dNotMem x y = (dNotIn x y).or ((dNotInS x y).or ((dInK x y).map not)) := by
  unfold dNotMem dMem dNotIn dNotInS
  cases dIn x y <;> cases dInS x y <;> cases dInK x y <;> rfl
def dt_mem {k : Nat} (hr : Room k X.A) (ha : DB X a ta f) (hb : DB X b tb g) (hm : behindInMarks .In b = false := by rfl) :=
  (DT.alt (dt_in ha hb hm) (DT.alt (k := fun x y => (dInS x y).or (dInK x y)) (dt_inS ha hb hm) (dt_inK hr ha hb hm) fun _ _ => rfl) (fun _ _ => rfl) : DT X (.Compare a [.In] [b] pos) _ (cmp2 f g dMem))
def dt_notMem {k : Nat} (hr : Room k X.A) (ha : DB X a ta f) (hb : DB X b tb g) (hm : behindInMarks .NotIn b = false := by rfl) :=
  (DT.alt (dt_notIn ha hb hm) (DT.alt (k := fun x y => (dNotInS x y).or ((dInK x y).map not)) (dt_notInS ha hb hm) (dt_notInK hr ha hb hm) fun _ _ => rfl) dNotMem_eq : DT X (.Compare a [.NotIn] [b] pos) _ (cmp2 f g dNotMem))
theorem DE.altB {k1 k2 k : D → D → Option Bool} (h1 : DE X e t (bV (cmp2 f g k1))) (h2 : DE X e t' (bV (cmp2 f g k2))) (hk : ∀ x y, k x y = (k1 x y).or (k2 x y)) : DE X e (eOr t t') (bV (cmp2 f g k)) := by
  have h := h1.or h2
  refine ⟨h.p, fun σ H F ρ d Q r q kk => h.q σ H F ρ d Q r ?_ kk⟩
  obtain ⟨c, e0, e'⟩ := Option.bind_eq_some_iff.mp q
  obtain ⟨x, y, e1, e2, e3⟩ := cmp2_some e0
  rw [hk] at e3
  unfold oElse bV cmp2
  rw [e1, e2]
  simp only [Option.bind_some]
  cases e4 : k1 x y with
  | some c1 => rw [e4] at e3; cases e3; exact e'
  | none => rw [e4] at e3; rw [show k2 x y = some c from e3]; exact e'
def de_mem {k : Nat} (hr : Room k X.A) (ha : DB X a ta f) (hb : DB X b tb g) (hm : behindInMarks .In b = false := by rfl) :=
  (DE.altB (de_in ha hb hm) (DE.altB (k := fun x y => (dInS x y).or (dInK x y)) (de_inS ha hb hm) (de_inK hr ha hb hm) fun _ _ => rfl) (fun _ _ => rfl) : DE X (.Compare a [.In] [b] pos) _ (bV (cmp2 f g dMem)))
/-! slices of whatever -/
def dSlice (d : D) (l u : Option Int) : Option D := (dSlL d l u).or ((dSlS d l u).or (dSlT d l u))
theorem DE.altS {fl fh : Reg → Option (Option Int)} {k1 k2 k : D → Option Int → Option Int → Option D} (h1 : DE X e t (slV f fl fh k1)) (h2 : DE X e t' (slV f fl fh k2)) (hk : ∀ d l u, k d l u = (k1 d l u).or (k2 d l u)) : DE X e (eOr t t') (slV f fl fh k) := by
  have h := h1.or h2
  refine ⟨h.p, fun σ H F ρ d Q r q kk => h.q σ H F ρ d Q r ?_ kk⟩
  obtain ⟨x, e1, q⟩ := Option.bind_eq_some_iff.mp q
  obtain ⟨l, e2, q⟩ := Option.bind_eq_some_iff.mp q
  obtain ⟨u, e3, q⟩ := Option.bind_eq_some_iff.mp q
  unfold oElse slV
  rw [e1, e2, e3]
  show (k1 x l u).or (k2 x l u) = some d
  rw [← hk]; exact q
def de_slice {lo hi : Option Expr} {tl' th : TO} {fl fh : Reg → Option (Option Int)} {p2 : Pos} (ha : DB X a ta f) (hl : DO X lo tl' fl) (hu : DO X hi th fh) :=
  (DE.altS (dn_sl ha hl hu).toE (DE.altS (k := fun d l u => (dSlS d l u).or (dSlT d l u)) (de_slS ha hl hu) (de_slT ha hl hu) fun _ _ _ => rfl) (fun _ _ _ => rfl) : DE X (.Subscript a (.Slice lo hi none p2) pos) _ (slV f fl fh dSlice))
/-! what is walked -/
def itD : D → Option (List D)
  | .lst ds => some ds
  | .tup ds => some ds
  | .str l => some (l.map fun c => .str [c])
  | _ => none
def itV (f : Reg → Option D) : Reg → Option (List D) := fun ρ => (f ρ).bind itD
theorem di_any {tg : Expr} (he : DE X e te f) : DI X tg e (fun σ H R => iList X.K te σ H R ∨ (iTup X.K te σ H R ∨ iStr te σ H R)) (itV f) := by
  have h := di_seq (di_list (tg := tg) he) (di_seq (di_tup he) (di_str he))
  refine ⟨h.p, fun σ H F ρ ds R r q k => h.q σ H F ρ ds R r ?_ k⟩
  obtain ⟨d, e1, e2⟩ := Option.bind_eq_some_iff.mp q
  show ((f ρ).bind lstD).or (((f ρ).bind tupD).or ((f ρ).bind strD)) = some ds
  rw [e1]
  simp only [Option.bind_some]
  cases d with
  | lst ds' => exact e2
  | tup ds' => exact e2
  | str l => exact e2
  | _ => cases e2
/-! a comparison of three -/
def chn (f g h : Reg → Option D) (k1 k2 : D → D → Option Bool) : Reg → Option Bool := fun ρ => (f ρ).bind fun x => (g ρ).bind fun y => (k1 x y).bind fun c => if c then (h ρ).bind fun z => k2 y z else some false
theorem chain_ev {r r' : R2} {k1 k2 : D → D → Option Bool} (h1 : RdT (kn X) r k1) (h2 : RdT (kn X) r' k2) (ha : DB X a ta f) (hb : DB X b tb g) (hc : DB X c tc h) {σ : L2.St} {H F : Hp} {ρ : Reg} {d : Bool} {Q : VK} (r0 : R0 (kn X) H F σ ρ) (e : chn f g h k1 k2 ρ = some d)
    (kk : ∀ H' F', Ext H F H' F' → Q (.bl d) H') : tChain r r' ta tb tc σ H Q := by
  obtain ⟨x, e1, e⟩ := Option.bind_eq_some_iff.mp e
  obtain ⟨y, e2, e⟩ := Option.bind_eq_some_iff.mp e
  obtain ⟨c, e3, e⟩ := Option.bind_eq_some_iff.mp e
  refine ha.q σ H F ρ x _ r0 e1 fun v H1 F1 x1 r1 => hb.q σ H1 F1 ρ y _ (r0.ext x1) e2 fun w H2 F2 x2 r2 => ?_
  refine h1 H2 F2 v w x y c _ x2.s (r1.ext x2) r2 e3 ⟨c, rfl, ?_⟩
  cases c with
  | false => cases e; exact iteF (kk H2 F2 (x1.trans x2))
  | true =>
    obtain ⟨z, e4, e5⟩ := Option.bind_eq_some_iff.mp (show ((h ρ).bind fun z => k2 y z) = some d from e)
    exact iteT (hc.q σ H2 F2 ρ z _ (r0.ext (x1.trans x2)) e4 fun u H3 F3 x3 r3 => h2 H3 F3 w u y z d _ x3.s (r2.ext x3) r3 e5 (kk H3 F3 (x1.trans (x2.trans x3))))
theorem de_chain {op op' : CmpOp} {r r' : R2} {k1 k2 : D → D → Option Bool} (o1 : OpR X (compareOp op) r) (o2 : OpR X (compareOp op') r') (h1 : RdT (kn X) r k1) (h2 : RdT (kn X) r' k2) (ha : DB X a ta f) (hb : DB X b tb g) (hc : DB X c tc h) (hm : behindInMarks op' c = false := by rfl) :
    DE X (.Compare a [op, op'] [b, c] pos) (tChain r r' ta tb tc) (bV (chn f g h k1 k2)) := by
  refine ⟨pe_chain o1 o2 ha.p hb.p hc.p hm, fun σ H F ρ d Q r0 e kk => ?_⟩
  obtain ⟨c, e0, e'⟩ := Option.bind_eq_some_iff.mp e
  cases e'
  exact chain_ev h1 h2 ha hb hc r0 e0 fun H' F' x => kk _ H' F' x (.bl _)
theorem dt_chain {op op' : CmpOp} {r r' : R2} {k1 k2 : D → D → Option Bool} (o1 : OpR X (compareOp op) r) (o2 : OpR X (compareOp op') r') (h1 : RdT (kn X) r k1) (h2 : RdT (kn X) r' k2) (ha : DB X a ta f) (hb : DB X b tb g) (hc : DB X c tc h) (hm : behindInMarks op' c = false := by rfl) :
    DT X (.Compare a [op, op'] [b, c] pos) (fun σ H Q => tChain r r' ta tb tc σ H fun x H1 => ∃ k, x = .bl k ∧ Q k H1) (chn f g h k1 k2) := by
  refine ⟨pt_chain o1 o2 ha.p hb.p hc.p hm, fun σ H F ρ d Q r0 e kk => ?_⟩
  exact chain_ev (Q := fun x H1 => ∃ c, x = .bl c ∧ Q c H1) h1 h2 ha hb hc r0 e fun H' F' x => ⟨d, rfl, kk H' F' x⟩
end
/-! ### slots frozen; a comprehension given to a name -/
section
variable {X : Cx} {st : Stmt} {t : TS} {B : Reg → Out} {tg iter : Expr} {pos : Pos}
theorem EvN.toE {Y : Kn} {t : TE} {f : Reg → Option D} (h : EvN Y t f) : EvE Y t f := fun σ H F ρ d Q r e k => h σ H F ρ d Q r e fun a H' F' x n0 n1 o => by
  refine k (.ref a) H' (frz1 H' F' a) ⟨x.h, x.f.trans (frz1_sub n1), frz1_in x.s, fun b u hb nb => ?_⟩ (o.rep (frz1_sub n1) (if_pos rfl))
  unfold frz1
  by_cases hh : b = a
  · subst hh; rw [n0] at hb; cases hb
  · rw [if_neg hh]; exact x.n b u hb nb
theorem asg_ev {Y : Kn} {te : TE} {f : Reg → Option D} (h : EvE Y te f) (i : Nat) : EvS Y (tAsg te (gName i)) (setS i f) := fun σ H F ρ H0 F0 D s k => by
  unfold setS at k
  cases q : f ρ with
  | none => rw [q] at k; exact k.elim
  | some d =>
    rw [q] at k
    exact h σ H F ρ d _ s.r q fun v H' F' x r => k _ H' F' ((s.ext x).setF i r)
theorem asgN_ev {Y : Kn} {te : TE} {f : Reg → Option D} (h : EvN Y te f) (i : Nat) : EvS Y (tAsg te (gName i)) (setN i f) := fun σ H F ρ H0 F0 D s k => by
  unfold setN at k
  cases q : f ρ with
  | none => rw [q] at k; exact k.elim
  | some d =>
    rw [q] at k
    exact h σ H F ρ d _ s.r q fun a H' F' x n0 n1 o => k _ H' F' (s.setO x i n0 n1 o)
theorem ds_setLc (i : Nat) {y : Str} {py spos : Pos} {elt : Expr} {ifs : List Expr} {scope : Scope} (own : List (Str × Nat)) {wi : TI} {fs : Reg → Option (List D)} {h : D → Reg → Option Reg} {is : List Nat} {fc : Reg → Option Bool} {f : Reg → Option D} (hc : X.calm = true) (hN : X.N.Nodup)
    (hi : DI X tg iter wi fs) (hg : ∀ (s : Shared) (H : Hp) (C : Addr) (cl : List (Str × Addr)) (fp : List Addr), ∃ g, DG (X.blk s H scope (compEnvC scope cl C X.env) fp) tg g h is) (ht : ∀ (s : Shared) (H : Hp) (C : Addr) (cl : List (Str × Addr)) (fp : List Addr), ∃ tt, DTs (X.blk s H scope (compEnvC scope cl C X.env) fp) ifs tt fc) (he : ∀ (s : Shared) (H : Hp) (C : Addr) (cl : List (Str × Addr)) (fp : List Addr), ∃ te, DE (X.blk s H scope (compEnvC scope cl C X.env) fp) elt te f)
    (hy : X.N[i]? = some y := by rfl) (hyl : X.env.scope.names.lookup y = some .local := by rfl) (hsw : swapsWith (.ListComp elt [⟨tg, iter, ifs, 0⟩] scope pos) (some (.Name y py)) spos.line X.env = pure true := by exact sw_true rfl rfl rfl (by decide +kernel))
    (ok : BlkOk X.N X.env.scope scope own) (hv : ∀ j, j ∈ is → j ∈ own.map (·.2) := by simp) (hs : ∀ x, foldedSetIterable iter X.env x = pure x := by intro _; rfl) :
    DS X (.Assign [.Name y py] (.ListComp elt [⟨tg, iter, ifs, 0⟩] scope pos) spos) (tAsg (tLc wi (tGc (kn X) h is) (tTc (kn X) fc) (tEc (kn X) f) (own.map (·.2))) (gName i)) (setS i (lcV fs h fc f (own.map (·.2)))) :=
  ⟨ps_setLc hc hN hy hyl hsw hi.p ok (fun s H C cl fp => (hg s H C cl fp).elim fun _ z => z.can) (fun s H C cl fp => (ht s H C cl fp).elim fun _ z => z.can) (fun s H C cl fp => (he s H C cl fp).elim fun _ z => z.can) hs,
    asg_ev (lc_ev hi.q (fun v d σ H F ρ ρ' Q r r1 q k => ⟨F, ρ, ρ', d, r, r1, q, k⟩) tTc_ev tEc_ev hv).toE i⟩
theorem ds_setLcN (i : Nat) {y : Str} {py spos : Pos} {elt : Expr} {ifs : List Expr} {scope : Scope} (own : List (Str × Nat)) {wi : TI} {fs : Reg → Option (List D)} {h : D → Reg → Option Reg} {is : List Nat} {fc : Reg → Option Bool} {f : Reg → Option D} (hc : X.calm = true) (hN : X.N.Nodup)
    (hi : DI X tg iter wi fs) (hg : ∀ (s : Shared) (H : Hp) (C : Addr) (cl : List (Str × Addr)) (fp : List Addr), ∃ g, DG (X.blk s H scope (compEnvC scope cl C X.env) fp) tg g h is) (ht : ∀ (s : Shared) (H : Hp) (C : Addr) (cl : List (Str × Addr)) (fp : List Addr), ∃ tt, DTs (X.blk s H scope (compEnvC scope cl C X.env) fp) ifs tt fc) (he : ∀ (s : Shared) (H : Hp) (C : Addr) (cl : List (Str × Addr)) (fp : List Addr), ∃ te, DE (X.blk s H scope (compEnvC scope cl C X.env) fp) elt te f)
    (hy : X.N[i]? = some y := by rfl) (hyl : X.env.scope.names.lookup y = some .local := by rfl) (hsw : swapsWith (.ListComp elt [⟨tg, iter, ifs, 0⟩] scope pos) (some (.Name y py)) spos.line X.env = pure true := by exact sw_true rfl rfl rfl (by decide +kernel))
    (ok : BlkOk X.N X.env.scope scope own) (hv : ∀ j, j ∈ is → j ∈ own.map (·.2) := by simp) (hs : ∀ x, foldedSetIterable iter X.env x = pure x := by intro _; rfl) :
    DS X (.Assign [.Name y py] (.ListComp elt [⟨tg, iter, ifs, 0⟩] scope pos) spos) (tAsg (tLc wi (tGc (kn X) h is) (tTc (kn X) fc) (tEc (kn X) f) (own.map (·.2))) (gName i)) (setN i (lcV fs h fc f (own.map (·.2)))) :=
  ⟨ps_setLc hc hN hy hyl hsw hi.p ok (fun s H C cl fp => (hg s H C cl fp).elim fun _ z => z.can) (fun s H C cl fp => (ht s H C cl fp).elim fun _ z => z.can) (fun s H C cl fp => (he s H C cl fp).elim fun _ z => z.can) hs,
    asgN_ev (lc_ev hi.q (fun v d σ H F ρ ρ' Q r r1 q k => ⟨F, ρ, ρ', d, r, r1, q, k⟩) tTc_ev tEc_ev hv) i⟩
end
/-! ### defs by their names -/
/-- the def of this name stands in the module -/
def Here (K : PySem.W.Frag) (mg : Str → Option Value) (x : Str) (st : Stmt) (ps : List Str) : Prop := ∃ f fd, Fun K x x st f fd ∧ mg x = some (.ref f) ∧ Binds K fd ps []
/-- it keeps its promise -/
def NameOk (P : Program) (w : World) (K : PySem.W.Frag) (mg : Str → Option Value) (base : Heap) (k : Nat) (x : Str) (n : Nat) (m : List D → Option D) : Prop :=
  ∃ f fd ps, FnOk P w K mg base CX0 k f fd ps (spD ⟨K, mg⟩ n m) ∧ mg x = some (.ref f) ∧ PySem.W.keepIn K (.ref f) = true ∧ Binds K fd ps []
section
variable {P : Program} {w : World} {K : PySem.W.Frag} {mg : Str → Option Value} {base : Heap} {x : Str} {st : Stmt} {N ps : List Str} {k : Nat} {B : Reg → Out} {m : List D → Option D}
theorem name_data (h : Here K mg x st ps) (sc : FnScope N ps (defScope st)) (hm : ∀ ds d, ds.length = ps.length → m ds = some d → fin (B (startR N.length ds)) = some d)
    (hB : ∀ (f : Addr) (cdv : Value) (A : Around) (outer : List PySem.Env) (s : Shared) (H : Hp) (E : XK), Room k (A.deeper (envOfC x (defScope st) s.heap.objs.size f cdv)) → ∃ t, DSs (cxOf CX0 P w K mg base N x (defScope st) f cdv A outer s H E).nox (defBody st) t B) :
    NameOk P w K mg base (k + 1) x ps.length m := by
  obtain ⟨f, fd, F, hg, hb⟩ := h
  exact ⟨f, fd, ps, fn_data F sc hm (hB f), hg, F.kp, hb⟩
theorem name_nil (h : Here K mg x st ps) {n : Nat} : NameOk P w K mg base k x n fun _ => none := by
  obtain ⟨f, fd, F, hg, hb⟩ := h
  exact ⟨f, fd, ps, fn_nil, hg, F.kp, hb⟩
theorem de_callN {X : Cx} {j n k : Nat} {m : List D → Option D} {e : Expr} {es : List Expr} {p pos : Pos} {ta : TA} {fs : Reg → Option (List D)} (G : NameOk P w K mg base j x n m) (hr : Room k X.A) (ha : DA X (e :: es) ta fs) (hj : j ≤ k := by decide) (hn : (e :: es).length = n := by rfl) (hg : Gl X x := by rfl) (hdb : (x == ("__debug__" : Str)) = false := by decide)
    (he : starEach (e :: es) X.env = (false, eval e X.env) :: starEach es X.env := by rfl) (hpl : (backTo pos (starEach es X.env)).any (·.1) = false := by rfl)
    (hP : X.prog = P := by rfl) (hw : X.w = w := by rfl) (hK : X.K = K := by rfl) (hmg : X.mg = mg := by rfl) (hbs : X.base = base := by rfl) : DE X (.Call (.Name x p) (e :: es) [] pos) (tCall (spD ⟨K, mg⟩ n m) [] E0 ta) (callV m fs) := by
  subst hP hw hK hmg hbs
  obtain ⟨f, fd, ps, h1, h2, h3, h4⟩ := G
  exact de_call h1 (hr.mono hj) h2 h3 h4 ha hn hg hdb he hpl
end
end DL

/-! DL, more: f-strings, str(x), min, max, range with a step, extend, zip, == of data of any depth, sorted pairs. -/
namespace DL
open PySem PySem.Spec PyProof.Rows L2
open TL (tl len_tl ext_tl tl_append tl_mk mk_tl map_tl_inj tl_ofString)
section
variable {X : Cx} {a b c e : Expr} {es : List Expr} {f g h : Reg → Option D} {ta tb tc t te : TE} {pos : Pos} {tA tB' : TT} {p q : Reg → Option Bool} {rest : List Expr}
/-! ### texts of ints; f-strings -/
def intL (i : Int) : List Nat := lit (toString i)
def dStr : D → Option D
  | .str l => if l.length ≤ sizeLine then some (.str l) else none
  | .int i => if i.natAbs.log2 < 1920 then some (.str (intL i)) else none
  | _ => none
theorem rep_intL {Y : Kn} {F : Hp} (i : Int) : Rep Y F (.str (Str.ofString (toString i))) (.str (intL i)) := rep_lit _
theorem rc_str {Y : Kn} : RcE Y (fun xs H Q => (∃ i, xs = [.int i] ∧ i.natAbs.log2 < 1920 ∧ Q (.str (toString i)) H) ∨ ∃ z, xs = [.str z] ∧ Q (.str z) H) dStr := by
  intro H F x da d Q s rx e k
  unfold dStr at e
  split at e
  · split at e
    · cases e
      obtain ⟨z, rfl, ez⟩ := rx.str
      subst ez
      exact .inr ⟨z, rfl, k _ H F (.refl s) (.str z)⟩
    · cases e
  · split at e
    · rename_i hz
      cases e
      exact .inl ⟨_, by rw [rx.int], hz, k _ H F (.refl s) (rep_intL _)⟩
    · cases e
  · cases e
theorem CallR.or' {c : Value} {r1 r2 : List V → Hp → VK → Prop} (h1 : CallR X c r1) (h2 : CallR X c r2) : CallR X c (fun xs H Q => r1 xs H Q ∨ r2 xs H Q) := by
  intro pins s σ H xs us Q I r h
  rcases h with h | h
  · exact h1 pins s σ H xs us Q I r h
  · exact h2 pins s σ H xs us Q I r h
theorem str_str' : CallR X (.type "str") (fun xs H Q => ∃ z, xs = [.str z] ∧ Q (.str z) H) := SkE.call_str_str
def de_toStr {p : Pos} (hm : X.mg "str" = none) (ha : DB X a ta f) (hg : Gl X "str" := by rfl) (hs : starEach [a] X.env = (false, eval a X.env) :: starEach [] X.env := by rfl) (hpl : (backTo pos (starEach [] X.env)).any (·.1) = false := by rfl) :=
  (de_callT (CallR.or' call_str_int str_str') rc_str hm (by decide +kernel) ha hg (by decide) (by decide) hs hpl : DE X (.Call (.Name "str" p) [a] [] pos) (tCB _ (tCons ta tNil)) (un1 f dStr))
theorem de_fmt (ha : DB X a ta f) : DE X (.FormattedValue a (-1) none pos) (tFmt ta) (un1 f dStr) := by
  refine ⟨pe_fmt ha.p, fun σ H F ρ d Q r0 e k => ?_⟩
  obtain ⟨d1, e1, e2⟩ := Option.bind_eq_some_iff.mp e
  refine ha.q σ H F ρ d1 _ r0 e1 fun v H' F' x' rv => ?_
  unfold dStr at e2
  split at e2
  · split at e2
    · rename_i hz
      cases e2
      obtain ⟨z, rfl, ez⟩ := rv.str
      subst ez
      exact .inl ⟨z, rfl, by have := len_tl z; omega, k _ H' F' x' (.str z)⟩
    · cases e2
  · split at e2
    · rename_i hz
      cases e2
      exact .inr ⟨_, rv.int, hz, k _ H' F' x' (rep_intL _)⟩
    · cases e2
  · cases e2
/-- the parts of an f-string -/
structure DJ (X : Cx) (es : List Expr) (ts : List TE) (fs : Reg → Option (List (List Nat))) : Prop where
  p : PJ X es ts
  q : ∀ (σ : L2.St) (H F : Hp) (ρ : Reg) (ls : List (List Nat)) (acc : Str) (Q : Str → Hp → Prop), R0 (kn X) H F σ ρ → fs ρ = some ls → (tl acc).length + (ls.map List.length).sum ≤ sizeLine → (∀ z H' F', Ext H F H' F' → tl z = tl acc ++ ls.flatten → Q z H') → tJs ts acc σ H Q
theorem dj_nil : DJ X [] [] (fun _ => some []) := ⟨.nil, fun σ H F ρ ls acc Q r e hz k => by cases e; exact k acc H F (.refl r.sub) (by simp)⟩
def consJ (f : Reg → Option D) (fs : Reg → Option (List (List Nat))) : Reg → Option (List (List Nat)) := fun ρ => (f ρ).bind fun d => (strL d).bind fun l => (fs ρ).bind fun ls => some (l :: ls)
theorem dj_cons {ts : List TE} {fs : Reg → Option (List (List Nat))} (he : DE X e te f) (hr : DJ X es ts fs) : DJ X (e :: es) (te :: ts) (consJ f fs) := by
  refine ⟨.cons he.p hr.p, fun σ H F ρ ls acc Q r e0 hz k => ?_⟩
  obtain ⟨d, e1, e0⟩ := Option.bind_eq_some_iff.mp e0
  obtain ⟨l, e2, e0⟩ := Option.bind_eq_some_iff.mp e0
  obtain ⟨ms, e3, e0⟩ := Option.bind_eq_some_iff.mp e0
  cases e0
  unfold strL at e2
  split at e2
  · cases e2
    refine he.q σ H F ρ _ _ r e1 fun v H1 F1 x1 r1 => ?_
    cases r1 with
    | str z =>
      rw [List.map_cons, List.sum_cons] at hz
      have ez : tl (acc ++ z) = tl acc ++ tl z := tl_append acc z
      refine ⟨z, rfl, ?_, hr.q σ H1 F1 ρ ms (acc ++ z) Q (r.ext x1) e3 ?_ fun w H2 F2 x2 ew => k w H2 F2 (x1.trans x2) ?_⟩
      · have el := len_tl (acc ++ z)
        rw [ez, List.length_append] at el
        omega
      · rw [ez, List.length_append]; omega
      · rw [ew, ez, List.flatten_cons, List.append_assoc]
  · cases e2
def joinedV (fs : Reg → Option (List (List Nat))) : Reg → Option D := fun ρ => (fs ρ).bind fun ls => if (ls.map List.length).sum ≤ sizeLine then some (.str ls.flatten) else none
theorem de_joined {v1 v2 : Expr} {ts : List TE} {fs : Reg → Option (List (List Nat))} (hr : DJ X (v1 :: v2 :: rest) ts fs) : DE X (.JoinedStr (v1 :: v2 :: rest) pos) (fun σ H Q => tJs ts Str.empty σ H fun out H1 => Q (.str out) H1) (joinedV fs) := by
  refine ⟨pe_joined hr.p, fun σ H F ρ d Q r e k => ?_⟩
  obtain ⟨ls, e1, e2⟩ := Option.bind_eq_some_iff.mp e
  split at e2
  · rename_i hz
    cases e2
    refine hr.q σ H F ρ ls Str.empty _ r e1 (by rw [show tl Str.empty = [] from rfl]; simpa using hz) fun z H' F' x ez => ?_
    have e3 : tl z = ls.flatten := ez.trans (List.nil_append _)
    rw [← e3] at k
    exact k _ H' F' x (.str z)
  · cases e2
/-! ### min, max of two -/
def RaE (Y : Kn) (r : List V → Hp → VK → Prop) (g : List D → Option D) : Prop := ∀ (H F : Hp) (vs : List V) (ds : List D) (d : D) (Q : VK), Sub F H → Reps Y F vs ds → g ds = some d → (∀ v H' F', Ext H F H' F' → Rep Y F' v d → Q v H') → r vs H Q
def fnV (fs : Reg → Option (List D)) (g : List D → Option D) : Reg → Option D := fun ρ => (fs ρ).bind g
theorem de_callBs {id : String} {x : Str} {r : List V → Hp → VK → Prop} {g : List D → Option D} {p : Pos} {ts : TA} {fs : Reg → Option (List D)} (hc : CallR X (.builtin id) r) (hr : RaE (kn X) r g) (hm : X.mg x = none) (hv : bootBuiltins x = some (.builtin id)) (ha : DA X (a :: es) ts fs) (hg : Gl X x := by rfl) (hn : x ≠ "__name__" := by decide) (hdb : (x == ("__debug__" : Str)) = false := by decide)
    (hs : starEach (a :: es) X.env = (false, eval a X.env) :: starEach es X.env := by rfl) (hpl : (backTo pos (starEach es X.env)).any (·.1) = false := by rfl) : DE X (.Call (.Name x p) (a :: es) [] pos) (tCB r ts) (fnV fs g) := by
  refine ⟨pe_callB hc hg hm hv ha.p hn hdb hs hpl, fun σ H F ρ d Q r0 e k => ?_⟩
  obtain ⟨d1, e1, e2⟩ := Option.bind_eq_some_iff.mp e
  exact ha.q σ H F ρ d1 _ r0 e1 fun v H' F' x' rv => hr H' F' v d1 d Q x'.s rv e2 fun u H2 F2 x2 r2 => k u H2 F2 (x'.trans x2) r2
def dMin : List D → Option D
  | [.int i, .int j] => some (.int (if j < i then j else i))
  | _ => none
def dMax : List D → Option D
  | [.int i, .int j] => some (.int (if j > i then j else i))
  | _ => none
theorem ra_min {Y : Kn} : RaE Y (fun xs H Q => ∃ i j, xs = [.int i, .int j] ∧ Q (.int (if j < i then j else i)) H) dMin := by
  intro H F vs ds d Q s rv e k
  unfold dMin at e
  split at e
  · cases e
    cases rv with
    | cons a b => cases b with
      | cons c d => cases d; cases a; cases c; exact ⟨_, _, rfl, k _ H F (.refl s) (.int _)⟩
  · cases e
theorem ra_max {Y : Kn} : RaE Y (fun xs H Q => ∃ i j, xs = [.int i, .int j] ∧ Q (.int (if j > i then j else i)) H) dMax := by
  intro H F vs ds d Q s rv e k
  unfold dMax at e
  split at e
  · cases e
    cases rv with
    | cons a b => cases b with
      | cons c d => cases d; cases a; cases c; exact ⟨_, _, rfl, k _ H F (.refl s) (.int _)⟩
  · cases e
def de_min {p : Pos} {ts : TA} {fs : Reg → Option (List D)} (hcm : X.calm = true) (hm : X.mg "min" = none) (ha : DA X [a, b] ts fs) (hg : Gl X "min" := by rfl) (hs : starEach [a, b] X.env = (false, eval a X.env) :: starEach [b] X.env := by rfl) (hpl : (backTo pos (starEach [b] X.env)).any (·.1) = false := by rfl) :=
  (de_callBs (call_min2 hcm) ra_min hm (by decide +kernel) ha hg (by decide) (by decide) hs hpl : DE X (.Call (.Name "min" p) [a, b] [] pos) (tCB _ ts) (fnV fs dMin))
def de_max {p : Pos} {ts : TA} {fs : Reg → Option (List D)} (hcm : X.calm = true) (hm : X.mg "max" = none) (ha : DA X [a, b] ts fs) (hg : Gl X "max" := by rfl) (hs : starEach [a, b] X.env = (false, eval a X.env) :: starEach [b] X.env := by rfl) (hpl : (backTo pos (starEach [b] X.env)).any (·.1) = false := by rfl) :=
  (de_callBs (call_max2 hcm) ra_max hm (by decide +kernel) ha hg (by decide) (by decide) hs hpl : DE X (.Call (.Name "max" p) [a, b] [] pos) (tCB _ ts) (fnV fs dMax))
/-! ### x.extend(new list) -/
def extS (i : Nat) (f : Reg → Option D) : Reg → Out := fun ρ => match owAt ρ i, f ρ with
  | some (.lst ds), some (.lst es) => if ds.length + es.length ≤ sizeLine then .nx (ρ.set i (.ow (.lst (ds ++ es)))) else .bad
  | _, _ => .bad
theorem ds_extend (i : Nat) {x : Str} {xp apos cpos : Pos} (he : DN X e te f) (hN : X.N[i]? = some x := by rfl) (hv : Vis X.env.scope x := by first | exact Or.inl rfl | exact Or.inr (Or.inl rfl) | exact Or.inr (Or.inr rfl))
    (hd : (x == ("__debug__" : Str)) = false := by decide) (hcd : (x == ("__classdict__" : Str)) = false := by decide)
    (hbase : attributeBase (.Name x xp) "extend" X.env (eval (.Name x xp) X.env) = eval (.Name x xp) X.env := by rfl)
    (hfew : ((backTo cpos (starEach [e] X.env)).all (fun x => !x.1) && (backToKw cpos (keywordEach [] X.env)).all (fun x => x.1.isSome) && decide (([e] : List Expr).length + ([] : List Keyword).length + (if ([] : List Keyword).isEmpty then 0 else 1) < 30)) = true := by rfl)
    (hline : (apos.endLine == cpos.line) = true := by rfl) (hs : starEach [e] X.env = (false, eval e X.env) :: starEach [] X.env := by rfl) (hplain : (backTo cpos (starEach [] X.env)).any (·.1) = false := by rfl)
    (hsw : swapsWith (.Call (.Attribute (.Name x xp) "extend" apos) [e] [] cpos) none pos.line X.env = pure false := by rfl) :
    DS X (.Expr (.Call (.Attribute (.Name x xp) "extend" apos) [e] [] cpos) pos) (tDrop (tBM X.K "list" rExtend (tVar i) (tCons te tNil))) (extS i f) := by
  refine ⟨ps_expr (pe_bm PySem.F.plainAttrs_list PySem.F.slot_list_extend PySem.F.type_list_extend mt_extend (pe_var hN hv hd hcd) (pa_cons he.p pa_nil hs) hbase hfew hline hs hplain) hsw, fun σ H F ρ H0 F0 D s k => ?_⟩
  unfold extS at k
  split at k
  · rename_i ds es e1 e2
    split at k
    · rename_i hz
      obtain ⟨a, g1, g2, g3, g4⟩ := s.r.ow e1
      obtain ⟨vs, h1, r1⟩ := _root_.id g3
      refine ⟨.ref a, g1, .inl ⟨rfl, vs, .inl (.inl h1)⟩, he.q σ H F ρ _ _ s.r e2 fun b H' F' x' n0 n1 o => ?_⟩
      have h2 : H' a = some (.lst vs) := x'.h _ _ h1
      have n2 : F' a = none := x'.n _ _ h1 g2
      obtain ⟨ws, h3, r3⟩ := _root_.id o
      exact ⟨a, b, vs, ws, rfl, rfl, h2, h3, by rw [r1.length, r3.length]; exact hz, k σ _ F' ((s.ext x').mutO g4 g1 n2 ⟨vs ++ ws, upd_same, (r1.mono x'.f).append r3⟩)⟩
    · exact k.elim
  · exact k.elim
/-! ### range with a step above nought -/
def rngC (lo c : Int) (n : Nat) : List D := (List.range n).map fun k => .int (lo + (k : Nat) * c)
def stepN (i j c : Int) : Nat := if i < j then ((j - i - 1) / c + 1).toNat else 0
def rng3 (f : Reg → Option (List D)) : Reg → Option (List D) := fun ρ => (f ρ).bind fun
  | [.int i, .int j, .int c] => if (-(2 ^ 61) ≤ i ∧ i < 2 ^ 61 ∧ -(2 ^ 61) ≤ j ∧ j < 2 ^ 61) ∧ 0 < c ∧ c < 1000000 then some (rngC i c (stepN i j c)) else none
  | _ => none
theorem wlk_rangeC {Y : Kn} {F1 : Hp} {lo c : Int} {n : Nat} {ds : List D} (h : ds = rngC lo c n) : Wlk Y (Itc lo c n) F1 ds := by
  subst h
  unfold rngC
  refine ⟨fun i H F hi h1 h2 => ?_, fun H F h1 h2 => ?_, fun i H F x H' d e h1 h2 y => ?_⟩
  · show i < n
    simpa using hi
  · show n ≤ _
    simp
  · obtain ⟨rfl, rfl⟩ := y
    refine ⟨F, .refl h2, ?_⟩
    rw [List.getElem?_map] at e
    obtain ⟨k, h3, h4⟩ := Option.map_eq_some_iff.mp e
    have h5 : k = i := by
      have := List.getElem?_eq_some_iff.mp h3
      obtain ⟨a, b⟩ := this
      simpa using b.symm
    subst h5
    rw [← h4]
    exact .int _
theorem rangeSize_step {i j c : Int} (h0 : 0 < c) : Builtin.Range.rangeSize i j c = (stepN i j c : Nat) := by
  unfold Builtin.Range.rangeSize stepN
  rw [if_pos h0]
  by_cases h : i < j
  · rw [if_pos h, if_pos h]
    have : 0 ≤ (j - i - 1) / c := Int.ediv_nonneg (by omega) (by omega)
    omega
  · rw [if_neg h, if_neg h]; rfl
theorem small_step {i j c : Int} (hb : -(2 ^ 61) ≤ i ∧ i < 2 ^ 61 ∧ -(2 ^ 61) ≤ j ∧ j < 2 ^ 61) (h0 : 0 < c) (h1 : c < 1000000) : Builtin.Range.small i j c = true := by
  unfold Builtin.Range.small
  rw [rangeSize_step h0]
  unfold stepN
  simp only [Builtin.Range.rangeFitsLong, Bool.and_eq_true, Bool.or_eq_true, decide_eq_true_eq, beq_iff_eq, h0, if_true]
  have : (j - i - 1) / c ≤ (j - i - 1) ∨ j - i - 1 < 0 := by
    by_cases h : j - i - 1 < 0
    · exact .inr h
    · exact .inl (Int.ediv_le_self _ (by omega))
  have h2 : 0 < c := h0
  split <;> omega
theorem di_range3 {tg : Expr} {fs : Reg → Option (List D)} {ts : TA} {p : Pos} (hm : X.mg "range" = none) (ha : DA X [a, b, c] ts fs) (hg : Gl X "range" := by rfl)
    (hs : starEach [a, b, c] X.env = (false, eval a X.env) :: starEach [b, c] X.env := by rfl) (hpl : (backTo pos (starEach [b, c] X.env)).any (·.1) = false := by rfl) : DI X tg (.Call (.Name "range" p) [a, b, c] [] pos) (iRng3 ts) (rng3 fs) := by
  refine ⟨pi_range3 hg hm ha.p hs hpl, fun σ H F ρ ds R r q k => ?_⟩
  obtain ⟨es, e1, e2⟩ := Option.bind_eq_some_iff.mp q
  refine ha.q σ H F ρ es _ r e1 fun vs H' F' x rv => ?_
  split at e2
  · rename_i i j c
    split at e2
    · rename_i hb
      cases e2
      cases rv with
      | cons a b =>
        cases b with
        | cons c d =>
          cases d with
          | cons d e =>
            cases e
            cases a
            cases c
            cases d
            exact ⟨i, j, _, stepN i j _, rfl, ⟨by omega, by omega, small_step hb.1 hb.2.1 hb.2.2, rangeSize_step hb.2.1⟩, k _ H' F' x (wlk_rangeC rfl)⟩
    · cases e2
  · cases e2
/-! ### == of data of any depth -/
mutual
def toP : D → PyData
  | .non => .none
  | .bl b => .bool b
  | .int i => .int i
  | .str l => .str ⟨l.toArray⟩
  | .lst ds => .list (toPs ds)
  | .tup ds => .tuple (toPs ds)
  | .dic _ => .none
  | .obj _ _ => .none
def toPs : List D → List PyData
  | [] => []
  | d :: ds => toP d :: toPs ds
end
mutual
/-- data that == walks: texts of code points, at most n deep -/
def okD : Nat → D → Bool
  | _, .non => true
  | _, .bl _ => true
  | _, .int _ => true
  | _, .str l => l.all (· < 0x110000)
  | 0, .lst _ => false
  | n + 1, .lst ds => okDs n ds
  | 0, .tup _ => false
  | n + 1, .tup ds => okDs n ds
  | _, .dic _ => false
  | _, .obj _ _ => false
def okDs : Nat → List D → Bool
  | _, [] => true
  | n, d :: ds => okD n d && okDs n ds
end
mutual
theorem dp_of {Y : Kn} {F H : Hp} (s : Sub F H) : ∀ {n : Nat} {v : V} {d : D}, Rep Y F v d → okD n d = true → Dp Y.K H v (toP d)
  | _, _, _, .non, _ => by unfold toP; exact .non
  | _, _, _, .bl b, _ => by unfold toP; exact .bl b
  | _, _, _, .int i, _ => by unfold toP; exact .int i
  | _, _, _, .str z, _ => by unfold toP; rw [mk_tl]; exact .str z
  | 0, _, _, .lst h r, e => by simp [okD] at e
  | n + 1, _, _, .lst h r, e => by unfold toP; exact .lst (sqL_sub s h) (dps_of (n := n) s r (by simpa [okD] using e))
  | 0, _, _, .tup h r, e => by simp [okD] at e
  | n + 1, _, _, .tup h r, e => by unfold toP; exact .tup (sqT_sub s h) (dps_of (n := n) s r (by simpa [okD] using e))
  | _, _, _, .dic _ _, e => by simp [okD] at e
  | _, _, _, .obj _ _ _ _, e => by simp [okD] at e
theorem dps_of {Y : Kn} {F H : Hp} (s : Sub F H) : ∀ {n : Nat} {vs : List V} {ds : List D}, Reps Y F vs ds → okDs n ds = true → DpAll Y.K H vs (toPs ds)
  | _, _, _, .nil, _ => by unfold toPs; exact .nil
  | n, _, _, .cons h t, e => by
    unfold toPs
    have e2 := Bool.and_eq_true_iff.mp (show (okD n _ && okDs n _) = true by simpa [okDs] using e)
    exact .cons (dp_of s h e2.1) (dps_of s t e2.2)
end
mutual
theorem lay_of : ∀ {n : Nat} {d : D}, okD n d = true → (toP d).canLay0 = true ∧ (toP d).depth ≤ n
  | _, .non, _ => by simp [toP, PyData.canLay0, PyData.depth]
  | _, .bl b, _ => by simp [toP, PyData.canLay0, PyData.depth]
  | _, .int i, _ => by simp [toP, PyData.canLay0, PyData.depth]
  | _, .str z, e => by
    simp only [okD] at e
    simp only [toP, PyData.canLay0, PyData.depth, PyData.strOk]
    refine ⟨?_, Nat.zero_le _⟩
    simpa using e
  | 0, .lst ds, e => by simp [okD] at e
  | n + 1, .lst ds, e => by
    have h := lays_of (n := n) (ds := ds) (by simpa [okD] using e)
    simp only [toP, PyData.canLay0, PyData.depth]
    exact ⟨h.1, by omega⟩
  | 0, .tup ds, e => by simp [okD] at e
  | n + 1, .tup ds, e => by
    have h := lays_of (n := n) (ds := ds) (by simpa [okD] using e)
    simp only [toP, PyData.canLay0, PyData.depth]
    exact ⟨h.1, by omega⟩
  | _, .dic _, e => by simp [okD] at e
  | _, .obj _ _, e => by simp [okD] at e
theorem lays_of : ∀ {n : Nat} {ds : List D}, okDs n ds = true → PyData.canLayAll0 (toPs ds) = true ∧ PyData.depthAll (toPs ds) ≤ n
  | _, [], _ => by simp [toPs, PyData.canLayAll0, PyData.depthAll]
  | n, d :: ds, e => by
    have e2 := Bool.and_eq_true_iff.mp (show (okD n d && okDs n ds) = true by simpa [okDs] using e)
    have h1 := lay_of e2.1
    have h2 := lays_of e2.2
    simp only [toPs, PyData.canLayAll0, PyData.depthAll, h1.1, h2.1]
    exact ⟨rfl, by omega⟩
end
theorem shaped_of {d : D} (e : okD 64 d = true) : SeqAt.shaped (toP d) = true := by
  have h := lay_of e
  unfold SeqAt.shaped
  rw [h.1, decide_eq_true h.2]
  rfl
def dEqP (x y : D) : Option Bool := if okD 64 x = true ∧ okD 64 y = true then some (PyData.eqv (toP x) (toP y)) else none
def dNeP (x y : D) : Option Bool := (dEqP x y).map not
theorem dp_rep {Y : Kn} {H F : Hp} {v : V} {d : D} (s : Sub F H) (r : RepT Y H F v d) (e : okD 64 d = true) : Dp Y.K H v (toP d) := by
  rcases r with r | ⟨a, rfl, o⟩
  · exact dp_of s r e
  · cases d with
    | lst ds =>
      obtain ⟨vs, h1, h2⟩ := o
      unfold toP
      exact .lst (.inl (.inl h1)) (dps_of (n := 63) s h2 (by simpa [okD] using e))
    | dic ds => simp [okD] at e
    | _ => exact o.elim
theorem rd_eqP {Y : Kn} : RdT Y (rEqD Y.K) dEqP := by
  intro H F x y da db c Q s rx ry e k
  unfold dEqP at e
  split at e
  · rename_i hh
    cases e
    exact ⟨_, _, dp_rep s rx hh.1, dp_rep s ry hh.2, shaped_of hh.1, shaped_of hh.2, k⟩
  · cases e
theorem rd_neP {Y : Kn} : RdT Y (rNeD Y.K) dNeP := by
  intro H F x y da db c Q s rx ry e k
  unfold dNeP dEqP at e
  split at e
  · rename_i hh
    cases e
    exact ⟨_, _, dp_rep s rx hh.1, dp_rep s ry hh.2, shaped_of hh.1, shaped_of hh.2, k⟩
  · cases e
theorem room64 {k : Nat} (hr : Room k X.A) : X.A.units + 64 < cLine := by have := hr.un; omega
theorem dt_eqP {k : Nat} (hr : Room k X.A) (ha : DB X a ta f) (hb : DB X b tb g) : DT X (.Compare a [.Eq] [b] pos) (tTest (tOp (rEqD X.K) ta tb)) (cmp2 f g dEqP) := dt_cmp (op_eqD (room64 hr)) rd_eqP (nomark _) ha hb
theorem dt_neP {k : Nat} (hr : Room k X.A) (ha : DB X a ta f) (hb : DB X b tb g) : DT X (.Compare a [.NotEq] [b] pos) (tTest (tOp (rNeD X.K) ta tb)) (cmp2 f g dNeP) := dt_cmp (op_neD (room64 hr)) rd_neP (nomark _) ha hb
theorem de_eqP {k : Nat} (hr : Room k X.A) (ha : DB X a ta f) (hb : DB X b tb g) : DE X (.Compare a [.Eq] [b] pos) (tOp (rEqD X.K) ta tb) (bV (cmp2 f g dEqP)) := de_cmp (op_eqD (room64 hr)) rd_eqP (nomark _) ha hb
theorem de_neP {k : Nat} (hr : Room k X.A) (ha : DB X a ta f) (hb : DB X b tb g) : DE X (.Compare a [.NotEq] [b] pos) (tOp (rNeD X.K) ta tb) (bV (cmp2 f g dNeP)) := de_cmp (op_neD (room64 hr)) rd_neP (nomark _) ha hb
theorem eqP_self {d : D} (e : okD 64 d = true) : dEqP d d = some true := by
  unfold dEqP
  rw [if_pos ⟨e, e⟩, SeqAt.eqv_refl _ (lay_of e).1]
theorem neP_self {d : D} (e : okD 64 d = true) : dNeP d d = some false := by
  unfold dNeP
  rw [eqP_self e]; rfl
/-! ### sorted, pairs of texts -/
section
variable {α : Type} {lt : α → α → Bool}
/-- put in ahead of the first that is not less -/
def insB (lt : α → α → Bool) (x : α) : List α → List α
  | [] => [x]
  | y :: l => if lt y x then y :: insB lt x l else x :: y :: l
def sortB (lt : α → α → Bool) : List α → List α
  | [] => []
  | x :: l => insB lt x (sortB lt l)
theorem ins_perm (x : α) : ∀ l : List α, (insB lt x l).Perm (x :: l)
  | [] => List.Perm.refl _
  | y :: l => by
    unfold insB
    split
    · exact (List.Perm.cons y (ins_perm x l)).trans (List.Perm.swap x y l)
    · exact List.Perm.refl _
theorem sortB_perm : ∀ l : List α, (sortB lt l).Perm l
  | [] => List.Perm.refl _
  | x :: l => (ins_perm x _).trans ((sortB_perm l).cons x)
theorem ins_srtd (O : SrtO.Swo lt) (x : α) : ∀ l : List α, SrtO.Srtd lt l → SrtO.Srtd lt (insB lt x l)
  | [], _ => List.pairwise_singleton _ _
  | y :: l, h => by
    obtain ⟨h1, h2⟩ := List.pairwise_cons.mp h
    unfold insB
    by_cases hl : lt y x = true
    · rw [if_pos hl]
      refine List.pairwise_cons.mpr ⟨fun z hz => ?_, ins_srtd O x l h2⟩
      rcases List.mem_cons.mp ((ins_perm x l).mem_iff.mp hz) with rfl | hz
      · exact O.asym _ _ hl
      · exact h1 z hz
    · rw [if_neg hl]
      have hf : lt y x = false := by cases q : lt y x <;> simp_all
      refine List.pairwise_cons.mpr ⟨fun z hz => ?_, h⟩
      rcases List.mem_cons.mp hz with rfl | hz
      · exact hf
      · exact O.tr x y z hf (h1 z hz)
theorem sortB_srtd (O : SrtO.Swo lt) : ∀ l : List α, SrtO.Srtd lt (sortB lt l)
  | [] => List.Pairwise.nil
  | x :: l => ins_srtd O x _ (sortB_srtd O l)
theorem ins_cls (O : SrtO.Swo lt) (z x : α) : ∀ l : List α, (insB lt x l).filter (SrtO.eqv lt z) = (x :: l).filter (SrtO.eqv lt z)
  | [] => rfl
  | y :: l => by
    unfold insB
    by_cases hl : lt y x = true
    · rw [if_pos hl]
      have ih := ins_cls O z x l
      by_cases hx : SrtO.eqv lt z x = true
      · by_cases hy : SrtO.eqv lt z y = true
        · exfalso
          simp only [SrtO.eqv, Bool.and_eq_true, Bool.not_eq_true'] at hx hy
          have := O.tr x z y hx.1 hy.2
          rw [hl] at this
          cases this
        · rw [List.filter_cons_of_neg hy, ih, List.filter_cons_of_pos hx, List.filter_cons_of_pos hx, List.filter_cons_of_neg hy]
      · have ih' : (insB lt x l).filter (SrtO.eqv lt z) = l.filter (SrtO.eqv lt z) := by rw [ih, List.filter_cons_of_neg hx]
        rw [List.filter_cons, ih', List.filter_cons_of_neg hx, List.filter_cons]
    · rw [if_neg hl]
theorem sortB_stb (O : SrtO.Swo lt) : ∀ l : List α, SrtO.Stb lt (sortB lt l) l
  | [] => SrtO.Stb.refl _
  | x :: l => by
    refine ⟨sortB_perm _, fun z => ?_⟩
    show (insB lt x (sortB lt l)).filter (SrtO.eqv lt z) = _
    rw [ins_cls O, List.filter_cons, (sortB_stb O l).cls z, List.filter_cons]
end
/-- by the first text, then by the second -/
def lexS (p q : List Nat × List Nat) : Bool := if p.1 = q.1 then decide (p.2 < q.2) else decide (p.1 < q.1)
theorem lt_irr (a : List Nat) : ¬ a < a := List.lt_irrefl a
theorem lt_tri (a b : List Nat) (h1 : ¬ a < b) (h2 : ¬ b < a) : a = b := List.le_antisymm (List.not_lt.mp h2) (List.not_lt.mp h1)
theorem lexS_iff {p q : List Nat × List Nat} : lexS p q = true ↔ p.1 < q.1 ∨ (p.1 = q.1 ∧ p.2 < q.2) := by
  unfold lexS
  by_cases e : p.1 = q.1
  · rw [if_pos e, decide_eq_true_eq, e]
    exact ⟨fun h => .inr ⟨rfl, h⟩, fun h => h.elim (fun z => absurd z (lt_irr _)) And.right⟩
  · rw [if_neg e, decide_eq_true_eq]
    exact ⟨.inl, fun h => h.elim id fun z => absurd z.1 e⟩
theorem lexS_no {p q : List Nat × List Nat} : lexS p q = false ↔ ¬ (p.1 < q.1 ∨ (p.1 = q.1 ∧ p.2 < q.2)) := by
  rw [← lexS_iff]
  cases lexS p q <;> simp
theorem lexS_le {p q : List Nat × List Nat} : lexS p q = false ↔ q.1 < p.1 ∨ (q.1 = p.1 ∧ ¬ p.2 < q.2) := by
  rw [lexS_no]
  constructor
  · intro h
    by_cases e : q.1 = p.1
    · exact .inr ⟨e, fun z => h (.inr ⟨e.symm, z⟩)⟩
    · by_cases z : q.1 < p.1
      · exact .inl z
      · exact absurd (lt_tri _ _ z fun y => h (.inl y)) e
  · rintro (h | ⟨e, h⟩) (k | ⟨e', k⟩)
    · exact lt_irr _ (List.lt_trans h k)
    · rw [e'] at h; exact lt_irr _ h
    · rw [e] at k; exact lt_irr _ k
    · exact h k
theorem swo_lexS {α : Type} (k : α → List Nat × List Nat) : SrtO.Swo fun v u => lexS (k v) (k u) := by
  refine ⟨fun x y h => ?_, fun x y z h1 h2 => ?_⟩
  · rw [lexS_iff] at h
    rw [lexS_le]
    rcases h with h | ⟨e, h⟩
    · exact .inl h
    · exact .inr ⟨e, fun z => lt_irr _ (List.lt_trans h z)⟩
  · rw [lexS_le] at h1 h2 ⊢
    rcases h1 with h1 | ⟨e1, h1⟩
    · rcases h2 with h2 | ⟨e2, h2⟩
      · exact .inl (List.lt_trans h1 h2)
      · rw [← e2]; exact .inl h1
    · rcases h2 with h2 | ⟨e2, h2⟩
      · rw [e1]; exact .inl h2
      · refine .inr ⟨e1.trans e2, fun z => ?_⟩
        by_cases w : (k x).2 < (k y).2
        · exact h2 (List.lt_trans z w)
        · rw [lt_tri _ _ w h1] at z
          exact h2 z
/-! .. in the model -/
section

variable {prog : Program} {w : World} {A : Around} {E : Value → Shared → Prop} {s : Shared}
def IsPairS (h : Heap) (v : Value) (x y : List Nat) : Prop := ∃ a o z1 z2 t u n, v = .ref a ∧ h.get? a = some o ∧ o.cls = .type "tuple" ∧ o.data = .seq #[.str z1 t, .str z2 u] n ∧ tl z1 = x ∧ tl z2 = y
theorem IsPairS.keeps {h h' : Heap} {v : Value} {x y : List Nat} (p : IsPairS h v x y) (k : ∀ b o, h.get? b = some o → o.cls = .type "tuple" → h'.get? b = some o) : IsPairS h' v x y := by
  obtain ⟨a, o, z1, z2, t, u, n, e, ho, hc, hd, e1, e2⟩ := p
  exact ⟨a, o, z1, z2, t, u, n, e, k _ _ ho hc, hc, hd, e1, e2⟩
theorem tl_beq {x y : Str} : (x == y) = decide (tl x = tl y) := by
  rw [Bool.eq_iff_iff, decide_eq_true_eq, beq_iff_eq]
  exact ⟨fun e => by rw [e], fun e => by rw [← mk_tl x, ← mk_tl y, e]⟩
theorem pairS_cmp {vs : List Value} {k : Value → List Nat × List Nat} (hp : ∀ v ∈ vs, IsPairS s.heap v (k v).1 (k v).2) : SrtO.Cmp prog w A s (tuples' true) (fun p => p.1 ∈ vs) (SrtO.lt2 fun v u => lexS (k v) (k u)) := by
  intro p q hm hm'
  have h1 := hp _ hm
  have h2 := hp _ hm'
  show wpAny (model prog w) A (keyLt' (tuples' true) p.1 q.1) (fun r s' => s' = s ∧ r = lexS (k p.1) (k q.1)) (fun _ _ => False) s
  unfold lexS
  generalize (k p.1).1 = x at h1 ⊢
  generalize (k p.1).2 = y at h1 ⊢
  generalize (k q.1).1 = x' at h2 ⊢
  generalize (k q.1).2 = y' at h2 ⊢
  obtain ⟨a, o, z1, z2, t, u, n, e, ho, hc, hd, e1, e2⟩ := h1
  obtain ⟨a', o', z1', z2', t', u', n', e', ho', hc', hd', e1', e2'⟩ := h2
  subst e1 e2 e1' e2'
  rw [e, e']
  refine PySem.W.kat_lt ho hd ho' hd' ?_
  show PySem.W.KatLex prog w A true (decide (2 < 2)) _ [(.str z1 t, .str z1' t'), (.str z2 u, .str z2' u')] 0 s
  refine PySem.W.kat_cons (SeqAt.EqAt.str_str z1 t z1' t' prog w _ _ ?_)
  rw [tl_beq]
  refine PySem.W.kat_go (fun e1 => ?_) (fun e1 => ?_)
  · have ex : tl z1 = tl z1' := by simpa using e1
    refine PySem.W.kat_yes (PySem.W.kat_cons (SeqAt.EqAt.str_str z2 u z2' u' prog w _ _ ?_))
    rw [tl_beq]
    refine PySem.W.kat_go (fun e2 => ?_) (fun e2 => ?_)
    · have ey : tl z2 = tl z2' := by simpa using e2
      have e3 : (if tl z1 = tl z1' then decide (tl z2 < tl z2') else decide (tl z1 < tl z1')) = false := by
        rw [if_pos ex, ey]
        exact decide_eq_false (lt_irr _)
      exact PySem.W.kat_yes (PySem.W.kat_nil ⟨rfl, e3.symm⟩)
    · have e3 : (if tl z1 = tl z1' then decide (tl z2 < tl z2') else decide (tl z1 < tl z1')) = decide (tl z2 < tl z2') := if_pos ex
      refine PySem.W.kat_no (PySem.W.kat_one _ _ (PyProof.Rows.lt_str ?_))
      exact (show s = s ∧ decide (tl z2 < tl z2') = _ from ⟨rfl, e3.symm⟩)
  · have ex : ¬ tl z1 = tl z1' := by simpa using e1
    have e3 : (if tl z1 = tl z1' then decide (tl z2 < tl z2') else decide (tl z1 < tl z1')) = decide (tl z1 < tl z1') := if_neg ex
    exact PySem.W.kat_no (oneLt_str ⟨rfl, e3.symm⟩)
theorem firstsS_of {h : Heap} : ∀ {vs : List Value}, (∀ v ∈ vs, ∃ x y, IsPairS h v x y) → ∃ fs : List Value, PySem.W.KatTups h vs fs ∧ fs.length = vs.length ∧ ∀ f ∈ fs, ∃ x t, f = Value.str x t
  | [], _ => ⟨[], PySem.W.KatTups.nil, rfl, fun _ hm => by simp at hm⟩
  | v :: vs, hp => by
    obtain ⟨fs, h1, h2, h3⟩ := firstsS_of (vs := vs) fun v' hm => hp v' (List.mem_cons_of_mem _ hm)
    obtain ⟨x, y, a, o, z1, z2, t, u, n, e, ho, hc, hd, _, _⟩ := hp v (List.mem_cons_self ..)
    subst e
    refine ⟨.str z1 t :: fs, PySem.W.KatTups.cons ho hc hd rfl h1, by rw [List.length_cons, List.length_cons, h2], fun f hm => ?_⟩
    rcases List.mem_cons.mp hm with rfl | hm
    · exact ⟨z1, t, rfl⟩
    · exact h3 f hm
theorem pairsS_sortable {a : Addr} {vs : List Value} {k : Value → List Nat × List Nat} (h0 : 0 < vs.length) (hp : ∀ v ∈ vs, IsPairS s.heap v (k v).1 (k v).2) (ha : ∀ o, s.heap.get? a = some o → o.cls ≠ .type "tuple") : SrtO.SortableO prog w A s a vs fun v u => lexS (k v) (k u) := by
  intro h' keep
  have hp' : ∀ v ∈ vs, IsPairS h' v (k v).1 (k v).2 := fun v hm => (hp v hm).keeps fun b o e c => keep b o (fun z => by subst z; exact ha o e c) e
  obtain ⟨fs, h1, h2, h3⟩ := firstsS_of fun v hm => ⟨_, _, hp' v hm⟩
  refine ⟨tuples' true, fun Q E hq => ?_, pairS_cmp hp'⟩
  refine PySem.W.kat_kind (T := .type "str") h1 (by omega) (fun f hm => ?_) (by rfl) ?_
  · obtain ⟨x, t, rfl⟩ := h3 f hm
    exact PySem.W.Looks.now
  · have e : (Value.type "str" != Value.type "tuple") = true := by first | decide +kernel | rfl | decide
    rw [e]
    exact hq
theorem sorted_pairsS {l : Addr} {vs : List Value} {k : Value → List Nat × List Nat} {Q : Value → Shared → Prop} (hl : s.heap.IsList l vs.toArray) (hz : vs.length ≤ sizeLine) (hp : ∀ v ∈ vs, IsPairS s.heap v (k v).1 (k v).2)
    (h : ∀ (h' : Heap) (d : Addr) (out : List Value), SrtO.Srtd (fun v u => lexS (k v) (k u)) out → SrtO.Stb (fun v u => lexS (k v) (k u)) out vs → (∀ b o, s.heap.get? b = some o → h'.get? b = some o) → s.heap.objs.size ≤ d → (∃ n, h'.get? d = some (seqObj "list" out.toArray n)) → Q (.ref d) { s with heap := h' }) :
    wpAny (model prog w) A (call (.builtin "sorted") [.ref l]) Q E s := by
  refine SrtO.sorted_ord (swo_lexS k) hl hz (fun h2 h₁ a ha kk => ?_) fun out hs hb => ?_
  · refine pairsS_sortable (s := { s with heap := h₁ }) (by omega) (fun v hm => (hp v hm).keeps fun b o e _ => (kk b o e).2) fun o e => ?_
    have e' : some o = some (seqObj "list" vs.toArray 0) := e.symm.trans ha
    cases e'
    intro c
    exact absurd (Value.type.inj c) (by decide)
  · exact h _ _ out hs hb (fun b o e => sortedAll_old e) (Nat.le_succ _) (sortedAll_at s.heap vs out.toArray)
end
theorem ins_map {α β : Type} {lt : α → α → Bool} {lt' : β → β → Bool} {f : α → β} (x : α) : ∀ l : List α, (∀ y ∈ l, lt' (f y) (f x) = lt y x) → insB lt' (f x) (l.map f) = (insB lt x l).map f
  | [], _ => rfl
  | y :: l, h => by
    have e := h y List.mem_cons_self
    have ih := ins_map x l fun z hz => h z (List.mem_cons_of_mem _ hz)
    show (if lt' (f y) (f x) then f y :: insB lt' (f x) (l.map f) else f x :: f y :: l.map f) = (if lt y x then y :: insB lt x l else x :: y :: l).map f
    rw [e, ih]
    split <;> rfl
theorem sortB_map {α β : Type} {lt : α → α → Bool} {lt' : β → β → Bool} {f : α → β} : ∀ l : List α, (∀ x ∈ l, ∀ y ∈ l, lt' (f x) (f y) = lt x y) → sortB lt' (l.map f) = (sortB lt l).map f
  | [], _ => rfl
  | x :: l, h => by
    have ih := sortB_map l fun a ha b hb => h a (List.mem_cons_of_mem _ ha) b (List.mem_cons_of_mem _ hb)
    show insB lt' (f x) (sortB lt' (l.map f)) = (insB lt x (sortB lt l)).map f
    rw [ih]
    exact ins_map x _ fun y hy => h y (List.mem_cons_of_mem _ ((sortB_perm l).mem_iff.mp hy)) x List.mem_cons_self
def pairOf : D → Option (List Nat × List Nat)
  | .tup [.str a, .str b] => some (a, b)
  | _ => none
def keyD (d : D) : List Nat × List Nat := (pairOf d).getD ([], [])
def ltD (x y : D) : Bool := lexS (keyD x) (keyD y)
def ltVD (x y : V × D) : Bool := lexS (keyD x.2) (keyD y.2)
def dSortP : D → Option D
  | .lst ds => if ds.all (fun d => (pairOf d).isSome) = true then some (.lst (sortB ltD ds)) else none
  | _ => none
def rSortS (K : PySem.W.Frag) : List V → Hp → VK → Prop := fun vs H Q => ∃ (a : Addr) (ps : List (V × D)), vs = [V.ref a] ∧ SqL K H a (ps.map Prod.fst) ∧ (∀ p ∈ ps, ∃ t z1 z2, p.1 = V.ref t ∧ SqT K H t [.str z1, .str z2] ∧ keyD p.2 = (tl z1, tl z2)) ∧
  ∀ q, H q = none → Q (.ref q) (upd H q (.lst ((sortB ltVD ps).map Prod.fst)))
open Classical in
noncomputable def kH (h : Heap) (v : Value) : List Nat × List Nat := if e : ∃ p : List Nat × List Nat, IsPairS h v p.1 p.2 then e.choose else ([], [])
theorem pairS_one {h : Heap} {v : Value} {x y x' y' : List Nat} (p : IsPairS h v x y) (q : IsPairS h v x' y') : x = x' ∧ y = y' := by
  obtain ⟨a, o, z1, z2, t, u, n, e, ho, hc, hd, e1, e2⟩ := p
  obtain ⟨a', o', z1', z2', t', u', n', e', ho', hc', hd', e1', e2'⟩ := q
  subst e
  cases e'
  rw [ho] at ho'
  cases ho'
  rw [hd] at hd'
  cases hd'
  exact ⟨e1.symm.trans e1', e2.symm.trans e2'⟩
theorem kH_of {h : Heap} {v : Value} {x y : List Nat} (p : IsPairS h v x y) : kH h v = (x, y) := by
  have e : ∃ p : List Nat × List Nat, IsPairS h v p.1 p.2 := ⟨(x, y), p⟩
  unfold kH
  rw [dif_pos e]
  have := pairS_one e.choose_spec p
  exact Prod.ext this.1 this.2
def refV : V → Value
  | .ref a => .ref a
  | _ => .none
theorem vals_refs : ∀ {ps : List (V × D)} {us : List Value}, Vals (ps.map Prod.fst) us → (∀ p ∈ ps, ∃ a, p.1 = V.ref a) → us = ps.map fun p => refV p.1
  | [], _, r, _ => by cases r; rfl
  | p :: ps, us, r, h => by
    obtain ⟨a, e⟩ := h p List.mem_cons_self
    cases r with
    | cons r1 r2 =>
      rw [e] at r1
      cases r1
      rw [vals_refs r2 fun q hq => h q (List.mem_cons_of_mem _ hq), List.map_cons, e]
      rfl
theorem vals_of_refs : ∀ {ps : List (V × D)}, (∀ p ∈ ps, ∃ a, p.1 = V.ref a) → Vals (ps.map Prod.fst) (ps.map fun p => refV p.1)
  | [], _ => .nil
  | p :: ps, h => by
    obtain ⟨a, e⟩ := h p List.mem_cons_self
    rw [List.map_cons, List.map_cons, e]
    exact .cons (show RelV (.ref a) (.ref a) from rfl) (vals_of_refs fun q hq => h q (List.mem_cons_of_mem _ hq))
theorem cr_sortS : CallR X (.builtin "sorted") (rSortS X.K) := by
  intro pins s σ H vs us Q I r h
  obtain ⟨a, ps, rfl, hs, hx, q⟩ := h
  obtain ⟨its, rv, hl, hz⟩ := I.list hs
  obtain ⟨u, rfl, ru⟩ := vals1 r
  obtain rfl : u = Value.ref a := ru
  have hr : ∀ p ∈ ps, ∃ a, p.1 = V.ref a := fun p hp => by
    obtain ⟨t, _, _, e, _⟩ := hx p hp
    exact ⟨t, e⟩
  have ei := vals_refs rv hr
  have isp : ∀ p ∈ ps, IsPairS s.heap (refV p.1) (keyD p.2).1 (keyD p.2).2 := fun p hp => by
    obtain ⟨t, z1, z2, e, ht, ek⟩ := hx p hp
    obtain ⟨its2, r2, ⟨o, ho, hc, n, hd⟩, _⟩ := I.tuple ht
    obtain ⟨u1, u2, rfl, ri, rj⟩ := vals2 r2
    obtain ⟨t1, rfl⟩ := ri
    obtain ⟨t2, rfl⟩ := rj
    rw [e, ek]
    exact ⟨t, o, z1, z2, t1, t2, n, rfl, ho, hc, hd, rfl, rfl⟩
  have hk : ∀ v ∈ its, IsPairS s.heap v (kH s.heap v).1 (kH s.heap v).2 := fun v hv => by
    rw [ei] at hv
    obtain ⟨p, hp, rfl⟩ := List.mem_map.mp hv
    have := isp p hp
    rw [kH_of this]
    exact this
  refine sorted_pairsS (k := kH s.heap) hl.isList (by rw [← rv.length]; exact hz) hk fun h' d out h1 h2 kp hd hn => ?_
  obtain ⟨n, hn⟩ := hn
  have O : SrtO.Swo fun v u => lexS (kH s.heap v) (kH s.heap u) := swo_lexS _
  have eo : out = (sortB ltVD ps).map fun p => refV p.1 := by
    have e1 : out = sortB (fun v u => lexS (kH s.heap v) (kH s.heap u)) its := SrtO.stb_uniq O h1 (sortB_srtd O its) (h2.trans ⟨(sortB_stb O its).perm.symm, fun x => ((sortB_stb O its).cls x).symm⟩)
    rw [e1, ei]
    refine sortB_map ps fun x hx y hy => ?_
    rw [kH_of (isp x hx), kH_of (isp y hy)]
    rfl
  have hr' : ∀ p ∈ sortB ltVD ps, ∃ a, p.1 = V.ref a := fun p hp => hr p ((sortB_perm ps).mem_iff.mp hp)
  refine ⟨.ref d, upd H d (.lst ((sortB ltVD ps).map Prod.fst)), I.laid (t' := s.toks) kp hd ⟨?_, out, n, ?_, hn⟩, rfl, q d (I.hok.fresh hd)⟩
  · rw [List.length_map, (sortB_perm ps).length_eq]
    rw [List.length_map] at hz
    exact hz
  · rw [eo]
    exact vals_of_refs hr'
theorem reps_zip {Y : Kn} {F : Hp} : ∀ {vs : List V} {ds : List D}, Reps Y F vs ds → (vs.zip ds).map Prod.fst = vs ∧ (vs.zip ds).map Prod.snd = ds ∧ ∀ p ∈ vs.zip ds, Rep Y F p.1 p.2
  | _, _, .nil => ⟨rfl, rfl, fun _ h => nomatch h⟩
  | _, _, .cons h t => by
    obtain ⟨h1, h2, h3⟩ := reps_zip t
    refine ⟨by rw [List.zip_cons_cons, List.map_cons, h1], by rw [List.zip_cons_cons, List.map_cons, h2], fun p hp => ?_⟩
    rw [List.zip_cons_cons] at hp
    rcases List.mem_cons.mp hp with rfl | hp
    · exact h
    · exact h3 p hp
theorem zip_reps {Y : Kn} {F : Hp} : ∀ {ps : List (V × D)}, (∀ p ∈ ps, Rep Y F p.1 p.2) → Reps Y F (ps.map Prod.fst) (ps.map Prod.snd)
  | [], _ => .nil
  | p :: ps, h => .cons (h p List.mem_cons_self) (zip_reps fun q hq => h q (List.mem_cons_of_mem _ hq))
theorem pairOf_some {d : D} (h : (pairOf d).isSome = true) : ∃ a b, d = .tup [.str a, .str b] := by
  unfold pairOf at h
  split at h
  · exact ⟨_, _, rfl⟩
  · cases h
theorem rc_sortP {Y : Kn} : RcN Y (rSortS Y.K) dSortP := by
  intro H F x da d Q s rx e k
  unfold dSortP at e
  split at e
  · rename_i ds
    split at e
    · rename_i hp
      cases e
      obtain ⟨p, vs, rfl, h1, r1⟩ := rx.lst s
      obtain ⟨z1, z2, z3⟩ := reps_zip r1
      refine ⟨p, vs.zip ds, rfl, by rw [z1]; exact h1, fun q hq => ?_, fun q hq => ?_⟩
      · have hd : q.2 ∈ ds := (List.of_mem_zip (show (q.1, q.2) ∈ vs.zip ds from hq)).2
        obtain ⟨a, b, e⟩ := pairOf_some (List.all_eq_true.mp hp _ hd)
        have r := z3 q hq
        rw [e] at r
        obtain ⟨q1, q2⟩ := q
        dsimp only at e r ⊢
        subst e
        cases r with
        | tup ht rr =>
          cases rr with
          | cons ra rr =>
            cases rr with
            | cons rb rr =>
              cases rr
              cases ra
              cases rb
              exact ⟨_, _, _, rfl, sqT_sub s ht, rfl⟩
      · refine k q _ F (ext_new s hq) hq (none_of_sub s hq) ⟨_, upd_same, ?_⟩
        have z4 : sortB ltD ds = (sortB ltVD (vs.zip ds)).map Prod.snd := by
          have := sortB_map (lt := ltVD) (lt' := ltD) (f := Prod.snd) (vs.zip ds) fun _ _ _ _ => rfl
          rw [z2] at this
          exact this
        rw [z4]
        exact zip_reps fun p hp => z3 p ((sortB_perm _).mem_iff.mp hp)
    · cases e
  · cases e
theorem dn_callB {id : String} {x : Str} {r : List V → Hp → VK → Prop} {g : D → Option D} {p : Pos} (hc : CallR X (.builtin id) r) (hr : RcN (kn X) r g) (hm : X.mg x = none) (hv : bootBuiltins x = some (.builtin id)) (ha : DB X a ta f) (hg : Gl X x := by rfl) (hn : x ≠ "__name__" := by decide) (hdb : (x == ("__debug__" : Str)) = false := by decide)
    (hs : starEach [a] X.env = (false, eval a X.env) :: starEach [] X.env := by rfl) (hpl : (backTo pos (starEach [] X.env)).any (·.1) = false := by rfl) : DN X (.Call (.Name x p) [a] [] pos) (tCB r (tCons ta tNil)) (un1 f g) := by
  refine ⟨pe_callB hc hg hm hv (pa_cons ha.p pa_nil hs) hn hdb hs hpl, fun σ H F ρ d Q r0 e k => ?_⟩
  obtain ⟨d1, e1, e2⟩ := Option.bind_eq_some_iff.mp e
  exact ha.q σ H F ρ d1 _ r0 e1 fun v H' F' x' rv => hr H' F' v d1 d Q x'.s rv e2 fun u H2 F2 x2 n0 n1 o => k u H2 F2 (x'.trans x2) (none_of_sub x'.h n0) n1 o
def dn_sortP {p : Pos} (hm : X.mg "sorted" = none) (ha : DB X a ta f) (hg : Gl X "sorted" := by rfl) (hs : starEach [a] X.env = (false, eval a X.env) :: starEach [] X.env := by rfl) (hpl : (backTo pos (starEach [] X.env)).any (·.1) = false := by rfl) :=
  (dn_callB cr_sortS rc_sortP hm (by decide +kernel) ha hg (by decide) (by decide) hs hpl : DN X (.Call (.Name "sorted" p) [a] [] pos) (tCB _ (tCons ta tNil)) (un1 f dSortP))
end
end DL

/-! DL, dicts written out: a display of constants with more than fifteen keys. -/
namespace DL
open PySem PySem.Spec PyProof.Rows L2
open TL (tl len_tl ext_tl tl_append tl_mk mk_tl map_tl_inj tl_ofString)
section
variable {prog : Program} {w : World} {A : Around} {E : Value → Shared → Prop} {env : Env} {pos : Pos}
abbrev Tree := Sem Value × Sem Value
/-- the rest of a run that is shorter than a piece -/
theorem gathS (f : (Option (Sem Value) × Sem Value) → (Option Addr × List Tree) → Sem (ForInStep (Option Addr × List Tree)))
    (h1 : ∀ (p : Tree) (mn : Option Addr) (run : List Tree), run.length + 1 ≠ 17 → f (some p.1, p.2) (mn, run) = pure (.yield (mn, run ++ [p]))) :
    ∀ (ys : List Tree) (mn : Option Addr) (run : List Tree), run.length + ys.length < 17 → forIn (ys.map fun p => (some p.1, p.2)) (mn, run) f = pure (mn, run ++ ys)
  | [], mn, run, _ => by rw [List.map_nil, List.forIn_nil, List.append_nil]
  | p :: ys, mn, run, h => by
    rw [List.length_cons] at h
    rw [List.map_cons, List.forIn_cons, h1 p mn run (by omega), pure_bind]
    have ih := gathS f h1 ys mn (run ++ [p]) (by rw [List.length_append, List.length_singleton]; omega)
    rw [List.append_assoc] at ih
    exact ih
/-- the first piece -/
theorem gathL (f : (Option (Sem Value) × Sem Value) → (Option Addr × List Tree) → Sem (ForInStep (Option Addr × List Tree))) (fl : List Tree → Option Addr → Sem (Option Addr))
    (h1 : ∀ (p : Tree) (mn : Option Addr) (run : List Tree), run.length + 1 ≠ 17 → f (some p.1, p.2) (mn, run) = pure (.yield (mn, run ++ [p])))
    (h2 : ∀ (p : Tree) (mn : Option Addr) (run : List Tree), run.length + 1 = 17 → f (some p.1, p.2) (mn, run) = (do let m ← fl (run ++ [p]) mn; pure (.yield (m, [])))) :
    ∀ (xs : List Tree) (p : Tree) (ys : List Tree) (mn : Option Addr) (run : List Tree), run.length + xs.length = 16 →
      forIn ((xs ++ p :: ys).map fun p => (some p.1, p.2)) (mn, run) f = (do let m ← fl (run ++ xs ++ [p]) mn; forIn (ys.map fun p => (some p.1, p.2)) (m, []) f)
  | [], p, ys, mn, run, h => by
    rw [List.nil_append, List.map_cons, List.forIn_cons, h2 p mn run (by rw [List.length_nil] at h; omega), List.append_nil, bind_assoc]
    simp only [pure_bind]
  | x :: xs, p, ys, mn, run, h => by
    rw [List.length_cons] at h
    rw [List.cons_append, List.map_cons, List.forIn_cons, h1 x mn run (by omega), pure_bind]
    have ih := gathL f fl h1 h2 xs p ys mn (run ++ [x]) (by rw [List.length_append, List.length_singleton]; omega)
    rw [List.append_assoc (as := run)] at ih
    exact ih
theorem disp_two (xs : List Tree) (p : Tree) (ys : List Tree) (hx : xs.length = 16) (hy : ys.length < 17) (h0 : ys ≠ []) :
    dictDisplay ((xs ++ p :: ys).map fun p => (some p.1, p.2)) = (do
      let d ← subDict (xs ++ [p])
      let sub ← holding [.ref d] (subDict ys)
      (holding [.ref d, .ref sub] (mergeMapping d (.ref sub) false)).onRaise fun x => do let _ ← holding [.ref d, x] (runValue (.builtin "proto.let_go" {}))
      pure (.ref d)) := by
  unfold dictDisplay
  dsimp only
  rw [gathL _ (fun run mn => if run.isEmpty then pure mn else match mn with
      | none => do let d ← subDict run; pure (some d)
      | some d => do
        let sub ← holding [.ref d] (subDict run)
        (holding [.ref d, .ref sub] (mergeMapping d (.ref sub) false)).onRaise fun x => do let _ ← holding [.ref d, x] (runValue (.builtin "proto.let_go" {}))
        pure (some d)) (fun p mn run h => by
      have hne : ((run ++ [(p.1, p.2)]).length == 17) = false := by simp; omega
      simp only [hne, Bool.false_eq_true, if_false]) (fun p mn run h => by
      have hne : ((run ++ [(p.1, p.2)]).length == 17) = true := by simp; omega
      simp only [hne, if_true]
      rfl) xs p ys none [] (by simpa using hx)]
  have e : (xs ++ [p] : List Tree).isEmpty = false := by cases xs <;> rfl
  simp only [e, Bool.false_eq_true, if_false, bind_assoc, pure_bind, List.nil_append]
  refine congrArg (fun k => subDict (xs ++ [p]) >>= k) (funext fun d => ?_)
  rw [gathS _ (fun p mn run h => by
      have hne : ((run ++ [(p.1, p.2)]).length == 17) = false := by simp; omega
      simp only [hne, Bool.false_eq_true, if_false]) ys (some d) [] (by simpa using hy)]
  have e2 : (ys : List Tree).isEmpty = false := by
    cases ys with
    | nil => exact absurd rfl h0
    | cons _ _ => rfl
  simp only [e2, Bool.false_eq_true, if_false, bind_assoc, pure_bind, List.nil_append]
/-! constants -/
def tabK : Expr → Option Key
  | .Constant (.str x) _ _ => some (.inr x)
  | .Constant (.int i) _ _ => some (.inl i)
  | _ => none
def tabV : Expr → Option V
  | .Constant (.str x) _ _ => some (.str x)
  | .Constant (.int i) _ _ => some (.int i)
  | .Constant (.bool b) _ _ => some (.bl b)
  | .Constant .none _ _ => some .non
  | _ => none
def litK : List (Option Expr) → List Expr → Option (List (Key × V))
  | [], [] => some []
  | some k :: ks, v :: vs => (tabK k).bind fun a => (tabV v).bind fun b => (litK ks vs).bind fun r => some ((a, b) :: r)
  | _, _ => none
theorem eval_tabV {e : Expr} {v : V} {s : Shared} {Q : Value → Shared → Prop} (he : tabV e = some v) (h : ∀ u tk, RelV v u → Q u { s with toks := tk }) : wpAny (model prog w) A (eval e env) Q E s := by
  unfold tabV at he
  split at he
  · cases he; exact wpAny_Constant_str (h _ _ ⟨_, rfl⟩)
  · cases he; exact wpAny_Constant_int (h _ _ ⟨_, rfl⟩)
  · cases he; exact wpAny_Constant_bool (h _ s.toks rfl)
  · cases he; exact wpAny_Constant_none (h _ s.toks rfl)
  · cases he
theorem eval_tabK {e : Expr} {k : Key} {s : Shared} {Q : Value → Shared → Prop} (he : tabK e = some k) (h : ∀ u tk, RelV (kV k) u → Q u { s with toks := tk }) : wpAny (model prog w) A (eval e env) Q E s := by
  unfold tabK at he
  split at he
  · cases he; exact wpAny_Constant_str (h _ _ ⟨_, rfl⟩)
  · cases he; exact wpAny_Constant_int (h _ _ ⟨_, rfl⟩)
  · cases he
theorem litK_cons {k v : Expr} {ks : List (Option Expr)} {vs : List Expr} {kvs : List (Key × V)} (h : litK (some k :: ks) (v :: vs) = some kvs) : ∃ a b r, tabK k = some a ∧ tabV v = some b ∧ litK ks vs = some r ∧ kvs = (a, b) :: r := by
  unfold litK at h
  obtain ⟨a, e1, h⟩ := Option.bind_eq_some_iff.mp h
  obtain ⟨b, e2, h⟩ := Option.bind_eq_some_iff.mp h
  obtain ⟨r, e3, h⟩ := Option.bind_eq_some_iff.mp h
  cases h
  exact ⟨a, b, r, e1, e2, e3, rfl⟩
theorem litK_all : ∀ {ks : List (Option Expr)} {vs : List Expr} {kvs : List (Key × V)}, litK ks vs = some kvs → ks.all (·.isSome) = true ∧ ks.length = vs.length ∧ kvs.length = ks.length
  | [], [], _, h => by cases h; exact ⟨rfl, rfl, rfl⟩
  | [], _ :: _, _, h => by simp [litK] at h
  | none :: _, _, _, h => by simp [litK] at h
  | some _ :: _, [], _, h => by simp [litK] at h
  | some k :: ks, v :: vs, kvs, h => by
    obtain ⟨a, b, r, _, _, e3, rfl⟩ := litK_cons h
    obtain ⟨h1, h2, h3⟩ := litK_all e3
    exact ⟨by simpa using h1, by simp [h2], by simp [h3]⟩
theorem litK_app : ∀ {ks ls : List (Option Expr)} {vs us : List Expr} {kvs : List (Key × V)}, ks.length = vs.length → litK (ks ++ ls) (vs ++ us) = some kvs → ∃ a b, litK ks vs = some a ∧ litK ls us = some b ∧ kvs = a ++ b
  | [], ls, [], us, kvs, _, h => ⟨[], kvs, rfl, h, rfl⟩
  | [], _, _ :: _, _, _, e, _ => by simp at e
  | _ :: _, _, [], _, _, e, _ => by simp at e
  | none :: _, _, _ :: _, _, _, _, h => by simp [litK] at h
  | some k :: ks, ls, v :: vs, us, kvs, e, h => by
    obtain ⟨a, b, r, e1, e2, e3, rfl⟩ := litK_cons (show litK (some k :: (ks ++ ls)) (v :: (vs ++ us)) = some kvs from h)
    obtain ⟨x, y, h1, h2, rfl⟩ := litK_app (by simpa using e) e3
    refine ⟨(a, b) :: x, y, ?_, h2, rfl⟩
    unfold litK
    rw [e1, e2, h1]
    rfl
/-- the pairs of constants, one stored behind the other -/
theorem storeK (d : Addr) : ∀ (ks : List (Option Expr)) (vs : List Expr) (kvs : List (Key × V)) (acc : List (Key × Value)) (s : Shared) (Q : PUnit → Shared → Prop), litK ks vs = some kvs → s.heap.DictOf (mixKind prog w) d acc → acc.length + kvs.length ≤ sizeLine →
    (∀ h' tk rs, KV kvs rs → h'.DictOf (mixKind prog w) d (merged acc rs) → Heap.SameBut d s.heap h' → Q PUnit.unit { s with heap := h', toks := tk }) →
    wpAny (model prog w) A (forIn (pairTrees ks vs env pos) PUnit.unit fun (x : Tree) (_ : PUnit) => (do
      let kv ← x.1
      let vv ← holding [kv] x.2
      holding [kv, vv] (dictSet d kv vv)
      pure (ForInStep.yield PUnit.unit) : Sem (ForInStep PUnit))) Q E s
  | [], [], _, acc, s, Q, h, hm, _, hQ => by
    cases h
    show wpAny _ _ (forIn [] _ _) _ _ _
    rw [List.forIn_nil]
    exact wpAny_pure (hQ s.heap s.toks [] .nil hm (Heap.SameBut.refl _ _))
  | [], _ :: _, _, _, _, _, h, _, _, _ => by simp [litK] at h
  | none :: _, _, _, _, _, _, h, _, _, _ => by simp [litK] at h
  | some _ :: _, [], _, _, _, _, h, _, _, _ => by simp [litK] at h
  | some k :: ks, v :: vs, kvs, acc, s, Q, h, hm, hz, hQ => by
    obtain ⟨a, b, r, e1, e2, e3, rfl⟩ := litK_cons h
    rw [List.length_cons] at hz
    show wpAny _ _ (forIn ((eval k env, do let x ← eval v env; standAt pos; pure x) :: pairTrees ks vs env pos) _ _) _ _ _
    rw [List.forIn_cons]
    refine wpAny_bind (wpAny_bind (eval_tabK e1 fun u t1 ru => wpAny_bind (wpAny_holding (wpAny_bind (eval_tabV e2 fun z t2 rz => wpAny_bind (wpAny_standAt (wpAny_pure ?_)))))))
    refine wpAny_bind (wpAny_holding (wpAny_dictSet_pairs (knd := mixKind prog w) (kV_is ru) hm (fun h1 hm1 hs1 => wpAny_pure ?_) (by omega)))
    refine storeK d ks vs r (stored acc a z) _ Q e3 hm1 (by have e := stored_length_le acc a z; omega) fun h' tk rs k2 hm' hs' => ?_
    exact hQ h' tk ((a, z) :: rs) (.cons ⟨rfl, rz⟩ k2) hm' (hs1.trans hs')
/-- one piece of constants: a new dict -/
theorem pieceK {ks : List (Option Expr)} {vs : List Expr} {kvs : List (Key × V)} {s : Shared} {Q : Addr → Shared → Prop} (h : litK ks vs = some kvs) (hz : kvs.length ≤ 100)
    (hQ : ∀ h' tk rs, KV kvs rs → h'.DictOf (mixKind prog w) s.heap.objs.size (merged [] rs) → (∀ b o, s.heap.get? b = some o → h'.get? b = some o) → Q s.heap.objs.size { s with heap := h', toks := tk }) :
    wpAny (model prog w) A (subDict (pairTrees ks vs env pos)) Q E s := by
  obtain ⟨a1, a2, a3⟩ := litK_all h
  have a4 := pairTrees_length ks vs env pos a1 a2
  by_cases hl : (pairTrees ks vs env pos).length ≤ 15
  · refine wpAny_subDict (knd := mixKind prog w) hl ?_
    have go : ∀ (ks : List (Option Expr)) (vs : List Expr) (kvs : List (Key × V)) (s1 : Shared) (R : List (Value × Value) → Shared → Prop), litK ks vs = some kvs → (∀ us tk rs, KV kvs rs → Carries (mixKind prog w) us rs → R us { s1 with toks := tk }) → wpAny (model prog w) A (evalPairs (pairTrees ks vs env pos)) R E s1 := by
      intro ks
      induction ks with
      | nil =>
        intro vs kvs s1 R h k
        cases vs with
        | nil => cases h; exact pairTrees_nil_walk (k [] s1.toks [] .nil trivial)
        | cons _ _ => simp [litK] at h
      | cons k ks ih =>
        intro vs kvs s1 R h kk
        cases k with
        | none => simp [litK] at h
        | some k =>
          cases vs with
          | nil => simp [litK] at h
          | cons v vs =>
            obtain ⟨a, b, r, e1, e2, e3, rfl⟩ := litK_cons h
            refine pairTrees_cons_walk (eval_tabK e1 fun u t1 ru => eval_tabV e2 fun z t2 rz => ?_)
            exact ih vs r _ _ e3 fun us tk rs k2 c => kk _ tk ((a, z) :: rs) (.cons ⟨rfl, rz⟩ k2) ⟨kV_is ru, rfl, c⟩
    refine go ks vs kvs _ _ h fun us tk rs k2 c => ⟨rs, c, Heap.DictOf.new _, fun h' hm hs => hQ h' _ rs k2 hm fun b o e => ?_⟩
    exact (hs.2 b (Nat.ne_of_lt (Heap.lt_size e))).trans (Heap.get?_push_of_some _ e)
  · unfold subDict
    refine wpAny_bind (wpAny_alloc (wpAny_bind (wpAny_holding ?_)))
    rw [if_neg hl]
    refine wpAny_bind (wpAny_rule ?_)
    refine wpAny_bind (storeK s.heap.objs.size ks vs kvs [] _ _ h (Heap.DictOf.new _) (by rw [sizeLine_eq, List.length_nil]; omega) fun h' tk rs k2 hm hs => wpAny_pure (wpAny_pure (hQ h' tk rs k2 hm fun b o e => ?_)))
    exact (hs.2 b (Nat.ne_of_lt (Heap.lt_size e))).trans (Heap.get?_push_of_some _ e)
/-! one dict put into another -/
section
variable {κ : Type} [DecidableEq κ] {knd : KeyKind prog w κ} {s : Shared}
theorem put1 {d : Addr} {acc : List (κ × Value)} {k : κ} {key v : Value} {Q : Unit → Shared → Prop} (hkey : knd.is k key = true) (hm : s.heap.DictOf knd d acc) (fr : k ∉ acc.map (·.1)) (hz : acc.length ≤ sizeLine)
    (hQ : ∀ h', h'.DictOf knd d (acc ++ [(k, v)]) → Heap.SameBut d s.heap h' → Q () { s with heap := h' }) : wpAny (model prog w) A (dictPut d (knd.hash k) key v) Q E s := by
  obtain ⟨o, es, ep, g1, g2, g3, g4, g5, g6⟩ := hm
  have el : es.toList.length = acc.length := g5.length
  have ez : es.size ≤ sizeLine := by rw [← Array.length_toList]; omega
  unfold dictPut
  refine wpAny_bind (wpAny_dictFind_of hkey g1 g3 g4 ?_)
  have ix : (es.findIdx? fun e => knd.is k e.key) = none := by
    have e1 := g5.findIdx k
    have e2 : (es.findIdx? fun e => knd.is k e.key) = es.toList.findIdx? fun e => knd.is k e.key := by cases es; simp
    rw [e2, e1, List.findIdx?_eq_none_iff]
    intro kv hkv
    exact decide_eq_false fun z => fr (List.mem_map.mpr ⟨kv, hkv, z⟩)
  rw [ix]
  refine wpAny_updateDictKeys (hz := ez) g1 g3 (hQ _ ?_ (Heap.SameBut.update ..))
  refine ⟨_, _, ep + 1, Heap.get?_update_self _ g1 (Obj.isFreed_of_dict (Obj.data_mapDictKeys g3 _)), g2.mapDictKeys _, Obj.data_mapDictKeys g3 _, g4.push hkey _, ?_, ?_⟩
  · have := g5.append hkey (knd.hash k) v
    cases es
    simpa using this
  · rw [List.map_append]
    refine List.nodup_append.mpr ⟨g6, by simp, fun a ha b hb e => ?_⟩
    rw [List.map_cons, List.map_nil, List.mem_singleton] at hb
    rw [e, hb] at ha
    exact fr ha
theorem putAll {d o : Addr} {acc more : List (κ × Value)} {Q : Unit → Shared → Prop} (hne : acc ≠ []) (hdo : d ≠ o) (hS : (o == sysModules) = false) (hd : s.heap.DictOf knd d acc) (ho : s.heap.DictOf knd o more)
    (fr : ((acc ++ more).map (·.1)).Nodup) (hz : acc.length + more.length ≤ sizeLine) (hQ : ∀ h', h'.DictOf knd d (acc ++ more) → Heap.SameBut d s.heap h' → Q () { s with heap := h' }) :
    wpAny (model prog w) A (mergeMapping d (.ref o) false) Q E s := by
  obtain ⟨od, ed, pd, a1, a2, a3, a4, a5, a6⟩ := id hd
  obtain ⟨oo, eo, po, b1, b2, b3, b4, b5, b6⟩ := id ho
  have el : eo.size = more.length := by rw [← Array.length_toList]; exact b5.length
  have edne : ed.isEmpty = false := by
    have l := a5.length
    rw [Array.length_toList] at l
    have : acc.length ≠ 0 := fun z => hne (List.length_eq_zero_iff.mp z)
    simp only [Array.isEmpty, decide_eq_false_iff_not]
    omega
  unfold mergeMapping
  refine wpAny_bind (wpAny_isInstance ho.typeIs isSubtype_dict_dict ?_)
  dsimp only
  rw [if_pos rfl]
  refine wpAny_bind (wpAny_specialOf ho.typeIs F.slot_dict_iter.lookup (wpAny_bind (wpAny_pure ?_)))
  have e0 : (some (Value.builtin "dict.__iter__") == some (Value.builtin "dict.__iter__")) = true := by decide +kernel
  rw [e0]
  dsimp only
  rw [hS, if_neg Bool.false_ne_true]
  refine wpAny_bind (wpAny_dictEntries a1 a3 ?_)
  rw [edne, if_neg Bool.false_ne_true]
  refine wpAny_bind (wpAny_dictEntries b1 b3 ?_)
  refine wpAny_bind (wpAny_dictEpoch b1 b3 ?_)
  refine wpAny_bind ?_
  refine wpAny_forIn_list _ (fun rest _ s' => ∃ h' i, s' = { s with heap := h' } ∧ rest = List.range' i (eo.size - i) ∧ i ≤ eo.size ∧ h'.DictOf knd d (acc ++ more.take i) ∧ h'.get? o = some oo ∧ Heap.SameBut d s.heap h') _ ?_ ?_ _ _ ⟨s.heap, 0, rfl, ?_, Nat.zero_le _, ?_, b1, Heap.SameBut.refl _ _⟩
  · rintro x rest b s' ⟨h', i, rfl, hr, hi, hd', ho', hs'⟩
    have hlt : i < eo.size := by
      by_cases z : i < eo.size
      · exact z
      · rw [Nat.sub_eq_zero_of_le (by omega)] at hr; simp at hr
    have hr2 : x :: rest = i :: List.range' (i + 1) (eo.size - (i + 1)) := by
      rw [hr, show eo.size - i = (eo.size - (i + 1)) + 1 by omega, List.range'_succ]
    injection hr2 with hx hrest
    subst hx
    refine wpAny_bind (wpAny_dictEntries ho' b3 ?_)
    rw [Array.getElem?_eq_getElem hlt]
    have hlm : x < more.length := by omega
    have hkv : more[x]? = some more[x] := List.getElem?_eq_getElem hlm
    obtain ⟨hkey, hval⟩ := b5.get? (e := eo[x]) (by simp [hlt]) hkv
    obtain ⟨k', hkey', hhash⟩ := b4 eo[x] (Array.getElem_mem hlt)
    obtain rfl : k' = more[x].1 := knd.inj _ _ _ hkey' hkey
    dsimp only
    rw [hhash, hval, if_neg Bool.false_ne_true]
    have et : more.take (x + 1) = more.take x ++ [more[x]] := by rw [List.take_add_one, hkv]; rfl
    have fr2 : more[x].1 ∉ (acc ++ more.take x).map (·.1) := by
      have e1 : acc ++ more = (acc ++ more.take x) ++ more[x] :: more.drop (x + 1) := by
        rw [List.append_assoc, ← List.drop_eq_getElem_cons hlm, List.take_append_drop]
      rw [e1, List.map_append, List.map_cons] at fr
      exact fun z => (List.nodup_append.mp fr).2.2 _ z _ List.mem_cons_self rfl
    refine wpAny_bind (wpAny_holding (put1 hkey hd' fr2 (by rw [List.length_append, List.length_take]; omega) fun h2 hd2 hs2 => ?_))
    have ho2 : h2.get? o = some oo := (hs2.2 o (Ne.symm hdo)).trans ho'
    refine wpAny_bind (wpAny_dictEpoch ho2 b3 ?_)
    rw [if_neg (by simp)]
    refine wpAny_pure ⟨h2, x + 1, rfl, hrest, hlt, ?_, ho2, hs'.trans hs2⟩
    rw [et, ← List.append_assoc]
    exact hd2
  · rintro b s' ⟨h', i, rfl, hr, hi, hd', ho', hs'⟩
    have hin : i = eo.size := by
      by_cases z : i < eo.size
      · rw [show eo.size - i = (eo.size - (i + 1)) + 1 by omega, List.range'_succ] at hr
        cases hr
      · omega
    refine wpAny_pure (hQ h' ?_ hs')
    rw [hin, el, List.take_length] at hd'
    exact hd'
  · rw [List.range_eq_range', Nat.sub_zero]
  · rw [List.take_zero, List.append_nil]
    exact hd
end
end
section
variable {X : Cx} {pos : Pos}
/-- a display of constants, of eighteen to thirty-two keys, no key twice -/
def tLitD (kvs : List (Key × V)) : TE := fun σ H Q => ∀ p, H p = none → Q (.ref p) (upd H p (.dK kvs))
theorem paired_app {α β : Type} {R : α → β → Prop} : ∀ {as cs : List α} {bs ds : List β}, Paired R as bs → Paired R cs ds → Paired R (as ++ cs) (bs ++ ds)
  | _, _, _, _, .nil, h => h
  | _, _, _, _, .cons a t, h => .cons a (paired_app t h)
theorem kv_keys : ∀ {kvs : List (Key × V)} {rs : List (Key × Value)}, KV kvs rs → rs.map (·.1) = kvs.map (·.1)
  | _, _, h => by
    unfold KV at h
    induction h with
    | nil => rfl
    | cons a _ ih => rw [List.map_cons, List.map_cons, ih, a.1]
theorem pe_litD {k1 k2 : List (Option Expr)} {v1 v2 : List Expr} {kvs : List (Key × V)} (h : litK (k1 ++ k2) (v1 ++ v2) = some kvs) (hn : (kvs.map (·.1)).Nodup) (h1 : k1.length = 17) (e1 : v1.length = 17) (h2 : k2.length ≤ 16) (h0 : k2 ≠ []) :
    PE X (.Dict (k1 ++ k2) (v1 ++ v2) pos) (tLitD kvs) := by
  refine ⟨fun pins s σ H Q I q => ?_⟩
  obtain ⟨a, b, l1, l2, rfl⟩ := litK_app (h1.trans e1.symm) h
  obtain ⟨al, hl, _⟩ := litK_all h
  obtain ⟨al1, hl1, z1⟩ := litK_all l1
  obtain ⟨al2, hl2, z2⟩ := litK_all l2
  have split : ∀ (ks : List (Option Expr)) (vs : List Expr) (ls : List (Option Expr)) (us : List Expr) (env : Env), ks.length = vs.length → pairTrees (ks ++ ls) (vs ++ us) env pos = pairTrees ks vs env pos ++ pairTrees ls us env pos ∨ ks.all (·.isSome) = false := by
    intro ks
    induction ks with
    | nil => intro vs ls us env e; cases vs with
      | nil => exact .inl rfl
      | cons _ _ => simp at e
    | cons k ks ih =>
      intro vs ls us env e
      cases vs with
      | nil => simp at e
      | cons v vs =>
        cases k with
        | none => exact .inr rfl
        | some k =>
          rcases ih vs ls us env (by simpa using e) with z | z
          · exact .inl (by show _ :: pairTrees (ks ++ ls) (vs ++ us) env pos = _; rw [z]; rfl)
          · exact .inr (by simpa using z)
  have sp : pairTrees (k1 ++ k2) (v1 ++ v2) X.env pos = pairTrees k1 v1 X.env pos ++ pairTrees k2 v2 X.env pos := by
    rcases split k1 v1 k2 v2 X.env hl1 with z | z
    · exact z
    · rw [al1] at z; cases z
  have p1 := pairTrees_length k1 v1 X.env pos al1 hl1
  have p2 := pairTrees_length k2 v2 X.env pos al2 hl2
  obtain ⟨xs, p, ex⟩ : ∃ xs p, pairTrees k1 v1 X.env pos = xs ++ [p] := by
    refine ⟨(pairTrees k1 v1 X.env pos).dropLast, (pairTrees k1 v1 X.env pos).getLast (fun z => by rw [z] at p1; simp at p1; omega), ?_⟩
    exact (List.dropLast_concat_getLast _).symm
  have n2 : pairTrees k2 v2 X.env pos ≠ [] := fun z => by
    rw [z] at p2
    exact h0 (List.length_eq_zero_iff.mp p2.symm)
  rw [arm_eval_Dict, zip_pairTrees _ _ _ _ al hl, sp, ex, List.append_assoc, List.singleton_append]
  rw [disp_two xs p _ (by rw [ex] at p1; simp at p1; omega) (by omega) n2, ← ex]
  refine wpAny_bind (wpAny_standAt ?_)
  refine wpAny_bind (pieceK l1 (by omega) fun h1' t1 rs r1 d1 k1' => ?_)
  refine wpAny_bind (wpAny_holding (pieceK l2 (by omega) fun h2' t2 us r2 d2 k2' => ?_))
  have nd : (rs.map (·.1) ++ us.map (·.1)).Nodup := by rw [kv_keys r1, kv_keys r2, ← List.map_append]; exact hn
  rw [merged_nil_of_nodup rs (List.nodup_append.mp nd).1] at d1
  rw [merged_nil_of_nodup us (List.nodup_append.mp nd).2.1] at d2
  have lt1 : s.heap.objs.size < h1'.objs.size := by
    obtain ⟨o, _, _, e, _⟩ := id d1
    exact Heap.lt_size e
  have lt2 : h1'.objs.size < h2'.objs.size := by
    obtain ⟨o, _, _, e, _⟩ := id d2
    exact Heap.lt_size e
  have d1' : h2'.DictOf (mixKind X.prog X.w) s.heap.objs.size rs := by
    obtain ⟨o, es, ep, e, r⟩ := id d1
    exact ⟨o, es, ep, k2' _ _ e, r⟩
  have hb : sysModules < s.heap.objs.size := I.big
  have n1 : rs.length = 17 := by rw [← Paired.length r1, z1, h1]
  have n3 : us.length = k2.length := by rw [← Paired.length r2, z2]
  refine wpAny_bind (wpAny_onRaise (wpAny_holding (putAll (fun z => ?_) (Nat.ne_of_lt lt1) ?_ d1' d2 (by rw [List.map_append]; exact nd) ?_ fun h3 d3 s3 => wpAny_pure ?_)))
  · rw [z] at n1
    cases n1
  · exact beq_eq_false_iff_ne.mpr (Ne.symm (Nat.ne_of_lt (Nat.lt_trans hb lt1)))
  · rw [n1, n3, sizeLine_eq]; omega
  · have q1 := q s.heap.objs.size (I.hok.fresh (Nat.le_refl _))
    refine ⟨.ref s.heap.objs.size, _, I.laid (o := .dK (a ++ b)) (t' := t2) (fun c o e => ?_) (Nat.le_refl _) ?_, rfl, q1⟩
    · exact (s3.2 c (Nat.ne_of_lt (Heap.lt_size e))).trans (k2' c o (k1' c o e))
    · exact ⟨by rw [List.length_append, z1, z2, sizeLine_eq]; omega, beq_eq_false_iff_ne.mpr (Ne.symm (Nat.ne_of_lt hb)), rs ++ us, paired_app r1 r2, d3⟩
end
end DL

/-! DL, more: dict displays and d.get, constants of the module, zip, text times int. -/
namespace DL
open PySem PySem.Spec PyProof.Rows L2
open TL (tl len_tl ext_tl tl_append tl_mk mk_tl map_tl_inj tl_ofString)
section
variable {X : Cx} {a b c e : Expr} {es : List Expr} {f g h : Reg → Option D} {ta tb tc t te : TE} {pos : Pos} {tA tB' : TT} {p q : Reg → Option Bool} {rest : List Expr}
/-! ### text times int -/
def repL (l : List Nat) (k : Nat) : List Nat := (List.replicate k l).flatten
theorem tl_fold : ∀ (k : Nat) (x : Array Nat) (acc : Array Nat), ((List.replicate k x).foldl (· ++ ·) acc).toList = acc.toList ++ (List.replicate k x.toList).flatten
  | 0, x, acc => by simp
  | k + 1, x, acc => by
    rw [List.replicate_succ, List.foldl_cons, tl_fold k x (acc ++ x), List.replicate_succ, List.flatten_cons, Array.toList_append, List.append_assoc]
theorem tl_mul (x : Str) (n : Int) : tl (Txt.mul x n) = repL (tl x) n.toNat := by
  unfold Txt.mul repL
  by_cases h1 : n < 1
  · rw [if_pos h1, show n.toNat = 0 by omega]
    rfl
  · rw [if_neg h1]
    by_cases h2 : (n == 1 || x.length == 0) = true
    · rw [if_pos h2]
      rcases (Bool.or_eq_true _ _).mp h2 with e | e
      · have : n = 1 := by simpa using e
        subst this
        simp
      · have e0 : x.length = 0 := by simpa using e
        have e1 : tl x = [] := List.length_eq_zero_iff.mp ((len_tl x).trans e0)
        rw [e1]
        have : ∀ k : Nat, (List.replicate k ([] : List Nat)).flatten = [] := fun k => by induction k with
          | zero => rfl
          | succ k ih => rw [List.replicate_succ, List.flatten_cons, ih]; rfl
        rw [this]
    · rw [if_neg h2]
      exact tl_fold n.toNat x.cps #[]
def dMulS : D → D → Option D
  | .str l, .int n => if n ≤ 1000 ∧ -1000 ≤ n ∧ l.length ≤ 1000 then some (.str (repL l n.toNat)) else none
  | _, _ => none
theorem op_mulS : OpR X (binaryOp .Mult) (fun x y H Q => ∃ z n, x = .str z ∧ y = .int n ∧ (n ≤ 1000 ∧ -1000 ≤ n ∧ z.length ≤ 1000) ∧ Q (.str (Txt.mul z n)) H) := by
  intro pins s σ H x y v u Q I rx ry h
  obtain ⟨z, n, rfl, rfl, ⟨h1, h2, h3⟩, q⟩ := h
  obtain ⟨t, rfl⟩ := rx
  obtain ⟨t', rfl⟩ := ry
  refine SB.mul ⟨?_, fun h4 _ => ?_, fun h4 _ => ?_⟩ fun t2 k => ⟨.str _, H, I.tok _, ⟨_, rfl⟩, q⟩
  · simp; omega
  · have : 1000 ≤ (2 ^ 63 - 1) / n := Int.le_ediv_of_mul_le (by omega) (by omega)
    omega
  · unfold Builtin.Str.tooLong
    have : z.length * n.toNat ≤ 1000 * 1000 := Nat.mul_le_mul h3 (by omega)
    have := sizeLine_eq
    exact decide_eq_false (by omega)
theorem rd_mulS {Y : Kn} : RdE Y (fun x y H Q => ∃ z n, x = .str z ∧ y = .int n ∧ (n ≤ 1000 ∧ -1000 ≤ n ∧ z.length ≤ 1000) ∧ Q (.str (Txt.mul z n)) H) dMulS := by
  intro H F x y da db d Q s rx ry e k
  unfold dMulS at e
  split at e
  · split at e
    · rename_i hh
      cases e
      obtain ⟨z, rfl, ez⟩ := rx.str
      subst ez
      refine ⟨z, _, rfl, ry.int, ⟨hh.1, hh.2.1, by have := len_tl z; omega⟩, k _ H F (.refl s) ?_⟩
      rw [← tl_mul]
      exact .str _
    · cases e
  · cases e
def de_mulS (ha : DB X a ta f) (hb : DB X b tb g) := (de_op op_mulS rd_mulS ha hb : DE X (.BinOp a .Mult b pos) (tOp _ ta tb) (bin2 f g dMulS))
/-! ### zip of two lists -/
def zipD : List D → List D → List D
  | x :: xs, y :: ys => .tup [x, y] :: zipD xs ys
  | _, _ => []
theorem zipD_len : ∀ (xs ys : List D), (zipD xs ys).length = min xs.length ys.length
  | [], _ => by simp [zipD]
  | _ :: _, [] => by simp [zipD]
  | x :: xs, y :: ys => by simp [zipD, zipD_len xs ys]
theorem zipD_at : ∀ {xs ys : List D} {i : Nat} {d : D}, (zipD xs ys)[i]? = some d → ∃ x y, xs[i]? = some x ∧ ys[i]? = some y ∧ d = .tup [x, y]
  | [], _, _, _, e => by simp [zipD] at e
  | _ :: _, [], _, _, e => by simp [zipD] at e
  | x :: xs, y :: ys, 0, d, e => by simp [zipD] at e; exact ⟨x, y, rfl, rfl, e.symm⟩
  | x :: xs, y :: ys, i + 1, d, e => by
    obtain ⟨u, v, h1, h2, h3⟩ := zipD_at (xs := xs) (ys := ys) (i := i) (by simpa [zipD] using e)
    exact ⟨u, v, by simpa using h1, by simpa using h2, h3⟩
def zipV (fs : Reg → Option (List D)) : Reg → Option (List D) := fun ρ => (fs ρ).bind fun
  | [.lst xs, .lst ys] => some (zipD xs ys)
  | _ => none
theorem wlk_zip {Y : Kn} {a b : Addr} {F1 : Hp} {xs ys : List V} {ds es : List D} (h1 : SqL Y.K F1 a xs) (h2 : SqL Y.K F1 b ys) (r1 : Reps Y F1 xs ds) (r2 : Reps Y F1 ys es) : Wlk Y (Itz Y.K a b) F1 (zipD ds es) := by
  have l1 := r1.length
  have l2 := r2.length
  refine ⟨fun i H F hi s1 s2 => ?_, fun H F s1 s2 => ?_, fun i H F x H' d e s1 s2 y => ?_⟩
  · rw [zipD_len] at hi
    have i1 : i < xs.length := by omega
    have i2 : i < ys.length := by omega
    exact ⟨xs, ys, xs[i], ys[i], sqL_sub (s1.trans s2) h1, sqL_sub (s1.trans s2) h2, by simp [i1], by simp [i2]⟩
  · refine ⟨xs, ys, sqL_sub (s1.trans s2) h1, sqL_sub (s1.trans s2) h2, ?_⟩
    rw [zipD_len]
    omega
  · obtain ⟨T, u, v, rfl, hT, rfl, k1, k2⟩ := y
    obtain ⟨x, y, e1, e2, rfl⟩ := zipD_at e
    obtain ⟨u', eu, ru⟩ := r1.get e1
    obtain ⟨v', ev, rv⟩ := r2.get e2
    have z1 := k1 xs (sqL_sub (s1.trans s2) h1)
    have z2 := k2 ys (sqL_sub (s1.trans s2) h2)
    rw [eu] at z1
    rw [ev] at z2
    cases z1
    cases z2
    have x2 := ext_newF (o := .tup [u, v]) s2 hT
    exact ⟨_, x2, .tup (.inl (.inl upd_same)) (.cons ((ru.mono s1).mono x2.f) (.cons ((rv.mono s1).mono x2.f) .nil))⟩
theorem di_zip {elts : List Expr} {kk : Nat} {tpos : Pos} {fs : Reg → Option (List D)} {ts : TA} {p : Pos} (hm : X.mg "zip" = none) (ha : DA X [a, b] ts fs) (hg : Gl X "zip" := by rfl)
    (hs : starEach [a, b] X.env = (false, eval a X.env) :: starEach [b] X.env := by rfl) (hpl : (backTo pos (starEach [b] X.env)).any (·.1) = false := by rfl) : DI X (.Tuple elts kk tpos) (.Call (.Name "zip" p) [a, b] [] pos) (iZip X.K ts) (zipV fs) := by
  refine ⟨pi_zip hg hm ha.p hs hpl, fun σ H F ρ ds R r q k => ?_⟩
  obtain ⟨es, e1, e2⟩ := Option.bind_eq_some_iff.mp q
  refine ha.q σ H F ρ es _ r e1 fun vs H' F' x rv => ?_
  split at e2
  · cases e2
    cases rv with
    | cons a b =>
      cases b with
      | cons c d =>
        cases d
        cases a with
        | lst h1 r1 =>
          cases c with
          | lst h2 r2 => exact ⟨_, _, _, _, rfl, sqL_sub x.s h1, sqL_sub x.s h2, k _ H' F' x (wlk_zip h1 h2 r1 r2)⟩
  · cases e2
/-! ### d.get(k) -/
def dGet1 : D → D → Option D
  | .dic kvs, y => (dkD y).map fun k => (lookD k kvs).getD .non
  | _, _ => none
theorem de_get1 {k : Nat} {apos : Pos} (hr : Room k X.A) (ha : DB X a ta f) (hb : DB X b tb g) (hbase : attributeBase a "get" X.env (eval a X.env) = eval a X.env := by rfl)
    (hfew : ((backTo pos (starEach [b] X.env)).all (fun x => !x.1) && (backToKw pos (keywordEach [] X.env)).all (fun x => x.1.isSome) && decide (([b] : List Expr).length + ([] : List Keyword).length + (if ([] : List Keyword).isEmpty then 0 else 1) < 30)) = true := by rfl)
    (hline : (apos.endLine == pos.line) = true := by rfl) (htr : backTo pos (starEach [b] X.env) = [(false, eval b X.env)] := by rfl) :
    DE X (.Call (.Attribute a "get" apos) [b] [] pos) (tDGet1 ta tb) (bin2 f g dGet1) := by
  refine ⟨pe_dget1 (hu_of hr) ha.p hb.p ⟨hbase, hfew, hline, htr⟩, fun σ H F ρ d Q r0 e kk => ?_⟩
  obtain ⟨x, y, e1, e2, e3⟩ := bin2_some e
  unfold dGet1 at e3
  split at e3
  · obtain ⟨k0, e4, e5⟩ := Option.map_eq_some_iff.mp e3
    refine ha.q σ H F ρ _ _ r0 e1 fun v H1 F1 x1 r1 => ?_
    obtain ⟨p, kvs, rfl, h1, rk⟩ := r1.dic x1.s
    refine ⟨p, rfl, .inl ⟨kvs, .inl h1⟩, hb.q σ H1 F1 ρ y _ (r0.ext x1) e2 fun w H2 F2 x2 r2 => ?_⟩
    have ew := dkD_rep r2 e4
    subst ew
    have h2 := x2.h _ _ h1
    refine ⟨_, DGet.k (k := keyOf k0) h2, ?_⟩
    rcases val_repK (k := k0) rk with ⟨h3, h4⟩ | ⟨d', v', h3, h4, h5⟩
    · rw [h4]
      rw [h3] at e5
      cases e5
      exact kk _ H2 F2 (x1.trans x2) .non
    · rw [h4]
      rw [h3] at e5
      cases e5
      exact kk _ H2 F2 (x1.trans x2) (h5.mono x2.f)
  · cases e3
/-! ### displays of constants -/
/-- the display's keys and values are these data -/
inductive LitR : List (Option Expr) → List Expr → List (DK × D) → Prop where
  | nil : LitR [] [] []
  | ss {s u : String} {j k : Nat} {p p' : Pos} {ks : List (Option Expr)} {vs : List Expr} {ds : List (DK × D)} (r : LitR ks vs ds) : LitR (some (.Constant (.str (Str.ofString s)) j p) :: ks) (.Constant (.str (Str.ofString u)) k p' :: vs) ((.inr (lit s), .str (lit u)) :: ds)
  | si {s : String} {u : Int} {j k : Nat} {p p' : Pos} {ks : List (Option Expr)} {vs : List Expr} {ds : List (DK × D)} (r : LitR ks vs ds) : LitR (some (.Constant (.str (Str.ofString s)) j p) :: ks) (.Constant (.int u) k p' :: vs) ((.inr (lit s), .int u) :: ds)
  | is {s : Int} {u : String} {j k : Nat} {p p' : Pos} {ks : List (Option Expr)} {vs : List Expr} {ds : List (DK × D)} (r : LitR ks vs ds) : LitR (some (.Constant (.int s) j p) :: ks) (.Constant (.str (Str.ofString u)) k p' :: vs) ((.inl s, .str (lit u)) :: ds)
  | ii {s u : Int} {j k : Nat} {p p' : Pos} {ks : List (Option Expr)} {vs : List Expr} {ds : List (DK × D)} (r : LitR ks vs ds) : LitR (some (.Constant (.int s) j p) :: ks) (.Constant (.int u) k p' :: vs) ((.inl s, .int u) :: ds)
theorem keyOf_lit (s : String) : keyOf (.inr (lit s)) = .inr (Str.ofString s) := by
  show (Sum.inr (⟨(lit s).toArray⟩ : Str) : Key) = .inr (Str.ofString s)
  have e : lit s = tl (Str.ofString s) := (tl_ofString s).symm
  rw [e, mk_tl]
theorem LitR.ok {ks : List (Option Expr)} {vs : List Expr} {ds : List (DK × D)} (h : LitR ks vs ds) : ∃ kvs, litK ks vs = some kvs ∧ (∀ (Y : Kn) (F : Hp), RepK Y F kvs ds) ∧ kvs.map (·.1) = ds.map fun d => keyOf d.1 := by
  induction h with
  | nil => exact ⟨[], rfl, fun _ _ => .nil, rfl⟩
  | @ss s u j k p p' ks vs ds r ih =>
    obtain ⟨kvs, e, q, w⟩ := ih
    refine ⟨(.inr (Str.ofString s), .str (Str.ofString u)) :: kvs, by unfold litK; rw [e]; rfl, fun Y F => ?_, by rw [List.map_cons, List.map_cons, w, keyOf_lit]⟩
    have := RepK.cons (Y := Y) (F := F) (k := .inr (lit s)) (rep_lit u) (q Y F)
    rw [keyOf_lit] at this
    exact this
  | @si s u j k p p' ks vs ds r ih =>
    obtain ⟨kvs, e, q, w⟩ := ih
    refine ⟨(.inr (Str.ofString s), .int u) :: kvs, by unfold litK; rw [e]; rfl, fun Y F => ?_, by rw [List.map_cons, List.map_cons, w, keyOf_lit]⟩
    have := RepK.cons (Y := Y) (F := F) (k := .inr (lit s)) (.int u) (q Y F)
    rw [keyOf_lit] at this
    exact this
  | @is s u j k p p' ks vs ds r ih =>
    obtain ⟨kvs, e, q, w⟩ := ih
    refine ⟨(.inl s, .str (Str.ofString u)) :: kvs, by unfold litK; rw [e]; rfl, fun Y F => ?_, by rw [List.map_cons, List.map_cons, w]; rfl⟩
    exact RepK.cons (Y := Y) (F := F) (k := .inl s) (rep_lit u) (q Y F)
  | @ii s u j k p p' ks vs ds r ih =>
    obtain ⟨kvs, e, q, w⟩ := ih
    refine ⟨(.inl s, .int u) :: kvs, by unfold litK; rw [e]; rfl, fun Y F => ?_, by rw [List.map_cons, List.map_cons, w]; rfl⟩
    exact RepK.cons (Y := Y) (F := F) (k := .inl s) (.int u) (q Y F)
theorem nodup_keyOf {ds : List (DK × D)} (h : (ds.map (·.1)).Nodup) : (ds.map fun d => keyOf d.1).Nodup := by
  have e : (ds.map fun d => keyOf d.1) = (ds.map (·.1)).map keyOf := by rw [List.map_map]; rfl
  rw [e]
  exact List.Pairwise.map keyOf (fun a b n z => n (keyOf_inj.mp z)) h
/-- a display of one to sixteen keys -/
theorem pe_litS {keys : List (Option Expr)} {values : List Expr} {kvs : List (Key × V)} (h : litK keys values = some kvs) (hn : (kvs.map (·.1)).Nodup) (h1 : keys.length ≤ 16) (h0 : keys ≠ []) : PE X (.Dict keys values pos) (tLitD kvs) := by
  refine ⟨fun pins s σ H Q I q => ?_⟩
  obtain ⟨al, hl, hz⟩ := litK_all h
  have p1 := pairTrees_length keys values X.env pos al hl
  have n0 : pairTrees keys values X.env pos ≠ [] := fun z => by
    rw [z] at p1
    exact h0 (List.length_eq_zero_iff.mp p1.symm)
  rw [arm_eval_Dict, zip_pairTrees _ _ _ _ al hl, dictDisplay_pairs _ n0 (by omega)]
  refine wpAny_bind (wpAny_standAt ?_)
  refine wpAny_bind (pieceK h (by omega) fun h1' t1 rs r1 d1 k1 => wpAny_pure ?_)
  rw [merged_nil_of_nodup rs (by rw [kv_keys r1]; exact hn)] at d1
  have hb : sysModules < s.heap.objs.size := I.big
  refine ⟨.ref s.heap.objs.size, _, I.laid (o := .dK kvs) (t' := t1) k1 (Nat.le_refl _) ?_, rfl, q _ (I.hok.fresh (Nat.le_refl _))⟩
  exact ⟨by rw [hz, sizeLine_eq]; omega, beq_eq_false_iff_ne.mpr (Ne.symm (Nat.ne_of_lt hb)), rs, r1, d1⟩
def tLitDs (keys : List (Option Expr)) (values : List Expr) : TE := fun σ H Q => ∃ kvs, litK keys values = some kvs ∧ tLitD kvs σ H Q
theorem dn_dict {keys : List (Option Expr)} {values : List Expr} {ds : List (DK × D)} (h : LitR keys values ds) (hn : (ds.map (·.1)).Nodup) (hz : (0 < keys.length ∧ keys.length ≤ 16) ∨ (17 < keys.length ∧ keys.length ≤ 33)) : DN X (.Dict keys values pos) (tLitDs keys values) (fun _ => some (.dic ds)) := by
  obtain ⟨kvs, e, r, w⟩ := h.ok
  have hn' : (kvs.map (·.1)).Nodup := by rw [w]; exact nodup_keyOf hn
  refine ⟨⟨fun pins s σ H Q I ⟨kvs', e', q⟩ => ?_⟩, fun σ H F ρ d Q r0 e1 k => ?_⟩
  · rw [e] at e'
    cases e'
    rcases hz with ⟨z0, z1⟩ | ⟨z0, z1⟩
    · exact (pe_litS e hn' z1 (fun z => by rw [z] at z0; exact absurd z0 (Nat.lt_irrefl _))).run pins s σ H Q I q
    · obtain ⟨al, hl, _⟩ := litK_all e
      have ek : keys.take 17 ++ keys.drop 17 = keys := List.take_append_drop _ _
      have ev : values.take 17 ++ values.drop 17 = values := List.take_append_drop _ _
      have := pe_litD (X := X) (pos := pos) (k1 := keys.take 17) (k2 := keys.drop 17) (v1 := values.take 17) (v2 := values.drop 17) (kvs := kvs) (by rw [ek, ev]; exact e) hn' (by rw [List.length_take]; omega) (by rw [List.length_take]; omega)
        (by rw [List.length_drop]; omega) (fun z => by have := congrArg List.length z; rw [List.length_drop] at this; simp at this; omega)
      rw [ek, ev] at this
      exact this.run pins s σ H Q I q
  · cases e1
    refine ⟨kvs, e, fun p hp => ?_⟩
    exact k p _ F (ext_new r0.sub hp) hp (none_of_sub r0.sub hp) ⟨kvs, upd_same, r _ _⟩
/-- the empty display -/
theorem dn_dict0 : DN X (.Dict [] [] pos) tDNewK (fun _ => some (.dic [])) := by
  refine ⟨pe_dnewK, fun σ H F ρ d Q r0 e1 k => ?_⟩
  cases e1
  intro p hp
  exact k p _ F (ext_new r0.sub hp) hp (none_of_sub r0.sub hp) ⟨[], upd_same, .nil⟩
/-! ### constants of the module -/
/-- a name of the module that stands for a constant -/
def Cst (mg : Str → Option Value) (x : Str) (v : V) : Prop := ∃ u, mg x = some u ∧ RelV v u
theorem de_cint {x : Str} {p : Pos} {i : Int} (h : Cst X.mg x (.int i)) (hg : Gl X x := by rfl) (hd : (x == ("__debug__" : Str)) = false := by decide) : DE X (.Name x p) (tC (.int i)) (fun _ => some (.int i)) :=
  ⟨let ⟨_, h1, h2⟩ := h; pe_glob hg h1 h2 hd, fun σ H F ρ d Q r e k => by cases e; exact k _ H F (.refl r.sub) (.int i)⟩
theorem de_cstr {x : Str} {p : Pos} {s : String} (h : Cst X.mg x (.str (Str.ofString s))) (hg : Gl X x := by rfl) (hd : (x == ("__debug__" : Str)) = false := by decide) : DE X (.Name x p) (tC (.str (Str.ofString s))) (fun _ => some (.str (lit s))) :=
  ⟨let ⟨_, h1, h2⟩ := h; pe_glob hg h1 h2 hd, fun σ H F ρ d Q r e k => by cases e; exact k _ H F (.refl r.sub) (rep_lit s)⟩
/-! ### dicts of the module -/
mutual
def wvOk (K : PySem.W.Frag) : Value → D → Bool
  | .str z _, .str l => tl z == l
  | .int i _, .int j => i == j
  | .ref b, .tup ds => match K.lookup b with
    | some ⟨.type "tuple", _, .seq its _, _⟩ => decide (its.size ≤ 100) && wvsOk K its.toList ds
    | _ => false
  | _, _ => false
def wvsOk (K : PySem.W.Frag) : List Value → List D → Bool
  | [], [] => true
  | u :: us, d :: ds => wvOk K u d && wvsOk K us ds
  | _, _ => false
end
mutual
theorem wv_rep {K : PySem.W.Frag} : ∀ {u : Value} {d : D}, wvOk K u d = true → ∃ v, RelV v u ∧ ∀ (mg : Str → Option Value) (F : Hp), Rep ⟨K, mg⟩ F v d := by
  intro u d h
  unfold wvOk at h
  split at h
  · rename_i z t l
    have e : tl z = l := by simpa using h
    subst e
    exact ⟨.str z, ⟨t, rfl⟩, fun _ _ => .str z⟩
  · rename_i i t j
    have e : i = j := by simpa using h
    subst e
    exact ⟨.int i, ⟨t, rfl⟩, fun _ _ => .int i⟩
  · rename_i b ds
    split at h
    · rename_i dd its n sl hk
      obtain ⟨h1, h2⟩ := Bool.and_eq_true_iff.mp h
      obtain ⟨vs, rv, rr⟩ := wvs_reps h2
      have h3 := of_decide_eq_true h1
      exact ⟨.ref b, rfl, fun mg F => .tup (.inr ⟨_, its, n, hk, rfl, rfl, by rw [sizeLine_eq]; omega, rv⟩) (rr mg F)⟩
    · cases h
  · cases h
theorem wvs_reps {K : PySem.W.Frag} : ∀ {us : List Value} {ds : List D}, wvsOk K us ds = true → ∃ vs, Vals vs us ∧ ∀ (mg : Str → Option Value) (F : Hp), Reps ⟨K, mg⟩ F vs ds := by
  intro us ds h
  cases us with
  | nil => cases ds with
    | nil => exact ⟨[], .nil, fun _ _ => .nil⟩
    | cons _ _ => simp [wvsOk] at h
  | cons u us => cases ds with
    | nil => simp [wvsOk] at h
    | cons d ds =>
      obtain ⟨h1, h2⟩ := Bool.and_eq_true_iff.mp (show (wvOk K u d && wvsOk K us ds) = true by simpa [wvsOk] using h)
      obtain ⟨v, r1, q1⟩ := wv_rep h1
      obtain ⟨vs, r2, q2⟩ := wvs_reps h2
      exact ⟨v :: vs, .cons r1 r2, fun mg F => .cons (q1 mg F) (q2 mg F)⟩
end
def tabOk (K : PySem.W.Frag) : List DictEntry → List (List Nat × D) → Bool
  | [], [] => true
  | e :: es, (l, d) :: tab => (match e.key with
    | .str z _ => tl z == l
    | _ => false) && wvOk K e.val d && tabOk K es tab
  | _, _ => false
def lookL (l : List Nat) : List (List Nat × D) → Option D
  | [] => none
  | (m, d) :: tab => if m = l then some d else lookL l tab
theorem tab_find {K : PySem.W.Frag} (z : Str) : ∀ {es : List DictEntry} {tab : List (List Nat × D)}, tabOk K es tab = true →
    (lookL (tl z) tab = none ∧ es.find? (fun e => e.key.isStr z) = none ∧ es.any (fun e => e.refKey) = false) ∨ ∃ d e, lookL (tl z) tab = some d ∧ es.find? (fun e => e.key.isStr z) = some e ∧ wvOk K e.val d = true
  | [], [], _ => .inl ⟨rfl, rfl, rfl⟩
  | [], _ :: _, h => by simp [tabOk] at h
  | _ :: _, [], h => by simp [tabOk] at h
  | e :: es, (l, d) :: tab, h => by
    obtain ⟨h12, h3⟩ := Bool.and_eq_true_iff.mp (show ((_ && wvOk K e.val d) && tabOk K es tab) = true by simpa [tabOk] using h)
    obtain ⟨h1, h2⟩ := Bool.and_eq_true_iff.mp h12
    split at h1
    · rename_i y t hk
      have ey : tl y = l := by simpa using h1
      subst ey
      have eb : e.key.isStr z = decide (tl y = tl z) := by
        rw [hk]
        exact tl_beq
      by_cases ez : tl y = tl z
      · refine .inr ⟨d, e, by unfold lookL; rw [if_pos ez], ?_, h2⟩
        rw [List.find?_cons, eb, decide_eq_true ez]
      · have ek : e.refKey = false := by unfold DictEntry.refKey; rw [hk]
        have el : lookL (tl z) ((tl y, d) :: tab) = lookL (tl z) tab := by
          rw [lookL, if_neg ez]
        rw [List.find?_cons, eb, decide_eq_false ez, el, List.any_cons, ek]
        exact tab_find z h3
    · cases h1
/-- a name of the module that stands for a dict of these data, with texts for keys -/
def WTab (K : PySem.W.Frag) (mg : Str → Option Value) (w : World) (x : Str) (tab : List (List Nat × D)) : Prop := ∃ a es n, mg x = some (.ref a) ∧ K.lookup a = some ⟨.type "dict", none, .dict es n, #[]⟩ ∧ PySem.W.KeysLit w.params es.toList ∧ tabOk K es.toList tab = true ∧ (a == sysModules) = false
theorem ns_tab {K : PySem.W.Frag} {a : Addr} {es : Array DictEntry} {n : Nat} {tab : List (List Nat × D)} (hl : K.lookup a = some ⟨.type "dict", none, .dict es n, #[]⟩) (ht : tabOk K es.toList tab = true) (z : Str) :
    (lookL (tl z) tab = none ∧ PySem.W.nsIn K a z = some none) ∨ ∃ d u v, lookL (tl z) tab = some d ∧ PySem.W.nsIn K a z = some (some u) ∧ RelV v u ∧ ∀ (mg : Str → Option Value) (F : Hp), Rep ⟨K, mg⟩ F v d := by
  unfold PySem.W.nsIn
  rw [hl]
  dsimp only
  rcases tab_find z ht with ⟨h1, h2, h3⟩ | ⟨d, e, h1, h2, h3⟩
  · refine .inl ⟨h1, ?_⟩
    rw [h2]
    dsimp only
    rw [if_neg (by rw [h3]; exact Bool.false_ne_true)]
  · obtain ⟨v, r, q⟩ := wv_rep h3
    exact .inr ⟨d, e.val, v, h1, by rw [h2], r, q⟩
def rInW (K : PySem.W.Frag) (w : World) (u : Bool → Bool) : R2 := fun x y H Q => ∃ z a es n r, x = .str z ∧ y = .ref a ∧ K.lookup a = some ⟨.type "dict", none, .dict es n, #[]⟩ ∧ PySem.W.KeysLit w.params es.toList ∧ (a == sysModules) = false ∧ PySem.W.nsIn K a z = some r ∧ Q (.bl (u r.isSome)) H
theorem op_inW : OpR X (compareOp .In) (rInW X.K X.w id) := by
  intro pins s σ H x y v u Q I rx ry h
  obtain ⟨z, a, es, n, r, rfl, rfl, hl, hk, lo, e, q⟩ := h
  obtain ⟨t, rfl⟩ := rx
  cases ry
  refine wpAny_in_of (strKind_is X.prog X.w z t) lo (PySem.W.mapOf_K I.kIn hl hk) ?_
  rw [PySem.W.find_K hl e]
  exact ⟨.bl _, H, I.tok _, rfl, q⟩
theorem op_notInW : OpR X (compareOp .NotIn) (rInW X.K X.w not) := by
  intro pins s σ H x y v u Q I rx ry h
  obtain ⟨z, a, es, n, r, rfl, rfl, hl, hk, lo, e, q⟩ := h
  obtain ⟨t, rfl⟩ := rx
  cases ry
  refine wpAny_notIn_of (strKind_is X.prog X.w z t) lo (PySem.W.mapOf_K I.kIn hl hk) ?_
  rw [PySem.W.find_K hl e]
  exact ⟨.bl _, H, I.tok _, rfl, q⟩
def wIn (tab : List (List Nat × D)) : D → Option Bool
  | .str l => some (lookL l tab).isSome
  | _ => none
def wNotIn (tab : List (List Nat × D)) (d : D) : Option Bool := (wIn tab d).map not
def wGet (tab : List (List Nat × D)) : D → Option D
  | .str l => lookL l tab
  | _ => none
def tstV (f : Reg → Option D) (k : D → Option Bool) : Reg → Option Bool := fun ρ => (f ρ).bind k
theorem w_core {x : Str} {tab : List (List Nat × D)} {H F : Hp} {v : V} {d : D} {c : Bool} {Q : VK} (u : Bool → Bool) (w : WTab X.K X.mg X.w x tab) (r : RepT (kn X) H F v d) (e : wIn tab d = some c) (k : Q (.bl (u c)) H) : ∃ a, X.mg x = some (.ref a) ∧ rInW X.K X.w u v (.ref a) H Q := by
  obtain ⟨a, es, n, hm, hl, hk, ht, lo⟩ := w
  unfold wIn at e
  split at e
  · cases e
    obtain ⟨z, rfl, ez⟩ := r.str
    subst ez
    refine ⟨a, hm, z, a, es, n, ?_⟩
    rcases ns_tab hl ht z with ⟨h1, h2⟩ | ⟨d, y, v, h1, h2, _⟩
    · refine ⟨none, rfl, rfl, hl, hk, lo, h2, ?_⟩
      rw [h1] at k
      exact k
    · refine ⟨some y, rfl, rfl, hl, hk, lo, h2, ?_⟩
      rw [h1] at k
      exact k
  · cases e
theorem dt_inW {x : Str} {p : Pos} {tab : List (List Nat × D)} (w : WTab X.K X.mg X.w x tab) (ha : DB X a ta f) (hg : Gl X x := by rfl) (hd : (x == ("__debug__" : Str)) = false := by decide) :
    DT X (.Compare a [.In] [.Name x p] pos) (fun σ H Q => ∃ z, X.mg x = some (.ref z) ∧ tTest (tOp (rInW X.K X.w id) ta (tC (.ref z))) σ H Q) (tstV f (wIn tab)) := by
  refine ⟨⟨fun pins s σ H Q I ⟨z, hm, q⟩ => (pt_cmpR op_inW ha.p (pe_glob hg hm (show RelV (.ref z) (.ref z) from rfl) hd) rfl).run pins s σ H Q I q⟩, fun σ H F ρ c Q r0 e k => ?_⟩
  obtain ⟨d1, e1, e2⟩ := Option.bind_eq_some_iff.mp e
  obtain ⟨z, _, _, hm, _⟩ := id w
  refine ⟨z, hm, ha.q σ H F ρ d1 _ r0 e1 fun v H' F' x' rv => ?_⟩
  obtain ⟨z', hm', q⟩ := w_core (Q := fun y H1 => ∃ b, y = .bl b ∧ Q b H1) id w rv e2 ⟨c, rfl, k H' F' x'⟩
  rw [hm] at hm'
  cases hm'
  exact q
theorem dt_notInW {x : Str} {p : Pos} {tab : List (List Nat × D)} (w : WTab X.K X.mg X.w x tab) (ha : DB X a ta f) (hg : Gl X x := by rfl) (hd : (x == ("__debug__" : Str)) = false := by decide) :
    DT X (.Compare a [.NotIn] [.Name x p] pos) (fun σ H Q => ∃ z, X.mg x = some (.ref z) ∧ tTest (tOp (rInW X.K X.w not) ta (tC (.ref z))) σ H Q) (tstV f (wNotIn tab)) := by
  refine ⟨⟨fun pins s σ H Q I ⟨z, hm, q⟩ => (pt_cmpR op_notInW ha.p (pe_glob hg hm (show RelV (.ref z) (.ref z) from rfl) hd) rfl).run pins s σ H Q I q⟩, fun σ H F ρ c Q r0 e k => ?_⟩
  obtain ⟨d1, e1, e2⟩ := Option.bind_eq_some_iff.mp e
  obtain ⟨c', e3, e4⟩ := Option.map_eq_some_iff.mp e2
  obtain ⟨z, _, _, hm, _⟩ := id w
  refine ⟨z, hm, ha.q σ H F ρ d1 _ r0 e1 fun v H' F' x' rv => ?_⟩
  obtain ⟨z', hm', q⟩ := w_core (Q := fun y H1 => ∃ b, y = .bl b ∧ Q b H1) not w rv e3 ⟨c, by rw [e4], k H' F' x'⟩
  rw [hm] at hm'
  cases hm'
  exact q
theorem de_wget {x : Str} {p : Pos} {tab : List (List Nat × D)} (w : WTab X.K X.mg X.w x tab) (hb : DB X b tb g) (hs : PlainIx b := by exact fun _ _ => rfl) (hg : Gl X x := by rfl) (hd : (x == ("__debug__" : Str)) = false := by decide) :
    DE X (.Subscript (.Name x p) b pos) (fun σ H Q => ∃ z, X.mg x = some (.ref z) ∧ tOp (rIxD X.K X.w) (tC (.ref z)) tb σ H Q) (un1 g (wGet tab)) := by
  refine ⟨⟨fun pins s σ H Q I ⟨z, hm, q⟩ => (pe_ix ix_kdict (pe_glob hg hm (show RelV (.ref z) (.ref z) from rfl) hd) hb.p hs).run pins s σ H Q I q⟩, fun σ H F ρ d Q r0 e k => ?_⟩
  obtain ⟨d1, e1, e2⟩ := Option.bind_eq_some_iff.mp e
  obtain ⟨z, es, n, hm, hl, hk, ht, lo⟩ := id w
  refine ⟨z, hm, hb.q σ H F ρ d1 _ r0 e1 fun v H' F' x' rv => ?_⟩
  unfold wGet at e2
  split at e2
  · obtain ⟨y, rfl, ey⟩ := rv.str
    subst ey
    rcases ns_tab hl ht y with ⟨h1, h2⟩ | ⟨d', u, v, h1, h2, h3, h4⟩
    · rw [h1] at e2; cases e2
    · rw [h1] at e2
      cases e2
      exact ⟨z, y, v, rfl, rfl, ⟨es, n, u, hl, hk, h2, h3⟩, k v H' F' x' (h4 _ _)⟩
  · cases e2
end
end DL

/-! DL, reckoning: what a denotation comes to, as rules that simp uses. -/
namespace DL
open PySem PySem.Spec PyProof.Rows L2
section
/-- it is defined, and K holds of it -/
def Ev {α : Type} (o : Option α) (K : α → Prop) : Prop := ∃ a, o = some a ∧ K a
section
variable {α β : Type} {o : Option α} {K : α → Prop} {a : α} {p : Prop} [Decidable p] {o1 o2 : Option α}
@[simp] theorem ev_some : Ev (some a) K ↔ K a := ⟨fun ⟨_, e, k⟩ => by cases e; exact k, fun k => ⟨a, rfl, k⟩⟩
@[simp] theorem ev_none : Ev (none : Option α) K ↔ False := ⟨fun h => (by obtain ⟨_, e, _⟩ := h; cases e), False.elim⟩
@[simp] theorem ev_guard : Ev (if p then some a else none) K ↔ p ∧ K a := by by_cases h : p <;> simp [h]
@[simp] theorem ev_guard2 : Ev (if p then o1 else none) K ↔ p ∧ Ev o1 K := by by_cases h : p <;> simp [h]
theorem ev_ite : Ev (if p then o1 else o2) K ↔ (p → Ev o1 K) ∧ (¬ p → Ev o2 K) := by by_cases h : p <;> simp [h]
@[simp] theorem ev_bind {β : Type} {f : α → Option β} {K : β → Prop} : Ev (o.bind f) K ↔ Ev o fun a => Ev (f a) K := by cases o <;> simp
@[simp] theorem ev_map {β : Type} {f : α → β} {K : β → Prop} : Ev (o.map f) K ↔ Ev o fun a => K (f a) := by cases o <;> simp
theorem Ev.imp {K' : α → Prop} (h : Ev o K) (hk : ∀ a, K a → K' a) : Ev o K' := let ⟨a, e, k⟩ := h; ⟨a, e, hk a k⟩
theorem ev_of (h : o = some a) (k : K a) : Ev o K := ⟨a, h, k⟩
theorem ev_eq : Ev o (fun x => x = a) ↔ o = some a := ⟨fun ⟨_, e, k⟩ => by rw [e, k], fun e => ⟨a, e, rfl⟩⟩
end
/-- the block ends well: N behind it, R of what it hands back, Bk where it breaks, Ct where it goes on -/
def Ok (o : Out) (N : Reg → Prop) (R : D → Prop) (Bk Ct : Reg → Prop) : Prop := match o with
  | .nx ρ => N ρ
  | .rt d => R d
  | .bk ρ => Bk ρ
  | .ct ρ => Ct ρ
  | .bad => False
variable {N : Reg → Prop} {R : D → Prop} {Bk Ct : Reg → Prop} {A B : Reg → Out} {ρ : Reg} {f g h : Reg → Option D} {i j : Nat} {d e : D} {p q : Reg → Option Bool} {b : Bool} {fs : Reg → Option (List D)} {ds es : List D}
theorem Ok.imp {o : Out} {N' : Reg → Prop} {R' : D → Prop} {Bk' Ct' : Reg → Prop} (h : Ok o N R Bk Ct) (h1 : ∀ ρ, N ρ → N' ρ) (h2 : ∀ d, R d → R' d) (h3 : ∀ ρ, Bk ρ → Bk' ρ) (h4 : ∀ ρ, Ct ρ → Ct' ρ) : Ok o N' R' Bk' Ct' := by
  cases o with
  | nx ρ => exact h1 _ h
  | rt d => exact h2 _ h
  | bk ρ => exact h3 _ h
  | ct ρ => exact h4 _ h
  | bad => exact h
@[simp] theorem ok_nx : Ok (.nx ρ) N R Bk Ct ↔ N ρ := Iff.rfl
@[simp] theorem ok_rt : Ok (.rt d) N R Bk Ct ↔ R d := Iff.rfl
@[simp] theorem ok_bk : Ok (.bk ρ) N R Bk Ct ↔ Bk ρ := Iff.rfl
@[simp] theorem ok_ct : Ok (.ct ρ) N R Bk Ct ↔ Ct ρ := Iff.rfl
@[simp] theorem ok_bad : Ok .bad N R Bk Ct ↔ False := Iff.rfl
@[simp] theorem ok_sq : Ok (sq A B ρ) N R Bk Ct ↔ Ok (A ρ) (fun ρ' => Ok (B ρ') N R Bk Ct) R Bk Ct := by
  unfold sq
  cases A ρ <;> exact Iff.rfl
@[simp] theorem ok_skip : Ok (skip ρ) N R Bk Ct ↔ N ρ := Iff.rfl
@[simp] theorem ok_retS : Ok (retS f ρ) N R Bk Ct ↔ Ev (f ρ) R := by
  unfold retS
  cases f ρ <;> simp
@[simp] theorem ok_setS : Ok (setS i f ρ) N R Bk Ct ↔ Ev (f ρ) fun d => N (ρ.set i (.fz d)) := by
  unfold setS
  cases f ρ <;> simp
@[simp] theorem ok_setN : Ok (setN i f ρ) N R Bk Ct ↔ Ev (f ρ) fun d => N (ρ.set i (.ow d)) := by
  unfold setN
  cases f ρ <;> simp
@[simp] theorem ok_dropS : Ok (dropS f ρ) N R Bk Ct ↔ Ev (f ρ) fun _ => N ρ := by
  unfold dropS
  cases f ρ <;> simp
@[simp] theorem ok_iteS : Ok (iteS p A B ρ) N R Bk Ct ↔ Ev (p ρ) fun b => (b = true → Ok (A ρ) N R Bk Ct) ∧ (b = false → Ok (B ρ) N R Bk Ct) := by
  unfold iteS
  cases p ρ with
  | none => simp
  | some b => cases b <;> simp
@[simp] theorem ok_frzS : Ok (frzS i A ρ) N R Bk Ct ↔ Ok (A (freeze ρ i)) N R Bk Ct := Iff.rfl
@[simp] theorem ok_asgS {h : D → Reg → Option Reg} : Ok (asgS f h ρ) N R Bk Ct ↔ Ev (f ρ) fun d => Ev (h d ρ) N := by
  unfold asgS
  cases f ρ with
  | none => simp
  | some d => cases e : h d ρ <;> simp [e]
/-- a list of one's own -/
def asL : D → Option (List D)
  | .lst ds => some ds
  | _ => none
@[simp] theorem asL_l : asL (.lst ds) = some ds := rfl
@[simp] theorem ok_appS : Ok (appS i f ρ) N R Bk Ct ↔ Ev (owAt ρ i) fun l => Ev (asL l) fun ds => Ev (f ρ) fun d => ds.length < sizeLine ∧ N (ρ.set i (.ow (.lst (ds ++ [d])))) := by
  unfold appS
  cases owAt ρ i with
  | none => simp
  | some l =>
    cases f ρ with
    | none => cases l <;> simp [asL]
    | some d =>
      cases l <;> simp [asL]
      rename_i ds
      by_cases hz : ds.length < sizeLine <;> simp [hz]
def asI : D → Option Int
  | .int i => some i
  | _ => none
@[simp] theorem asI_i {z : Int} : asI (.int z) = some z := rfl
@[simp] theorem ok_setItS {k : Reg → Option D} : Ok (setItS i f k ρ) N R Bk Ct ↔ Ev (f ρ) fun d => Ev (owAt ρ i) fun l => Ev (asL l) fun ds => Ev (k ρ) fun y => Ev (asI y) fun z => Ev (ixN ds.length z) fun j => N (ρ.set i (.ow (.lst (ds.set j d)))) := by
  unfold setItS
  cases f ρ with
  | none => simp
  | some d =>
    cases owAt ρ i with
    | none => simp
    | some l =>
      cases k ρ with
      | none => cases l <;> simp [asL]
      | some z =>
        cases l <;> simp [asL]
        cases z <;> simp [asI]
        rename_i ds z
        cases e : ixN ds.length z <;> simp
@[simp] theorem ok_forS {h : D → Reg → Option Reg} : Ok (forS fs h B ρ) N R Bk Ct ↔ Ev (fs ρ) fun ds => Ok (loopD h B ds ρ) N R Bk Ct := by
  unfold forS
  cases fs ρ <;> simp
/-! slots -/
@[simp] theorem fz_0 : fzAt (.fz d :: ρ) 0 = some d := rfl
@[simp] theorem fz_0n : fzAt (.no :: ρ) 0 = none := rfl
@[simp] theorem fz_0o : fzAt (.ow d :: ρ) 0 = none := rfl
@[simp] theorem fz_s {s : Sl} : fzAt (s :: ρ) (i + 1) = fzAt ρ i := rfl
@[simp] theorem any_0 : anyAt (.fz d :: ρ) 0 = some d := rfl
@[simp] theorem any_0o : anyAt (.ow d :: ρ) 0 = some d := rfl
@[simp] theorem any_0n : anyAt (.no :: ρ) 0 = none := rfl
@[simp] theorem any_s {s : Sl} : anyAt (s :: ρ) (i + 1) = anyAt ρ i := rfl
@[simp] theorem ow_0 : owAt (.ow d :: ρ) 0 = some d := rfl
@[simp] theorem ow_0f : owAt (.fz d :: ρ) 0 = none := rfl
@[simp] theorem ow_0n : owAt (.no :: ρ) 0 = none := rfl
@[simp] theorem ow_s {s : Sl} : owAt (s :: ρ) (i + 1) = owAt ρ i := rfl
@[simp] theorem freeze_0 : freeze (.ow d :: ρ) 0 = .fz d :: ρ := rfl
@[simp] theorem freeze_0f : freeze (.fz d :: ρ) 0 = .fz d :: ρ := rfl
@[simp] theorem freeze_0n : freeze (.no :: ρ) 0 = .no :: ρ := rfl
@[simp] theorem freeze_s {s : Sl} : freeze (s :: ρ) (i + 1) = s :: freeze ρ i := by
  unfold freeze
  rw [List.getElem?_cons_succ]
  cases ρ[i]? with
  | none => rfl
  | some t => cases t <;> rfl
/-! expressions -/
section
variable {K : D → Prop} {KB : Bool → Prop} {KL : List D → Prop}
@[simp] theorem ev_bin2 {k : D → D → Option D} : Ev (bin2 f g k ρ) K ↔ Ev (f ρ) fun x => Ev (g ρ) fun y => Ev (k x y) K := by simp [bin2]
@[simp] theorem ev_cmp2 {k : D → D → Option Bool} : Ev (cmp2 f g k ρ) KB ↔ Ev (f ρ) fun x => Ev (g ρ) fun y => Ev (k x y) KB := by simp [cmp2]
@[simp] theorem ev_un1 {k : D → Option D} : Ev (un1 f k ρ) K ↔ Ev (f ρ) fun x => Ev (k x) K := by simp [un1]
@[simp] theorem ev_bV : Ev (bV p ρ) K ↔ Ev (p ρ) fun b => K (.bl b) := by simp [bV]
@[simp] theorem ev_truT : Ev (truT f ρ) KB ↔ Ev (f ρ) fun x => Ev (dTru x) KB := by simp [truT]
@[simp] theorem ev_notT : Ev (notT p ρ) KB ↔ Ev (p ρ) fun b => KB (!b) := by simp [notT]
@[simp] theorem ev_andT : Ev (andT p q ρ) KB ↔ Ev (p ρ) fun c => (c = true → Ev (q ρ) KB) ∧ (c = false → KB false) := by
  unfold andT
  cases p ρ with
  | none => simp
  | some c => cases c <;> simp
@[simp] theorem ev_orT : Ev (orT p q ρ) KB ↔ Ev (p ρ) fun c => (c = true → KB true) ∧ (c = false → Ev (q ρ) KB) := by
  unfold orT
  cases p ρ with
  | none => simp
  | some c => cases c <;> simp
@[simp] theorem ev_ifV : Ev (ifV p f g ρ) K ↔ Ev (p ρ) fun c => (c = true → Ev (f ρ) K) ∧ (c = false → Ev (g ρ) K) := by
  unfold ifV
  cases p ρ with
  | none => simp
  | some c => cases c <;> simp
@[simp] theorem ev_andV : Ev (andV f g ρ) K ↔ Ev (f ρ) fun d => Ev (dTru d) fun c => (c = true → Ev (g ρ) K) ∧ (c = false → K d) := by
  unfold andV
  cases f ρ with
  | none => simp
  | some d => cases e : dTru d with
    | none => simp [e]
    | some c => cases c <;> simp [e]
@[simp] theorem ev_orV : Ev (orV f g ρ) K ↔ Ev (f ρ) fun d => Ev (dTru d) fun c => (c = true → K d) ∧ (c = false → Ev (g ρ) K) := by
  unfold orV
  cases f ρ with
  | none => simp
  | some d => cases e : dTru d with
    | none => simp [e]
    | some c => cases c <;> simp [e]
@[simp] theorem ev_chn {k1 k2 : D → D → Option Bool} : Ev (chn f g h k1 k2 ρ) KB ↔ Ev (f ρ) fun x => Ev (g ρ) fun y => Ev (k1 x y) fun c => (c = true → Ev (h ρ) fun z => Ev (k2 y z) KB) ∧ (c = false → KB false) := by
  unfold chn
  cases f ρ with
  | none => simp
  | some x => cases g ρ with
    | none => simp
    | some y => cases e : k1 x y with
      | none => simp [e]
      | some c => cases c <;> simp [e]
@[simp] theorem ev_consA : Ev (consA f fs ρ) KL ↔ Ev (f ρ) fun x => Ev (fs ρ) fun xs => KL (x :: xs) := by simp [consA]
@[simp] theorem ev_lstV : Ev (lstV fs ρ) K ↔ Ev (fs ρ) fun xs => K (.lst xs) := by simp [lstV]
@[simp] theorem ev_tupV : Ev (tupV fs ρ) K ↔ Ev (fs ρ) fun xs => K (.tup xs) := by simp [tupV]
@[simp] theorem ev_callV {m : List D → Option D} : Ev (callV m fs ρ) K ↔ Ev (fs ρ) fun xs => Ev (m xs) K := by simp [callV]
@[simp] theorem ev_itV : Ev (itV f ρ) KL ↔ Ev (f ρ) fun x => Ev (itD x) KL := by simp [itV]
@[simp] theorem ev_parV {KO : Option Int → Prop} : Ev (parV f ρ) KO ↔ Ev (f ρ) fun x => Ev (asI x) fun z => KO (some z) := by
  unfold parV
  cases f ρ with
  | none => simp
  | some x => cases x <;> simp [asI]
@[simp] theorem ev_slV {lo hi : Reg → Option (Option Int)} {k : D → Option Int → Option Int → Option D} : Ev (slV f lo hi k ρ) K ↔ Ev (f ρ) fun x => Ev (lo ρ) fun l => Ev (hi ρ) fun u => Ev (k x l u) K := by simp [slV]
/-- 0, 1, .. n - 1 from lo on -/
def rngL (lo : Int) (n : Nat) : List D := (List.range n).map fun k => .int (lo + (k : Nat))
theorem rngL_len {lo : Int} {n : Nat} : (rngL lo n).length = n := by simp [rngL]
theorem rngL_at {lo : Int} {n j : Nat} {d : D} (h : (rngL lo n)[j]? = some d) : j < n ∧ d = .int (lo + (j : Nat)) := by
  unfold rngL at h
  rw [List.getElem?_map] at h
  obtain ⟨k, h3, h4⟩ := Option.map_eq_some_iff.mp h
  obtain ⟨hk, hk'⟩ := List.getElem?_eq_some_iff.mp h3
  have hk2 : k = j := by simpa using hk'.symm
  subst hk2
  exact ⟨by simpa using hk, h4.symm⟩
theorem rngL_succ {lo : Int} {n : Nat} : rngL lo (n + 1) = .int lo :: rngL (lo + 1) n := by
  unfold rngL
  rw [List.range_succ_eq_map, List.map_cons, List.map_map]
  congr 1
  · simp
  · apply List.map_congr_left
    intro k _
    simp only [Function.comp]
    congr 1
    omega
theorem rngL_zero {lo : Int} : rngL lo 0 = [] := rfl
def one1 : List D → Option Int
  | [.int z] => some z
  | _ => none
def two2 : List D → Option (Int × Int)
  | [.int z, .int w] => some (z, w)
  | _ => none
@[simp] theorem one1_i {z : Int} : one1 [.int z] = some z := rfl
@[simp] theorem two2_i {z w : Int} : two2 [.int z, .int w] = some (z, w) := rfl
@[simp] theorem ev_rng1 : Ev (rng1 fs ρ) KL ↔ Ev (fs ρ) fun xs => Ev (one1 xs) fun z => (-(2 ^ 62) ≤ z ∧ z < 2 ^ 62) ∧ KL (rngL 0 z.toNat) := by
  unfold rng1 rngL
  cases fs ρ with
  | none => simp
  | some xs =>
    simp only [Option.bind_some, ev_some]
    split
    · rename_i z
      simp only [one1, ev_some, ev_guard]
      simp
    · rename_i h0
      have : one1 xs = none := by
        unfold one1
        split
        · rename_i z; exact absurd rfl (h0 z)
        · rfl
      rw [this]
      simp
@[simp] theorem ev_rng2 : Ev (rng2 fs ρ) KL ↔ Ev (fs ρ) fun xs => Ev (two2 xs) fun z => (-(2 ^ 62) ≤ z.1 ∧ z.1 < 2 ^ 62 ∧ -(2 ^ 62) ≤ z.2 ∧ z.2 < 2 ^ 62) ∧ KL (rngL z.1 (z.2 - z.1).toNat) := by
  unfold rng2 rngL
  cases fs ρ with
  | none => simp
  | some xs =>
    simp only [Option.bind_some, ev_some]
    split
    · rename_i z w
      simp only [two2, ev_some, ev_guard]
    · rename_i h0
      have : two2 xs = none := by
        unfold two2
        split
        · rename_i z w; exact absurd rfl (h0 z w)
        · rfl
      rw [this]
      simp
@[simp] theorem ev_lcV {h : D → Reg → Option Reg} {vs : List Nat} : Ev (lcV fs h p f vs ρ) K ↔ Ev (fs ρ) fun ds => ds.length ≤ sizeLine ∧ Ev (lcD h p f (wipeR ρ vs) ds) fun ys => K (.lst ys) := by
  unfold lcV
  cases fs ρ with
  | none => simp
  | some ds => by_cases hz : ds.length ≤ sizeLine <;> simp [hz]
end
/-! targets -/
@[simp] theorem gN_ap : gN i d ρ = some (ρ.set i (.fz d)) := rfl
@[simp] theorem gT_ap {gs : List D → Reg → Option Reg} : gT gs (.tup ds) ρ = gs ds ρ := rfl
@[simp] theorem gsC_ap {g : D → Reg → Option Reg} {gs : List D → Reg → Option Reg} : gsC g gs (d :: ds) ρ = (g d ρ).bind fun ρ' => gs ds ρ' := rfl
@[simp] theorem gsN_ap : gsN [] ρ = some ρ := rfl
@[simp] theorem wipeR_nil : wipeR ρ [] = ρ := rfl
@[simp] theorem wipeR_cons {v : Nat} {vs : List Nat} : wipeR ρ (v :: vs) = (wipeR ρ vs).set v .no := rfl
/-! loops -/
theorem ok_loop {g : D → Reg → Option Reg} (I : Nat → Reg → Prop) : ∀ (ds : List D) (i : Nat) (ρ : Reg), I i ρ →
    (∀ (j : Nat) (d : D) (ρ : Reg), ds[j]? = some d → I (i + j) ρ → ∃ ρ1, g d ρ = some ρ1 ∧ Ok (B ρ1) (I (i + j + 1)) R N (I (i + j + 1))) → (∀ ρ, I (i + ds.length) ρ → N ρ) → Ok (loopD g B ds ρ) N R Bk Ct
  | [], i, ρ, h, _, hN => hN ρ h
  | d :: ds, i, ρ, h, st, hN => by
    obtain ⟨ρ1, e1, h1⟩ := st 0 d ρ rfl h
    have ih := fun ρ2 h2 => ok_loop (g := g) I ds (i + 1) ρ2 h2 (fun j d' ρ' e h' => by
      have := st (j + 1) d' ρ' (by simpa using e) (by rw [show i + (j + 1) = i + 1 + j by omega]; exact h')
      rw [show i + (j + 1) = i + 1 + j by omega] at this
      exact this) (fun ρ' h' => hN ρ' (by rw [List.length_cons, show i + (ds.length + 1) = i + 1 + ds.length by omega]; exact h'))
    unfold loopD
    rw [e1]
    dsimp only
    cases e : B ρ1 with
    | nx ρ2 => rw [e] at h1; exact ih ρ2 h1
    | ct ρ2 => rw [e] at h1; exact ih ρ2 h1
    | bk ρ2 => rw [e] at h1; exact h1
    | rt d => rw [e] at h1; exact h1
    | bad => rw [e] at h1; exact h1.elim
/-- over a range -/
theorem ok_range {g : D → Reg → Option Reg} {lo : Int} {n : Nat} (I : Nat → Reg → Prop) (h : I 0 ρ)
    (st : ∀ (j : Nat) (ρ : Reg), j < n → I j ρ → ∃ ρ1, g (.int (lo + (j : Nat))) ρ = some ρ1 ∧ Ok (B ρ1) (I (j + 1)) R N (I (j + 1))) (hN : ∀ ρ, I n ρ → N ρ) : Ok (loopD g B (rngL lo n) ρ) N R Bk Ct := by
  refine ok_loop I (rngL lo n) 0 ρ h (fun j d ρ e hj => ?_) fun ρ h => hN ρ (by rw [rngL_len, Nat.zero_add] at h; exact h)
  obtain ⟨h1, rfl⟩ := rngL_at e
  rw [Nat.zero_add] at hj ⊢
  exact st j ρ h1 hj
/-- over data that stand for items of a kind -/
theorem ok_each {α : Type} {g : D → Reg → Option Reg} (enc : α → D) (xs : List α) (I : Nat → Reg → Prop) (h : I 0 ρ)
    (st : ∀ (j : Nat) (x : α) (ρ : Reg), xs[j]? = some x → I j ρ → ∃ ρ1, g (enc x) ρ = some ρ1 ∧ Ok (B ρ1) (I (j + 1)) R N (I (j + 1))) (hN : ∀ ρ, I xs.length ρ → N ρ) : Ok (loopD g B (xs.map enc) ρ) N R Bk Ct := by
  refine ok_loop I (xs.map enc) 0 ρ h (fun j d ρ e hj => ?_) fun ρ h => hN ρ (by rw [List.length_map, Nat.zero_add] at h; exact h)
  rw [List.getElem?_map] at e
  obtain ⟨x, h3, rfl⟩ := Option.map_eq_some_iff.mp e
  rw [Nat.zero_add] at hj ⊢
  exact st j x ρ h3 hj
theorem ok_while {B : Reg → Out} (I : Reg → Prop) (μ : Reg → Nat) : ∀ (n : Nat) (ρ : Reg), I ρ → μ ρ < n →
    (∀ ρ, I ρ → ∃ b, p ρ = some b ∧ if b = true then Ok (B ρ) (fun ρ' => I ρ' ∧ μ ρ' < μ ρ) R N (fun ρ' => I ρ' ∧ μ ρ' < μ ρ) else N ρ) → Ok (whileD p B n ρ) N R Bk Ct
  | 0, ρ, _, hn, _ => absurd hn (Nat.not_lt_zero _)
  | n + 1, ρ, h, hn, st => by
    obtain ⟨b, e, h1⟩ := st ρ h
    unfold whileD
    rw [e]
    cases b with
    | false => exact h1
    | true =>
      rw [if_pos rfl] at h1
      dsimp only
      cases e : B ρ with
      | nx ρ2 => rw [e] at h1; exact ok_while I μ n ρ2 h1.1 (by have := h1.2; omega) st
      | ct ρ2 => rw [e] at h1; exact ok_while I μ n ρ2 h1.1 (by have := h1.2; omega) st
      | bk ρ2 => rw [e] at h1; exact h1
      | rt d => rw [e] at h1; exact h1
      | bad => rw [e] at h1; exact h1.elim
theorem lcD_map {h : D → Reg → Option Reg} (F : D → D) : ∀ (ds : List D), (∀ d ∈ ds, ∃ ρ1, h d ρ = some ρ1 ∧ p ρ1 = some true ∧ f ρ1 = some (F d)) → lcD h p f ρ ds = some (ds.map F)
  | [], _ => rfl
  | d :: ds, st => by
    obtain ⟨ρ1, e1, e2, e3⟩ := st d List.mem_cons_self
    unfold lcD
    rw [e1]
    simp only [Option.bind_some, e2, if_true, e3]
    rw [lcD_map F ds fun d' hd => st d' (List.mem_cons_of_mem _ hd)]
    rfl
theorem lcD_enc {α β : Type} {h : D → Reg → Option Reg} (enc : α → D) (enc' : β → D) (F : α → β) (xs : List α) (st : ∀ x ∈ xs, ∃ ρ1, h (enc x) ρ = some ρ1 ∧ p ρ1 = some true ∧ f ρ1 = some (enc' (F x))) : lcD h p f ρ (xs.map enc) = some ((xs.map F).map enc') := by
  induction xs with
  | nil => rfl
  | cons x xs ih =>
    obtain ⟨ρ1, e1, e2, e3⟩ := st x List.mem_cons_self
    rw [List.map_cons]
    unfold lcD
    rw [e1]
    simp only [Option.bind_some, e2, if_true, e3]
    rw [ih fun x' hx => st x' (List.mem_cons_of_mem _ hx)]
    rfl
theorem lcD_filter {α β : Type} {h : D → Reg → Option Reg} (enc : α → D) (enc' : β → D) (P : α → Bool) (F : α → β) (xs : List α) (st : ∀ x ∈ xs, ∃ ρ1, h (enc x) ρ = some ρ1 ∧ p ρ1 = some (P x) ∧ (P x = true → f ρ1 = some (enc' (F x)))) : lcD h p f ρ (xs.map enc) = some (((xs.filter P).map F).map enc') := by
  induction xs with
  | nil => rfl
  | cons x xs ih =>
    obtain ⟨ρ1, e1, e2, e3⟩ := st x List.mem_cons_self
    rw [List.map_cons]
    unfold lcD
    rw [e1]
    simp only [Option.bind_some, e2]
    rw [ih fun x' hx => st x' (List.mem_cons_of_mem _ hx), List.filter_cons]
    cases hP : P x with
    | false => simp
    | true => simp [e3 hP]
theorem lcD_ex {α β : Type} {h : D → Reg → Option Reg} (enc : α → D) (enc' : β → D) (P : α → β → Prop) : ∀ (xs : List α), (∀ x ∈ xs, Ev (h (enc x) ρ) fun ρ1 => p ρ1 = some true ∧ Ev (f ρ1) fun d => ∃ y, d = enc' y ∧ P x y) →
    Ev (lcD h p f ρ (xs.map enc)) fun ys => ∃ zs : List β, ys = zs.map enc' ∧ zs.length = xs.length ∧ ∀ z ∈ zs, ∃ x ∈ xs, P x z
  | [], _ => ⟨[], rfl, [], rfl, rfl, fun _ h => nomatch h⟩
  | x :: xs, st => by
    obtain ⟨ρ1, e1, e2, d, e3, y, rfl, py⟩ := st x List.mem_cons_self
    obtain ⟨ys, e4, zs, rfl, h1, h2⟩ := lcD_ex enc enc' P xs fun x' hx => st x' (List.mem_cons_of_mem _ hx)
    refine ⟨enc' y :: zs.map enc', ?_, y :: zs, rfl, by rw [List.length_cons, List.length_cons, h1], fun z hz => ?_⟩
    · rw [List.map_cons]
      unfold lcD
      rw [e1]
      simp only [Option.bind_some, e2, if_true, e3, e4]
    · rcases List.mem_cons.mp hz with rfl | hz
      · exact ⟨x, List.mem_cons_self, py⟩
      · obtain ⟨x', g1, g2⟩ := h2 z hz
        exact ⟨x', List.mem_cons_of_mem _ g1, g2⟩
/-- a def's data function: by its block -/
theorem fin_iff {o : Out} {P : D → Prop} : Ev (fin o) P ↔ Ok o (fun _ => P .non) P (fun _ => False) (fun _ => False) := by
  cases o <;> simp [fin]
theorem run {b : Reg → Out} {n : Nat} {m : List D → Option D} {ds : List D} {P : D → Prop} (hm : ∀ ds, m ds = fin (b (startR n ds))) (h : Ok (b (startR n ds)) (fun _ => P .non) P (fun _ => False) (fun _ => False)) : Ev (m ds) P := by
  rw [hm]
  exact fin_iff.mpr h
theorem run_eq {b : Reg → Out} {n : Nat} {m : List D → Option D} {ds : List D} {d0 : D} (hm : ∀ ds, m ds = fin (b (startR n ds))) (h : Ok (b (startR n ds)) (fun _ => .non = d0) (fun d => d = d0) (fun _ => False) (fun _ => False)) : m ds = some d0 := ev_eq.mp (run (P := fun d => d = d0) hm h)
@[simp] theorem startR_lit (n : Nat) : startR n ds = ds.map Sl.fz ++ List.replicate (n - ds.length) Sl.no := rfl
end
/-! ### data, kind by kind -/
section
variable {i j : Int} {x y : D} {l m : List Nat} {ds es : List D} {b c : Bool} {kvs : List (DK × D)} {cn : Str} {fs : List (Str × D)}
@[simp] theorem dPlus_ii : dPlus (.int i) (.int j) = some (.int (i + j)) := rfl
@[simp] theorem dPlus_ss : dPlus (.str l) (.str m) = if l.length + m.length ≤ sizeLine then some (.str (l ++ m)) else none := rfl
@[simp] theorem dPlus_ll : dPlus (.lst ds) (.lst es) = if ds.length + es.length ≤ sizeLine then some (.lst (ds ++ es)) else none := rfl
@[simp] theorem dPlus_tt : dPlus (.tup ds) (.tup es) = if ds ≠ [] ∧ ds.length + es.length ≤ sizeLine then some (.tup (ds ++ es)) else none := rfl
@[simp] theorem dCat_ll : dCat (.lst ds) (.lst es) = if ds.length + es.length ≤ sizeLine then some (.lst (ds ++ es)) else none := rfl
@[simp] theorem dSub_ii : dSub (.int i) (.int j) = some (.int (i - j)) := rfl
@[simp] theorem dMul_ii : dMul (.int i) (.int j) = if (-(2 ^ 64) < i ∧ i < 2 ^ 64) ∨ (-(2 ^ 64) < j ∧ j < 2 ^ 64) then some (.int (i * j)) else none := rfl
@[simp] theorem dMod_ii : dMod (.int i) (.int j) = if 0 < j then some (.int (i % j)) else none := rfl
@[simp] theorem dDiv_ii : dDiv (.int i) (.int j) = if 0 < j ∧ j < 1073741824 then some (.int (i / j)) else none := rfl
@[simp] theorem dPow_ii : dPow (.int i) (.int j) = if 0 ≤ j ∧ j ≤ 1000000 ∧ i.natAbs < 2 ^ 64 then some (.int (i ^ j.toNat)) else none := rfl
@[simp] theorem dNeg_i : dNeg (.int i) = some (.int (-i)) := rfl
@[simp] theorem dLt_ii : dLt (.int i) (.int j) = some (decide (i < j)) := rfl
@[simp] theorem dLe_ii : dLe (.int i) (.int j) = some (decide (i ≤ j)) := rfl
@[simp] theorem dGt_ii : dGt (.int i) (.int j) = some (decide (j < i)) := rfl
@[simp] theorem dGe_ii : dGe (.int i) (.int j) = some (decide (j ≤ i)) := rfl
@[simp] theorem dEq_nn : dEq .non .non = some true := rfl
@[simp] theorem dEq_ii : dEq (.int i) (.int j) = some (decide (i = j)) := rfl
@[simp] theorem dEq_ss : dEq (.str l) (.str m) = some (decide (l = m)) := rfl
@[simp] theorem dEq_bb : dEq (.bl b) (.bl c) = some (decide (b = c)) := rfl
@[simp] theorem dEq_ni : dEq .non (.int j) = some false := rfl
@[simp] theorem dEq_in : dEq (.int j) .non = some false := rfl
@[simp] theorem dEq_ns : dEq .non (.str l) = some false := rfl
@[simp] theorem dEq_sn : dEq (.str l) .non = some false := rfl
@[simp] theorem dEq_is : dEq (.int j) (.str l) = some false := rfl
@[simp] theorem dEq_si : dEq (.str l) (.int j) = some false := rfl
@[simp] theorem dNe_ev {K : Bool → Prop} : Ev (dNe x y) K ↔ Ev (dEq x y) fun b => K (!b) := by simp [dNe]
@[simp] theorem dIsN_n : dIsN .non .non = some true := rfl
@[simp] theorem dIsN_i : dIsN (.int i) .non = some false := rfl
@[simp] theorem dIsN_s : dIsN (.str l) .non = some false := rfl
@[simp] theorem dIsN_b : dIsN (.bl b) .non = some false := rfl
@[simp] theorem dIsN_l : dIsN (.lst ds) .non = some false := rfl
@[simp] theorem dIsN_t : dIsN (.tup ds) .non = some false := rfl
@[simp] theorem dIsN_d : dIsN (.dic kvs) .non = some false := rfl
@[simp] theorem dIsN_o : dIsN (.obj cn fs) .non = some false := rfl
@[simp] theorem dNotN_ev {K : Bool → Prop} : Ev (dNotN x y) K ↔ Ev (dIsN x y) fun b => K (!b) := by simp [dNotN]
@[simp] theorem dTru_n : dTru .non = some false := rfl
@[simp] theorem dTru_b : dTru (.bl b) = some b := rfl
@[simp] theorem dTru_i : dTru (.int i) = some (i != 0) := rfl
@[simp] theorem dTru_s : dTru (.str l) = if l.length ≤ sizeLine then some (!l.isEmpty) else none := rfl
@[simp] theorem dTru_l : dTru (.lst ds) = some (!ds.isEmpty) := rfl
@[simp] theorem dTru_t : dTru (.tup ds) = some (!ds.isEmpty) := rfl
@[simp] theorem dTru_d : dTru (.dic kvs) = some (!kvs.isEmpty) := rfl
@[simp] theorem dInt_i : dInt (.int i) = some (.int i) := rfl
@[simp] theorem dInt_b : dInt (.bl b) = some (.int (if b then 1 else 0)) := rfl
@[simp] theorem dLen_l : dLen (.lst ds) = some (.int ds.length) := rfl
@[simp] theorem dLen_t : dLen (.tup ds) = some (.int ds.length) := rfl
@[simp] theorem dLen_s : dLen (.str l) = if l.length ≤ sizeLine then some (.int l.length) else none := rfl
@[simp] theorem dList_l : dList (.lst ds) = some (.lst ds) := rfl
@[simp] theorem dList_t : dList (.tup ds) = some (.lst ds) := rfl
@[simp] theorem dTup_l : dTup (.lst ds) = some (.tup ds) := rfl
@[simp] theorem dTup_t : dTup (.tup ds) = some (.tup ds) := rfl
@[simp] theorem itD_l : itD (.lst ds) = some ds := rfl
@[simp] theorem itD_t : itD (.tup ds) = some ds := rfl
@[simp] theorem itD_s : itD (.str l) = some (l.map fun c => .str [c]) := rfl
@[simp] theorem dItem_l : dItem (.lst ds) (.int i) = atI ds i := by simp [dItem, dIxL, dGet]
@[simp] theorem dItem_t : dItem (.tup ds) (.int i) = atI ds i := by simp [dItem, dIxL, dGet]
@[simp] theorem dItem_s : dItem (.str l) (.int i) = if l.length ≤ sizeLine then (atI l i).map fun c => .str [c] else none := by simp [dItem, dIxL, dGet]
@[simp] theorem dItem_di : dItem (.dic kvs) (.int i) = lookD (.inl i) kvs := by simp [dItem, dIxL, dGet, dkD]
@[simp] theorem dItem_ds : dItem (.dic kvs) (.str l) = lookD (.inr l) kvs := by simp [dItem, dIxL, dGet, dkD]
@[simp] theorem dSlice_l {u v : Option Int} : dSlice (.lst ds) u v = some (.lst (cutG ds u v)) := by simp [dSlice, dSlL]
@[simp] theorem dSlice_s {u v : Option Int} : dSlice (.str l) u v = if l.length ≤ sizeLine then some (.str (cutG l u v)) else none := by
  simp [dSlice, dSlL, dSlS, dSlT]
@[simp] theorem dSlL_l {u v : Option Int} : dSlL (.lst ds) u v = some (.lst (cutG ds u v)) := rfl
@[simp] theorem dMem_sc {k : Nat} : dMem (.str [k]) (.str l) = some (decide (k ∈ l)) := by simp [dMem, dIn, seqD, dInS]
theorem dInS_l : dInS x (.lst ds) = none := by
  cases x with
  | str l => cases l with
    | nil => rfl
    | cons a t => cases t <;> rfl
  | _ => rfl
theorem dInS_t : dInS x (.tup ds) = none := by
  cases x with
  | str l => cases l with
    | nil => rfl
    | cons a t => cases t <;> rfl
  | _ => rfl
theorem dInK_l : dInK x (.lst ds) = none := by cases x <;> rfl
theorem dInK_t : dInK x (.tup ds) = none := by cases x <;> rfl
@[simp] theorem dMem_fl : dMem x (.lst ds) = if flatD x = true ∧ ds.all flatD = true then some (inD x ds) else none := by
  unfold dMem
  rw [dInS_l, dInK_l]
  show (if flatD x = true ∧ ds.all flatD = true then some (inD x ds) else none).or (Option.or none none) = _
  split <;> rfl
@[simp] theorem dMem_ft : dMem x (.tup ds) = if flatD x = true ∧ ds.all flatD = true then some (inD x ds) else none := by
  unfold dMem
  rw [dInS_t, dInK_t]
  show (if flatD x = true ∧ ds.all flatD = true then some (inD x ds) else none).or (Option.or none none) = _
  split <;> rfl
theorem dInS_d : dInS x (.dic kvs) = none := by
  cases x with
  | str l => cases l with
    | nil => rfl
    | cons a t => cases t <;> rfl
  | _ => rfl
@[simp] theorem dMem_ks : dMem (.str l) (.dic kvs) = some (lookD (.inr l) kvs).isSome := by
  unfold dMem
  rw [dInS_d]
  rfl
@[simp] theorem dMem_ki : dMem (.int i) (.dic kvs) = some (lookD (.inl i) kvs).isSome := by
  unfold dMem
  rw [dInS_d]
  rfl
@[simp] theorem dNotMem_ev {K : Bool → Prop} : Ev (dNotMem x y) K ↔ Ev (dMem x y) fun b => K (!b) := by simp [dNotMem]
@[simp] theorem flat_n : flatD .non = true := rfl
@[simp] theorem flat_b : flatD (.bl b) = true := rfl
@[simp] theorem flat_i : flatD (.int i) = true := rfl
@[simp] theorem flat_s : flatD (.str l) = true := rfl
@[simp] theorem all_strs : ∀ {ls : List (List Nat)}, (ls.map D.str).all flatD = true
  | [] => rfl
  | l :: ls => all_strs (ls := ls)
@[simp] theorem all_ints : ∀ {ls : List Int}, (ls.map D.int).all flatD = true
  | [] => rfl
  | l :: ls => all_ints (ls := ls)
@[simp] theorem in_strs : ∀ {ls : List (List Nat)}, inD (.str l) (ls.map D.str) = decide (l ∈ ls)
  | [] => rfl
  | m :: ls => by
    show ((m == l) || inD (.str l) (ls.map D.str)) = decide (l ∈ m :: ls)
    rw [in_strs, Bool.eq_iff_iff]
    simp only [Bool.or_eq_true, beq_iff_eq, decide_eq_true_eq, List.mem_cons]
    exact or_congr_left eq_comm
@[simp] theorem in_ints : ∀ {ls : List Int}, inD (.int i) (ls.map D.int) = decide (i ∈ ls)
  | [] => rfl
  | m :: ls => by
    show ((m == i) || inD (.int i) (ls.map D.int)) = decide (i ∈ m :: ls)
    rw [in_ints, Bool.eq_iff_iff]
    simp only [Bool.or_eq_true, beq_iff_eq, decide_eq_true_eq, List.mem_cons]
    exact or_congr_left eq_comm
@[simp] theorem inD_nil : inD x [] = false := rfl
@[simp] theorem inD_cons : inD x (y :: ds) = (eqvD y x || inD x ds) := rfl
@[simp] theorem eqv_ss : eqvD (.str l) (.str m) = (l == m) := rfl
@[simp] theorem eqv_ii : eqvD (.int i) (.int j) = (i == j) := rfl
@[simp] theorem dWords_s : dWords (.str l) = if l.length + 2 ≤ sizeLine then some (strsD (wordsL l)) else none := rfl
@[simp] theorem dStarts_ss : dStarts (.str l) (.str m) = if m ≠ [] then some (.bl (TL.pre m l)) else none := rfl
@[simp] theorem dJoin_sl : dJoin (.str l) (.lst ds) = (strsL ds).bind fun ls => if (ls.map List.length).sum + ls.length * l.length ≤ 16777216 then some (.str (TL.joinL l ls)) else none := rfl
@[simp] theorem strsL_map {ls : List (List Nat)} : strsL (ls.map D.str) = some ls := by
  induction ls with
  | nil => rfl
  | cons l ls ih => simp [strsL, strL, ih]
@[simp] theorem tyD_n : tyD .non = some "NoneType" := rfl
@[simp] theorem tyD_b : tyD (.bl b) = some "bool" := rfl
@[simp] theorem tyD_i : tyD (.int i) = some "int" := rfl
@[simp] theorem tyD_s : tyD (.str l) = some "str" := rfl
@[simp] theorem tyD_l : tyD (.lst ds) = some "list" := rfl
@[simp] theorem tyD_t : tyD (.tup ds) = some "tuple" := rfl
@[simp] theorem tyD_d : tyD (.dic kvs) = some "dict" := rfl
@[simp] theorem lit_nil : lit "" = [] := rfl
theorem lit_inj {s t : String} : lit s = lit t ↔ s = t := by
  unfold lit
  constructor
  · intro h
    have h2 : s.toList = t.toList := by
      have inj : ∀ (a b : List Char), a.map Char.toNat = b.map Char.toNat → a = b := by
        intro a
        induction a with
        | nil => intro b h; cases b with | nil => rfl | cons _ _ => cases h
        | cons x xs ih =>
          intro b h
          cases b with
          | nil => cases h
          | cons y ys =>
            rw [List.map_cons, List.map_cons] at h
            injection h with h1 h2
            rw [Char.toNat_inj.mp h1, ih ys h2]
      exact inj _ _ h
    exact String.toList_inj.mp h2
  · intro h; rw [h]
end
/-- the built-in classes: who is one of whom -/
theorem kit_list_list : kitB "list" "list" = some true := by decide +kernel
theorem kit_str_str : kitB "str" "str" = some true := by decide +kernel
theorem kit_bool_bool : kitB "bool" "bool" = some true := by decide +kernel
theorem kit_int_int : kitB "int" "int" = some true := by decide +kernel
theorem kit_bool_int : kitB "bool" "int" = some true := by decide +kernel
theorem kit_int_bool : kitB "int" "bool" = some false := by decide +kernel
@[simp] theorem isi_list {ds : List D} : dIsI "list" (.lst ds) = some (.bl true) := by simp [dIsI, kit_list_list]
@[simp] theorem isi_str {l : List Nat} : dIsI "str" (.str l) = some (.bl true) := by simp [dIsI, kit_str_str]
@[simp] theorem isi_bool {b : Bool} : dIsI "bool" (.bl b) = some (.bl true) := by simp [dIsI, kit_bool_bool]
@[simp] theorem isi_int {b : Int} : dIsI "int" (.int b) = some (.bl true) := by simp [dIsI, kit_int_int]
@[simp] theorem isi_intb {b : Int} : dIsI "bool" (.int b) = some (.bl false) := by simp [dIsI, kit_int_bool]
/-! ### f-strings, extend, steps, min and max, sorted -/
section
variable {i j : Int} {x y : D} {l m : List Nat} {ds es : List D} {fs : Reg → Option (List (List Nat))} {gs : Reg → Option (List D)} {ρ : Reg} {f : Reg → Option D} {N : Reg → Prop} {R : D → Prop} {Bk Ct : Reg → Prop} {k : Nat}
@[simp] theorem strL_s : strL (.str l) = some l := rfl
@[simp] theorem ev_joinedV {K : D → Prop} : Ev (joinedV fs ρ) K ↔ Ev (fs ρ) fun ls => (ls.map List.length).sum ≤ sizeLine ∧ K (.str ls.flatten) := by simp [joinedV]
@[simp] theorem ev_consJ {K : List (List Nat) → Prop} : Ev (consJ f fs ρ) K ↔ Ev (f ρ) fun d => Ev (strL d) fun l => Ev (fs ρ) fun ls => K (l :: ls) := by simp [consJ]
@[simp] theorem ev_fnV {K : D → Prop} {g : List D → Option D} : Ev (fnV gs g ρ) K ↔ Ev (gs ρ) fun ds => Ev (g ds) K := by simp [fnV]
@[simp] theorem dMin_ii : dMin [.int i, .int j] = some (.int (if j < i then j else i)) := rfl
@[simp] theorem dMax_ii : dMax [.int i, .int j] = some (.int (if j > i then j else i)) := rfl
@[simp] theorem dStr_s : dStr (.str l) = if l.length ≤ sizeLine then some (.str l) else none := rfl
@[simp] theorem dStr_i : dStr (.int i) = if i.natAbs.log2 < 1920 then some (.str (intL i)) else none := rfl
@[simp] theorem ok_extS : Ok (extS k f ρ) N R Bk Ct ↔ Ev (owAt ρ k) fun l => Ev (asL l) fun ds => Ev (f ρ) fun d => Ev (asL d) fun es => ds.length + es.length ≤ sizeLine ∧ N (ρ.set k (.ow (.lst (ds ++ es)))) := by
  unfold extS
  cases owAt ρ k with
  | none => simp
  | some l =>
    cases f ρ with
    | none => cases l <;> simp [asL]
    | some d =>
      cases l <;> simp [asL]
      rename_i ds
      cases d <;> simp
      rename_i es
      by_cases hz : ds.length + es.length ≤ sizeLine <;> simp [hz]
def three3 : List D → Option (Int × Int × Int)
  | [.int z, .int w, .int c] => some (z, w, c)
  | _ => none
@[simp] theorem three3_i {z w c : Int} : three3 [.int z, .int w, .int c] = some (z, w, c) := rfl
@[simp] theorem ev_rng3 {K : List D → Prop} : Ev (rng3 gs ρ) K ↔ Ev (gs ρ) fun xs => Ev (three3 xs) fun z => ((-(2 ^ 61) ≤ z.1 ∧ z.1 < 2 ^ 61 ∧ -(2 ^ 61) ≤ z.2.1 ∧ z.2.1 < 2 ^ 61) ∧ 0 < z.2.2 ∧ z.2.2 < 1000000) ∧ K (rngC z.1 z.2.2 (stepN z.1 z.2.1 z.2.2)) := by
  unfold rng3
  cases gs ρ with
  | none => simp
  | some xs =>
    simp only [Option.bind_some, ev_some]
    split
    · rename_i z w c
      simp only [three3, ev_some, ev_guard]
    · rename_i h0
      have : three3 xs = none := by
        unfold three3
        split
        · rename_i z w c; exact absurd rfl (h0 z w c)
        · rfl
      rw [this]
      simp
theorem rngC_len {lo c : Int} {n : Nat} : (rngC lo c n).length = n := by simp [rngC]
theorem rngC_at {lo c : Int} {n j : Nat} {d : D} (h : (rngC lo c n)[j]? = some d) : j < n ∧ d = .int (lo + (j : Nat) * c) := by
  unfold rngC at h
  rw [List.getElem?_map] at h
  obtain ⟨k, h3, h4⟩ := Option.map_eq_some_iff.mp h
  obtain ⟨hk, hk'⟩ := List.getElem?_eq_some_iff.mp h3
  have hk2 : k = j := by simpa using hk'.symm
  subst hk2
  exact ⟨by simpa using hk, h4.symm⟩
theorem ok_rangeC {B : Reg → Out} {g : D → Reg → Option Reg} {lo c : Int} {n : Nat} (I : Nat → Reg → Prop) (h : I 0 ρ)
    (st : ∀ (j : Nat) (ρ : Reg), j < n → I j ρ → ∃ ρ1, g (.int (lo + (j : Nat) * c)) ρ = some ρ1 ∧ Ok (B ρ1) (I (j + 1)) R N (I (j + 1))) (hN : ∀ ρ, I n ρ → N ρ) : Ok (loopD g B (rngC lo c n) ρ) N R Bk Ct := by
  refine ok_loop I (rngC lo c n) 0 ρ h (fun j d ρ e hj => ?_) fun ρ h => hN ρ (by rw [rngC_len, Nat.zero_add] at h; exact h)
  obtain ⟨h1, rfl⟩ := rngC_at e
  rw [Nat.zero_add] at hj ⊢
  exact st j ρ h1 hj
/-- an element of a list at a place -/
theorem atI_mem {α : Type} {xs : List α} {i : Int} (h0 : 0 ≤ i) (h1 : i < xs.length) : ∃ a, atI xs i = some a ∧ a ∈ xs := by
  obtain ⟨k, rfl⟩ := Int.eq_ofNat_of_zero_le h0
  have h2 : k < xs.length := by omega
  exact ⟨xs[k], atI_nat (List.getElem?_eq_getElem h2), List.getElem_mem h2⟩
theorem atI_0 {α : Type} {x : α} {xs : List α} : atI (x :: xs) 0 = some x := atI_nat (j := 0) rfl
theorem atI_1 {α : Type} {x y : α} {xs : List α} : atI (x :: y :: xs) 1 = some y := atI_nat (j := 1) rfl
theorem atI_2 {α : Type} {x y z : α} {xs : List α} : atI (x :: y :: z :: xs) 2 = some z := atI_nat (j := 2) rfl
theorem atI_3 {α : Type} {x y z w : α} {xs : List α} : atI (x :: y :: z :: w :: xs) 3 = some w := atI_nat (j := 3) rfl
theorem atI_4 {α : Type} {x y z w v : α} {xs : List α} : atI (x :: y :: z :: w :: v :: xs) 4 = some v := atI_nat (j := 4) rfl
theorem join_len (b : List Nat) : ∀ ls : List (List Nat), (TL.joinL b ls).length ≤ (ls.map List.length).sum + ls.length * b.length
  | [] => Nat.zero_le _
  | [l] => by show l.length ≤ _; simp
  | l :: m :: ls => by
    have ih := join_len b (m :: ls)
    show (l ++ (b ++ TL.joinL b (m :: ls))).length ≤ _
    rw [List.length_append, List.length_append, List.map_cons, List.sum_cons, List.length_cons, Nat.add_mul]
    omega
theorem sum_le {n : Nat} : ∀ {ls : List (List Nat)}, (∀ l ∈ ls, l.length ≤ n) → (ls.map List.length).sum ≤ ls.length * n
  | [], _ => Nat.zero_le _
  | l :: ls, h => by
    have h1 := h l List.mem_cons_self
    have ih := sum_le fun x hx => h x (List.mem_cons_of_mem _ hx)
    rw [List.map_cons, List.sum_cons, List.length_cons, Nat.add_mul]
    omega
theorem join_mem (b : List Nat) {c : Nat} : ∀ {ls : List (List Nat)}, c ∈ TL.joinL b ls → c ∈ b ∨ ∃ l ∈ ls, c ∈ l
  | [], h => by cases h
  | [l], h => .inr ⟨l, List.mem_cons_self, h⟩
  | l :: m :: ls, h => by
    have h : c ∈ l ++ (b ++ TL.joinL b (m :: ls)) := h
    rcases List.mem_append.mp h with h | h
    · exact .inr ⟨l, List.mem_cons_self, h⟩
    · rcases List.mem_append.mp h with h | h
      · exact .inl h
      · rcases join_mem b h with h | ⟨k, hk, h⟩
        · exact .inl h
        · exact .inr ⟨k, List.mem_cons_of_mem _ hk, h⟩
/-- the digits of an int -/
theorem intL_len {i : Int} {k : Nat} (hk : 1 ≤ k) (h : i.natAbs < 10 ^ k) : (intL i).length ≤ k + 1 := by
  have e := int_text_length_le10 hk h
  have e2 := TL.len_tl (Str.ofString (toString i))
  rw [TL.tl_ofString, PySem.ofString_length] at e2
  unfold intL lit
  omega
end
/-! ### places -/
theorem atI_in {α : Type} {xs : List α} {i : Int} (h0 : 0 ≤ i) (h1 : i < xs.length) (a : α) : atI xs i = some (xs.getD i.toNat a) := by
  obtain ⟨k, rfl⟩ := Int.eq_ofNat_of_zero_le h0
  have h2 : k < xs.length := by omega
  rw [atI_nat (v := xs.getD k a)]
  · rfl
  · simp [List.getD_eq_getElem?_getD, h2]
theorem atI_map {α β : Type} {f : α → β} {xs : List α} {i : Int} : atI (xs.map f) i = (atI xs i).map f := by
  unfold atI
  rw [List.length_map]
  cases ixN xs.length i with
  | none => rfl
  | some j => simp
theorem atI_ints {xs : List Int} {i : Int} (h0 : 0 ≤ i) (h1 : i < xs.length) : atI (xs.map D.int) i = some (.int (xs.getD i.toNat 0)) := by
  rw [atI_map, atI_in h0 h1 0]
  rfl
theorem cutG_map {α β : Type} {f : α → β} {xs : List α} {l u : Option Int} : cutG (xs.map f) l u = (cutG xs l u).map f := by
  unfold cutG
  rw [List.length_map, List.map_take, List.map_drop]
theorem cutG_mem {α : Type} {xs : List α} {l u : Option Int} {x : α} (h : x ∈ cutG xs l u) : x ∈ xs := List.mem_of_mem_drop (List.mem_of_mem_take h)
theorem cutG_len {α : Type} {xs : List α} {l u : Option Int} : (cutG xs l u).length ≤ xs.length := by
  unfold cutG
  rw [List.length_take, List.length_drop]
  omega
theorem sIx_nn {n d : Nat} {i : Int} (h0 : 0 ≤ i) : HT.sIx n d (some i) = min i.toNat n := by
  obtain ⟨k, rfl⟩ := Int.eq_ofNat_of_zero_le h0
  exact HT.sIx_nat n d k
theorem cutG_nn {α : Type} {xs : List α} {i j : Int} (h0 : 0 ≤ i) (h1 : 0 ≤ j) : cutG xs (some i) (some j) = (xs.drop (min i.toNat xs.length)).take (min j.toNat xs.length - min i.toNat xs.length) := by
  unfold cutG
  rw [sIx_nn h0, sIx_nn h1]
/-- lengths -/
theorem line_big : (1000000 : Nat) ≤ sizeLine := by decide
end DL

namespace G76
open PySem PySem.Spec PyProof.Rows L2 DL
def top (i : Nat) : Stmt := PySem.Challenge.pw_watchfloor_k76_configuration_words_check.main.body.getD i (.Pass ⟨0, 0, 0, 0⟩)
abbrev s_is_value : Stmt := top 4
abbrev s_is_name : Stmt := top 5
abbrev s__is_number : Stmt := top 9
abbrev s__fits : Stmt := top 10
abbrev s__kinds : Stmt := top 11
abbrev s_check_words : Stmt := top 12
abbrev s__law_draws : Stmt := top 14
abbrev s__law_shape : Stmt := top 15
abbrev s__law_further : Stmt := top 16
abbrev s__law_consists : Stmt := top 17
abbrev s__law_right : Stmt := top 18
abbrev s__law_checked : Stmt := top 19
abbrev s__law_word : Stmt := top 20
abbrev s__law_wrong : Stmt := top 21
abbrev s__law_first : Stmt := top 22
abbrev s__law_list : Stmt := top 23
abbrev s_law : Stmt := top 24
def TAB_SHAPES : List (List Nat × D) := [(lit "week", .tup [.str (lit "number")]), (lit "lookback", .tup [.str (lit "number")]), (lit "store", .tup [.str (lit "number"), .str (lit "number"), .str (lit "number"), .str (lit "number")]), (lit "pager", .tup [.str (lit "number"), .str (lit "number"), .str (lit "number")]), (lit "person", .tup [.str (lit "name"), .str (lit "number")]), (lit "schedule", .tup [.str (lit "name")]), (lit "policy", .tup [.str (lit "name")]), (lit "window", .tup [.str (lit "name")]), (lit "holdback", .tup []), (lit "rules", .tup [.str (lit "name"), .str (lit "number"), .str (lit "number")]), (lit "route", .tup []), (lit "layer", .tup [.str (lit "number"), .str (lit "number"), .str (lit "name")]), (lit "span", .tup [.str (lit "number"), .str (lit "number")]), (lit "standin", .tup [.str (lit "name"), .str (lit "number"), .str (lit "number")]), (lit "ring", .tup [.str (lit "name"), .str (lit "number")]), (lit "match", .tup [.str (lit "name"), .str (lit "test"), .str (lit "value")]), (lit "group", .tup []), (lit "wait", .tup [.str (lit "number")]), (lit "interval", .tup [.str (lit "number")]), (lit "again", .tup [.str (lit "number")]), (lit "mute", .tup []), (lit "by", .tup [.str (lit "name")]), (lit "source", .tup [.str (lit "name"), .str (lit "test"), .str (lit "value")]), (lit "target", .tup [.str (lit "name"), .str (lit "test"), .str (lit "value")]), (lit "equal", .tup []), (lit "record", .tup [.str (lit "name")]), (lit "alert", .tup [.str (lit "name"), .str (lit "number"), .str (lit "number")]), (lit "label", .tup [.str (lit "name"), .str (lit "value")]), (lit "expr", .tup [])]
def TAB_FURTHER : List (List Nat × D) := [(lit "layer", .str (lit "name")), (lit "match", .str (lit "value")), (lit "source", .str (lit "value")), (lit "target", .str (lit "value")), (lit "group", .str (lit "name")), (lit "mute", .str (lit "name")), (lit "equal", .str (lit "name"))]
structure Txt (K : PySem.W.Frag) (mg : Str → Option Value) (w : World) : Prop where
  f_is_value : Here K mg "is_value" s_is_value ["text"]
  f_is_name : Here K mg "is_name" s_is_name ["text"]
  f__is_number : Here K mg "_is_number" s__is_number ["word"]
  f__fits : Here K mg "_fits" s__fits ["kind", "word"]
  f__kinds : Here K mg "_kinds" s__kinds ["word", "many"]
  f_check_words : Here K mg "check_words" s_check_words ["words"]
  f__law_draws : Here K mg "_law_draws" s__law_draws ["_law_cell", "_law_many"]
  f__law_shape : Here K mg "_law_shape" s__law_shape ["_law_word_here"]
  f__law_further : Here K mg "_law_further" s__law_further ["_law_word_here"]
  f__law_consists : Here K mg "_law_consists" s__law_consists ["_law_text", "_law_chars"]
  f__law_right : Here K mg "_law_right" s__law_right ["_law_kind", "_law_word_here"]
  f__law_checked : Here K mg "_law_checked" s__law_checked ["_law_words"]
  f__law_word : Here K mg "_law_word" s__law_word ["_law_kind", "_law_draw"]
  f__law_wrong : Here K mg "_law_wrong" s__law_wrong ["_law_kind", "_law_draw"]
  f__law_first : Here K mg "_law_first" s__law_first ["_law_draws_here"]
  f__law_list : Here K mg "_law_list" s__law_list ["_law_cell"]
  f_law : Here K mg "law" s_law ["_law_script"]
  z_int : mg "int" = none
  z_isinstance : mg "isinstance" = none
  z_len : mg "len" = none
  z_list : mg "list" = none
  z_range : mg "range" = none
  z_str : mg "str" = none
  z_zip : mg "zip" = none
  c_LETTERS : Cst mg "LETTERS" (.str (Str.ofString "abcdefghijklmnopqrstuvwxyz"))
  c_MOST_CHARS : Cst mg "MOST_CHARS" (.int 20)
  c_WORD_CHARS : Cst mg "WORD_CHARS" (.str (Str.ofString "abcdefghijklmnopqrstuvwxyz0123456789_"))
  t_SHAPES : WTab K mg w "SHAPES" TAB_SHAPES
  t_FURTHER : WTab K mg w "FURTHER" TAB_FURTHER
section
variable {P : Program} {w : World} {K : PySem.W.Frag} {mg : Str → Option Value} {base : Heap}
/-! is_value -/
theorem sc_is_value : FnScope ["text", "char"] ["text"] (defScope s_is_value) := ⟨rfl, rfl, rfl, by decide +kernel, rfl, by decide +kernel, by decide +kernel⟩
def L1_is_value : Reg → Out := (iteS (cmp2 (fun ρ => fzAt ρ 1) (fun _ => some (.str (lit "abcdefghijklmnopqrstuvwxyz0123456789_"))) dNotMem) (retS (fun _ => some (.bl false))) skip)
def b_is_value : Reg → Out := (sq (iteS (orT (cmp2 (fun ρ => fzAt ρ 0) (fun _ => some (.str (lit ""))) dEq) (cmp2 (un1 (fun ρ => fzAt ρ 0) dLen) (fun _ => some (.int 20)) dGt)) (retS (fun _ => some (.bl false))) skip) (sq (forS (itV (fun ρ => fzAt ρ 0)) (gN 1) L1_is_value) (retS (fun _ => some (.bl true)))))
def m_is_value : List D → Option D := fun ds => fin (b_is_value (startR 2 ds))
theorem ok_is_value (T : Txt K mg w) : NameOk P w K mg base 1 "is_value" 1 m_is_value :=
  name_data T.f_is_value sc_is_value (fun _ _ _ h => h) fun f cdv A outer s H E hr => ⟨_, (dss_cons (ds_if (dw_or (dt_eq (de_var 0).toB de_str.toB) (dw_or1 (dt_gt (de_len T.z_len (de_var 0).toB).toB (de_cint T.c_MOST_CHARS).toB))).toT (dss_one (ds_ret de_bl)) dss_nil) (dss_cons (ds_for PassesOwn.never rfl (di_any (de_var 0)) (dg_name 1 sc_is_value.nd) (dss_one (ds_if (dt_notMem hr (de_var 1).toB (de_cstr T.c_WORD_CHARS).toB) (dss_one (ds_ret de_bl)) dss_nil))) (dss_one (ds_ret de_bl))))⟩
/-! is_name -/
theorem sc_is_name : FnScope ["text"] ["text"] (defScope s_is_name) := ⟨rfl, rfl, rfl, by decide +kernel, rfl, by decide +kernel, by decide +kernel⟩
def b_is_name : Reg → Out := (retS (andV (callV m_is_value (consA (fun ρ => fzAt ρ 0) (fun _ => some []))) (bV (cmp2 (bin2 (fun ρ => fzAt ρ 0) (fun _ => some (.int 0)) dItem) (fun _ => some (.str (lit "abcdefghijklmnopqrstuvwxyz"))) dMem))))
def m_is_name : List D → Option D := fun ds => fin (b_is_name (startR 1 ds))
theorem ok_is_name (T : Txt K mg w) : NameOk P w K mg base 2 "is_name" 1 m_is_name :=
  name_data T.f_is_name sc_is_name (fun _ _ _ h => h) fun f cdv A outer s H E hr => ⟨_, (dss_one (ds_ret (de_and (de_callN (ok_is_value T) hr (da_cons (de_var 0) da_nil)) (de_one (de_mem hr (de_item hr (de_var 0).toB de_int.toB).toB (de_cstr T.c_LETTERS).toB)))))⟩
/-! _is_number -/
theorem sc__is_number : FnScope ["word"] ["word"] (defScope s__is_number) := ⟨rfl, rfl, rfl, by decide +kernel, rfl, by decide +kernel, by decide +kernel⟩
def b__is_number : Reg → Out := (sq (iteS (orT (notT (truT (un1 (fun ρ => fzAt ρ 0) (strG gDigit)))) (cmp2 (un1 (fun ρ => fzAt ρ 0) dLen) (fun _ => some (.int 5)) dGt)) (retS (fun _ => some (.bl false))) skip) (retS (orV (bV (cmp2 (fun ρ => fzAt ρ 0) (fun _ => some (.str (lit "0"))) dEq)) (bV (notT (truT (bin2 (fun ρ => fzAt ρ 0) (fun _ => some (.str (lit "0"))) dStarts)))))))
def m__is_number : List D → Option D := fun ds => fin (b__is_number (startR 1 ds))
theorem ok__is_number (T : Txt K mg w) : NameOk P w K mg base 1 "_is_number" 1 m__is_number :=
  name_data T.f__is_number sc__is_number (fun _ _ _ h => h) fun f cdv A outer s H E hr => ⟨_, (dss_cons (ds_if (dw_or (dt_not (dt_tru (de_isdigit (de_var 0).toB).toB)) (dw_or1 (dt_gt (de_len T.z_len (de_var 0).toB).toB de_int.toB))).toT (dss_one (ds_ret de_bl)) dss_nil) (dss_one (ds_ret (de_or (de_eq (de_var 0).toB de_str.toB) (de_one (de_not (de_starts (de_var 0).toB de_str.toB).toB))))))⟩
/-! _fits -/
theorem sc__fits : FnScope ["kind", "word"] ["kind", "word"] (defScope s__fits) := ⟨rfl, rfl, rfl, by decide +kernel, rfl, by decide +kernel, by decide +kernel⟩
def b__fits : Reg → Out := (sq (iteS (cmp2 (fun ρ => fzAt ρ 0) (fun _ => some (.str (lit "number"))) dEq) (retS (callV m__is_number (consA (fun ρ => fzAt ρ 1) (fun _ => some [])))) skip) (sq (iteS (cmp2 (fun ρ => fzAt ρ 0) (fun _ => some (.str (lit "name"))) dEq) (retS (callV m_is_name (consA (fun ρ => fzAt ρ 1) (fun _ => some [])))) skip) (sq (iteS (cmp2 (fun ρ => fzAt ρ 0) (fun _ => some (.str (lit "test"))) dEq) (retS (bV (cmp2 (fun ρ => fzAt ρ 1) (tupV (consA (fun _ => some (.str (lit "in"))) (consA (fun _ => some (.str (lit "not"))) (fun _ => some [])))) dMem))) skip) (retS (orV (bV (cmp2 (fun ρ => fzAt ρ 1) (fun _ => some (.str (lit "-"))) dEq)) (callV m_is_value (consA (fun ρ => fzAt ρ 1) (fun _ => some []))))))))
def m__fits : List D → Option D := fun ds => fin (b__fits (startR 2 ds))
theorem ok__fits (T : Txt K mg w) : NameOk P w K mg base 3 "_fits" 2 m__fits :=
  name_data T.f__fits sc__fits (fun _ _ _ h => h) fun f cdv A outer s H E hr => ⟨_, (dss_cons (ds_if (dt_eq (de_var 0).toB de_str.toB) (dss_one (ds_ret (de_callN (ok__is_number T) hr (da_cons (de_var 1) da_nil)))) dss_nil) (dss_cons (ds_if (dt_eq (de_var 0).toB de_str.toB) (dss_one (ds_ret (de_callN (ok_is_name T) hr (da_cons (de_var 1) da_nil)))) dss_nil) (dss_cons (ds_if (dt_eq (de_var 0).toB de_str.toB) (dss_one (ds_ret (de_mem hr (de_var 1).toB (de_tup (da_cons de_str (da_cons de_str da_nil))).toB))) dss_nil) (dss_one (ds_ret (de_or (de_eq (de_var 1).toB de_str.toB) (de_one (de_callN (ok_is_value T) hr (da_cons (de_var 1) da_nil)))))))))⟩
/-! _kinds -/
theorem sc__kinds : FnScope ["word", "many", "kinds"] ["word", "many"] (defScope s__kinds) := ⟨rfl, rfl, rfl, by decide +kernel, rfl, by decide +kernel, by decide +kernel⟩
def L1__kinds : Reg → Out := (appS 2 (un1 (fun ρ => fzAt ρ 0) (wGet TAB_FURTHER)))
def b__kinds : Reg → Out := (sq (setN 2 (un1 (un1 (fun ρ => fzAt ρ 0) (wGet TAB_SHAPES)) dList)) (sq (iteS (andT (cmp2 (fun ρ => fzAt ρ 0) (fun _ => some (.str (lit "route"))) dEq) (cmp2 (fun ρ => fzAt ρ 1) (fun _ => some (.int 1)) dEq)) (appS 2 (fun _ => some (.str (lit "number")))) skip) (sq (whileD (andT (tstV (fun ρ => fzAt ρ 0) (wIn TAB_FURTHER)) (cmp2 (un1 (fun ρ => anyAt ρ 2) dLen) (fun ρ => fzAt ρ 1) dLt)) L1__kinds manyN) (sq (iteS (cmp2 (un1 (fun ρ => anyAt ρ 2) dLen) (fun ρ => fzAt ρ 1) dNe) (retS (fun _ => some .non)) skip) (frzS 2 (retS (fun ρ => fzAt ρ 2)))))))
def m__kinds : List D → Option D := fun ds => fin (b__kinds (startR 3 ds))
theorem ok__kinds (T : Txt K mg w) : NameOk P w K mg base 1 "_kinds" 2 m__kinds :=
  name_data T.f__kinds sc__kinds (fun _ _ _ h => h) fun f cdv A outer s H E hr => ⟨_, (dss_cons (ds_setN 2 sc__kinds.nd (dn_list T.z_list (de_wget T.t_SHAPES (de_var 0).toB).toB)) (dss_cons (ds_if (dw_and (dt_eq (de_var 0).toB de_str.toB) (dw_and1 (dt_eq (de_var 1).toB de_int.toB))).toT (dss_one (ds_append 2 de_str)) dss_nil) (dss_cons (ds_while PassesOwn.never (dw_and (dt_inW T.t_FURTHER (de_var 0).toB) (dw_and1 (dt_lt (de_len T.z_len (db_var 2)).toB (de_var 1).toB))).toT (dss_one (ds_append 2 (de_wget T.t_FURTHER (de_var 0).toB)))) (dss_cons (ds_if (dt_ne (de_len T.z_len (db_var 2)).toB (de_var 1).toB) (dss_one (ds_ret de_non)) dss_nil) (dss_one (ds_frz 2 (ds_ret (de_var 2))))))))⟩
/-! check_words -/
theorem sc_check_words : FnScope ["words", "kinds", "kind", "word"] ["words"] (defScope s_check_words) := ⟨rfl, rfl, rfl, by decide +kernel, rfl, by decide +kernel, by decide +kernel⟩
def L1_check_words : Reg → Out := (iteS (notT (truT (callV m__fits (consA (fun ρ => fzAt ρ 2) (consA (fun ρ => fzAt ρ 3) (fun _ => some [])))))) (retS (fun ρ => fzAt ρ 2)) skip)
def b_check_words : Reg → Out := (sq (iteS (tstV (bin2 (fun ρ => fzAt ρ 0) (fun _ => some (.int 0)) dItem) (wNotIn TAB_SHAPES)) (retS (fun _ => some (.str (lit "unknown")))) skip) (sq (iteS (cmp2 (bin2 (fun ρ => fzAt ρ 0) (fun _ => some (.int 0)) dItem) (fun _ => some (.str (lit "expr"))) dEq) (sq (iteS (cmp2 (un1 (fun ρ => fzAt ρ 0) dLen) (fun _ => some (.int 2)) dLt) (retS (fun _ => some (.str (lit "fields")))) skip) (retS (fun _ => some .non))) skip) (sq (setS 1 (callV m__kinds (consA (bin2 (fun ρ => fzAt ρ 0) (fun _ => some (.int 0)) dItem) (consA (bin2 (un1 (fun ρ => fzAt ρ 0) dLen) (fun _ => some (.int 1)) dSub) (fun _ => some []))))) (sq (iteS (cmp2 (fun ρ => fzAt ρ 1) (fun _ => some .non) dIsN) (retS (fun _ => some (.str (lit "fields")))) skip) (sq (forS (zipV (consA (fun ρ => fzAt ρ 1) (consA (slV (fun ρ => fzAt ρ 0) (parV (fun _ => some (.int 1))) (fun _ => some none) dSlice) (fun _ => some [])))) (gT (gsC (gN 2) (gsC (gN 3) gsN))) L1_check_words) (retS (fun _ => some .non)))))))
def m_check_words : List D → Option D := fun ds => fin (b_check_words (startR 4 ds))
theorem ok_check_words (T : Txt K mg w) : NameOk P w K mg base 4 "check_words" 1 m_check_words :=
  name_data T.f_check_words sc_check_words (fun _ _ _ h => h) fun f cdv A outer s H E hr => ⟨_, (dss_cons (ds_if (dt_notInW T.t_SHAPES (de_item hr (de_var 0).toB de_int.toB).toB) (dss_one (ds_ret de_str)) dss_nil) (dss_cons (ds_if (dt_eq (de_item hr (de_var 0).toB de_int.toB).toB de_str.toB) (dss_cons (ds_if (dt_lt (de_len T.z_len (de_var 0).toB).toB de_int.toB) (dss_one (ds_ret de_str)) dss_nil) (dss_one (ds_ret de_non))) dss_nil) (dss_cons (ds_set 1 sc_check_words.nd (de_callN (ok__kinds T) hr (da_cons (de_item hr (de_var 0).toB de_int.toB) (da_cons (de_sub (de_len T.z_len (de_var 0).toB).toB de_int.toB) da_nil)))) (dss_cons (ds_if (dt_isN (de_var 1).toB de_non.toB) (dss_one (ds_ret de_str)) dss_nil) (dss_cons (ds_for PassesOwn.never rfl (di_zip T.z_zip (da_cons (de_var 1) (da_cons (de_slice (de_var 0).toB (do_some de_int.toB) do_none) da_nil))) (dg_tup 2 rfl (dgs_cons (dg_name 2 sc_check_words.nd) (dgs_cons (dg_name 3 sc_check_words.nd) dgs_nil)) (gsC_len (gsC_len gsN_len))) (dss_one (ds_if (dt_not (dt_tru (de_callN (ok__fits T) hr (da_cons (de_var 2) (da_cons (de_var 3) da_nil))).toB)) (dss_one (ds_ret (de_var 2))) dss_nil))) (dss_one (ds_ret de_non)))))))⟩
/-! _law_draws -/
theorem sc__law_draws : FnScope ["_law_cell", "_law_many", "_law_rows", "_law_rest", "_law_k", "_law_state"] ["_law_cell", "_law_many"] (defScope s__law_draws) := ⟨rfl, rfl, rfl, by decide +kernel, rfl, by decide +kernel, by decide +kernel⟩
def L1__law_draws : Reg → Out := (iteS (cmp2 (fun ρ => fzAt ρ 3) (fun _ => some (.int 0)) dGt) (sq (appS 2 (bin2 (un1 (fun ρ => fzAt ρ 3) dInt) (fun _ => some (.int 1000)) dMod)) (setS 3 (bin2 (fun ρ => fzAt ρ 3) (fun _ => some (.int 1000)) dDiv))) skip)
def L2__law_draws : Reg → Out := (sq (setS 5 (bin2 (un1 (bin2 (bin2 (bin2 (fun ρ => fzAt ρ 5) (fun _ => some (.int 48271)) dMul) (bin2 (fun ρ => fzAt ρ 4) (fun _ => some (.int 69621)) dMul) dPlus) (fun _ => some (.int 7)) dPlus) dInt) (fun _ => some (.int 2147483647)) dMod)) (iteS (cmp2 (un1 (fun ρ => anyAt ρ 2) dLen) (fun ρ => fzAt ρ 1) dLt) (appS 2 (bin2 (un1 (bin2 (un1 (bin2 (bin2 (fun ρ => fzAt ρ 5) (fun _ => some (.int 69621)) dMul) (fun _ => some (.int 5)) dPlus) dInt) (fun _ => some (.int 2147483629)) dMod) dInt) (fun _ => some (.int 1000)) dMod)) skip))
def b__law_draws : Reg → Out := (sq (setN 2 (lstV (fun _ => some []))) (sq (setS 3 (un1 (fun ρ => fzAt ρ 0) dInt)) (sq (iteS (cmp2 (fun ρ => fzAt ρ 3) (bin2 (fun _ => some (.int 10)) (fun _ => some (.int 18)) dPow) dGe) (forS (rng1 (consA (fun ρ => fzAt ρ 1) (fun _ => some []))) (gN 4) L1__law_draws) skip) (sq (setS 5 (bin2 (un1 (bin2 (bin2 (un1 (fun ρ => fzAt ρ 0) dInt) (fun _ => some (.int 48271)) dMul) (fun _ => some (.int 11)) dPlus) dInt) (fun _ => some (.int 2147483647)) dMod)) (sq (forS (rng1 (consA (fun ρ => fzAt ρ 1) (fun _ => some []))) (gN 4) L2__law_draws) (frzS 2 (retS (fun ρ => fzAt ρ 2))))))))
def m__law_draws : List D → Option D := fun ds => fin (b__law_draws (startR 6 ds))
theorem ok__law_draws (T : Txt K mg w) : NameOk P w K mg base 1 "_law_draws" 2 m__law_draws :=
  name_data T.f__law_draws sc__law_draws (fun _ _ _ h => h) fun f cdv A outer s H E hr => ⟨_, (dss_cons (ds_setN 2 sc__law_draws.nd (dn_lst da_nil)) (dss_cons (ds_set 3 sc__law_draws.nd (de_toInt T.z_int (de_var 0).toB)) (dss_cons (ds_if (dt_ge (de_var 3).toB (de_pow de_int.toB de_int.toB).toB) (dss_one (ds_for PassesOwn.never rfl (di_range1 T.z_range (da_cons (de_var 1) da_nil)) (dg_name 4 sc__law_draws.nd) (dss_one (ds_if (dt_gt (de_var 3).toB de_int.toB) (dss_cons (ds_append 2 (de_mod (de_toInt T.z_int (de_var 3).toB).toB de_int.toB)) (dss_one (ds_set 3 sc__law_draws.nd (de_div (de_var 3).toB de_int.toB)))) dss_nil)))) dss_nil) (dss_cons (ds_set 5 sc__law_draws.nd (de_mod (de_toInt T.z_int (de_plus (de_mul (de_toInt T.z_int (de_var 0).toB).toB de_int.toB).toB de_int.toB).toB).toB de_int.toB)) (dss_cons (ds_for PassesOwn.never rfl (di_range1 T.z_range (da_cons (de_var 1) da_nil)) (dg_name 4 sc__law_draws.nd) (dss_cons (ds_set 5 sc__law_draws.nd (de_mod (de_toInt T.z_int (de_plus (de_plus (de_mul (de_var 5).toB de_int.toB).toB (de_mul (de_var 4).toB de_int.toB).toB).toB de_int.toB).toB).toB de_int.toB)) (dss_one (ds_if (dt_lt (de_len T.z_len (db_var 2)).toB (de_var 1).toB) (dss_one (ds_append 2 (de_mod (de_toInt T.z_int (de_mod (de_toInt T.z_int (de_plus (de_mul (de_var 5).toB de_int.toB).toB de_int.toB).toB).toB de_int.toB).toB).toB de_int.toB))) dss_nil)))) (dss_one (ds_frz 2 (ds_ret (de_var 2)))))))))⟩
/-! _law_shape -/
theorem sc__law_shape : FnScope ["_law_word_here", "_law_shapes"] ["_law_word_here"] (defScope s__law_shape) := ⟨rfl, rfl, rfl, by decide +kernel, rfl, by decide +kernel, by decide +kernel⟩
def T1__law_shape : List (DK × D) := [(.inr (lit "week"), .str (lit "n")), (.inr (lit "lookback"), .str (lit "n")), (.inr (lit "store"), .str (lit "nnnn")), (.inr (lit "pager"), .str (lit "nnn")), (.inr (lit "person"), .str (lit "an")), (.inr (lit "schedule"), .str (lit "a")), (.inr (lit "policy"), .str (lit "a")), (.inr (lit "window"), .str (lit "a")), (.inr (lit "holdback"), .str (lit "")), (.inr (lit "rules"), .str (lit "ann")), (.inr (lit "route"), .str (lit "")), (.inr (lit "layer"), .str (lit "nna")), (.inr (lit "span"), .str (lit "nn")), (.inr (lit "standin"), .str (lit "ann")), (.inr (lit "ring"), .str (lit "an")), (.inr (lit "match"), .str (lit "atv")), (.inr (lit "group"), .str (lit "")), (.inr (lit "wait"), .str (lit "n")), (.inr (lit "interval"), .str (lit "n")), (.inr (lit "again"), .str (lit "n")), (.inr (lit "mute"), .str (lit "")), (.inr (lit "by"), .str (lit "a")), (.inr (lit "source"), .str (lit "atv")), (.inr (lit "target"), .str (lit "atv")), (.inr (lit "equal"), .str (lit "")), (.inr (lit "record"), .str (lit "a")), (.inr (lit "alert"), .str (lit "ann")), (.inr (lit "label"), .str (lit "av")), (.inr (lit "expr"), .str (lit ""))]
def b__law_shape : Reg → Out := (sq (setS 1 (fun _ => some (.dic T1__law_shape))) (retS (bin2 (fun ρ => fzAt ρ 1) (fun ρ => fzAt ρ 0) dGet1)))
def m__law_shape : List D → Option D := fun ds => fin (b__law_shape (startR 2 ds))
theorem ok__law_shape (T : Txt K mg w) : NameOk P w K mg base 1 "_law_shape" 1 m__law_shape :=
  name_data T.f__law_shape sc__law_shape (fun _ _ _ h => h) fun f cdv A outer s H E hr => ⟨_, (dss_cons (ds_set 1 sc__law_shape.nd (dn_dict (ds := T1__law_shape) (.ss (.ss (.ss (.ss (.ss (.ss (.ss (.ss (.ss (.ss (.ss (.ss (.ss (.ss (.ss (.ss (.ss (.ss (.ss (.ss (.ss (.ss (.ss (.ss (.ss (.ss (.ss (.ss (.ss .nil))))))))))))))))))))))))))))) (by decide +kernel) (.inr (by decide))).toE) (dss_one (ds_ret (de_get1 hr (de_var 1).toB (de_var 0).toB))))⟩
/-! _law_further -/
theorem sc__law_further : FnScope ["_law_word_here"] ["_law_word_here"] (defScope s__law_further) := ⟨rfl, rfl, rfl, by decide +kernel, rfl, by decide +kernel, by decide +kernel⟩
def b__law_further : Reg → Out := (sq (iteS (orT (cmp2 (fun ρ => fzAt ρ 0) (fun _ => some (.str (lit "match"))) dEq) (orT (cmp2 (fun ρ => fzAt ρ 0) (fun _ => some (.str (lit "source"))) dEq) (cmp2 (fun ρ => fzAt ρ 0) (fun _ => some (.str (lit "target"))) dEq))) (retS (fun _ => some (.str (lit "v")))) skip) (sq (iteS (orT (cmp2 (fun ρ => fzAt ρ 0) (fun _ => some (.str (lit "layer"))) dEq) (orT (cmp2 (fun ρ => fzAt ρ 0) (fun _ => some (.str (lit "group"))) dEq) (orT (cmp2 (fun ρ => fzAt ρ 0) (fun _ => some (.str (lit "mute"))) dEq) (cmp2 (fun ρ => fzAt ρ 0) (fun _ => some (.str (lit "equal"))) dEq)))) (retS (fun _ => some (.str (lit "a")))) skip) (retS (fun _ => some (.str (lit ""))))))
def m__law_further : List D → Option D := fun ds => fin (b__law_further (startR 1 ds))
theorem ok__law_further (T : Txt K mg w) : NameOk P w K mg base 1 "_law_further" 1 m__law_further :=
  name_data T.f__law_further sc__law_further (fun _ _ _ h => h) fun f cdv A outer s H E hr => ⟨_, (dss_cons (ds_if (dw_or (dt_eq (de_var 0).toB de_str.toB) (dw_or (dt_eq (de_var 0).toB de_str.toB) (dw_or1 (dt_eq (de_var 0).toB de_str.toB)))).toT (dss_one (ds_ret de_str)) dss_nil) (dss_cons (ds_if (dw_or (dt_eq (de_var 0).toB de_str.toB) (dw_or (dt_eq (de_var 0).toB de_str.toB) (dw_or (dt_eq (de_var 0).toB de_str.toB) (dw_or1 (dt_eq (de_var 0).toB de_str.toB))))).toT (dss_one (ds_ret de_str)) dss_nil) (dss_one (ds_ret de_str))))⟩
/-! _law_consists -/
theorem sc__law_consists : FnScope ["_law_text", "_law_chars", "_law_char"] ["_law_text", "_law_chars"] (defScope s__law_consists) := ⟨rfl, rfl, rfl, by decide +kernel, rfl, by decide +kernel, by decide +kernel⟩
def L1__law_consists : Reg → Out := (iteS (cmp2 (fun ρ => fzAt ρ 2) (fun ρ => fzAt ρ 1) dNotMem) (retS (fun _ => some (.bl false))) skip)
def b__law_consists : Reg → Out := (sq (forS (itV (fun ρ => fzAt ρ 0)) (gN 2) L1__law_consists) (retS (fun _ => some (.bl true))))
def m__law_consists : List D → Option D := fun ds => fin (b__law_consists (startR 3 ds))
theorem ok__law_consists (T : Txt K mg w) : NameOk P w K mg base 1 "_law_consists" 2 m__law_consists :=
  name_data T.f__law_consists sc__law_consists (fun _ _ _ h => h) fun f cdv A outer s H E hr => ⟨_, (dss_cons (ds_for PassesOwn.never rfl (di_any (de_var 0)) (dg_name 2 sc__law_consists.nd) (dss_one (ds_if (dt_notMem hr (de_var 2).toB (de_var 1).toB) (dss_one (ds_ret de_bl)) dss_nil))) (dss_one (ds_ret de_bl)))⟩
/-! _law_right -/
theorem sc__law_right : FnScope ["_law_kind", "_law_word_here", "_law_small", "_law_plain"] ["_law_kind", "_law_word_here"] (defScope s__law_right) := ⟨rfl, rfl, rfl, by decide +kernel, rfl, by decide +kernel, by decide +kernel⟩
def b__law_right : Reg → Out := (sq (iteS (cmp2 (fun ρ => fzAt ρ 0) (fun _ => some (.str (lit "n"))) dEq) (retS (andV (callV m__law_consists (consA (fun ρ => fzAt ρ 1) (consA (fun _ => some (.str (lit "0123456789"))) (fun _ => some [])))) (andV (bV (cmp2 (un1 (fun ρ => fzAt ρ 1) dLen) (fun _ => some (.int 5)) dLe)) (orV (bV (cmp2 (fun ρ => fzAt ρ 1) (fun _ => some (.str (lit "0"))) dEq)) (bV (cmp2 (bin2 (fun ρ => fzAt ρ 1) (fun _ => some (.int 0)) dItem) (fun _ => some (.str (lit "0"))) dNe)))))) skip) (sq (iteS (cmp2 (fun ρ => fzAt ρ 0) (fun _ => some (.str (lit "t"))) dEq) (retS (orV (bV (cmp2 (fun ρ => fzAt ρ 1) (fun _ => some (.str (lit "in"))) dEq)) (bV (cmp2 (fun ρ => fzAt ρ 1) (fun _ => some (.str (lit "not"))) dEq)))) skip) (sq (setS 2 (fun _ => some (.str (lit "abcdefghijklmnopqrstuvwxyz")))) (sq (setS 3 (andV (callV m__law_consists (consA (fun ρ => fzAt ρ 1) (consA (bin2 (fun ρ => fzAt ρ 2) (fun _ => some (.str (lit "0123456789_"))) dPlus) (fun _ => some [])))) (bV (cmp2 (un1 (fun ρ => fzAt ρ 1) dLen) (fun _ => some (.int 20)) dLe)))) (sq (iteS (cmp2 (fun ρ => fzAt ρ 0) (fun _ => some (.str (lit "a"))) dEq) (retS (andV (fun ρ => fzAt ρ 3) (bV (cmp2 (bin2 (fun ρ => fzAt ρ 1) (fun _ => some (.int 0)) dItem) (fun ρ => fzAt ρ 2) dMem)))) skip) (retS (orV (fun ρ => fzAt ρ 3) (bV (cmp2 (fun ρ => fzAt ρ 1) (fun _ => some (.str (lit "-"))) dEq)))))))))
def m__law_right : List D → Option D := fun ds => fin (b__law_right (startR 4 ds))
theorem ok__law_right (T : Txt K mg w) : NameOk P w K mg base 2 "_law_right" 2 m__law_right :=
  name_data T.f__law_right sc__law_right (fun _ _ _ h => h) fun f cdv A outer s H E hr => ⟨_, (dss_cons (ds_if (dt_eq (de_var 0).toB de_str.toB) (dss_one (ds_ret (de_and (de_callN (ok__law_consists T) hr (da_cons (de_var 1) (da_cons de_str da_nil))) (de_and (de_le (de_len T.z_len (de_var 1).toB).toB de_int.toB) (de_one (de_or (de_eq (de_var 1).toB de_str.toB) (de_one (de_ne (de_item hr (de_var 1).toB de_int.toB).toB de_str.toB)))))))) dss_nil) (dss_cons (ds_if (dt_eq (de_var 0).toB de_str.toB) (dss_one (ds_ret (de_or (de_eq (de_var 1).toB de_str.toB) (de_one (de_eq (de_var 1).toB de_str.toB))))) dss_nil) (dss_cons (ds_set 2 sc__law_right.nd de_str) (dss_cons (ds_set 3 sc__law_right.nd (de_and (de_callN (ok__law_consists T) hr (da_cons (de_var 1) (da_cons (de_plus (de_var 2).toB de_str.toB) da_nil))) (de_one (de_le (de_len T.z_len (de_var 1).toB).toB de_int.toB)))) (dss_cons (ds_if (dt_eq (de_var 0).toB de_str.toB) (dss_one (ds_ret (de_and (de_var 3) (de_one (de_mem hr (de_item hr (de_var 1).toB de_int.toB).toB (de_var 2).toB))))) dss_nil) (dss_one (ds_ret (de_or (de_var 3) (de_one (de_eq (de_var 1).toB de_str.toB))))))))))⟩
/-! _law_checked -/
theorem sc__law_checked : FnScope ["_law_words", "_law_shape_here", "_law_many", "_law_k"] ["_law_words"] (defScope s__law_checked) := ⟨rfl, rfl, rfl, by decide +kernel, rfl, by decide +kernel, by decide +kernel⟩
def T1__law_checked : List (DK × D) := [(.inr (lit "n"), .str (lit "number")), (.inr (lit "a"), .str (lit "name")), (.inr (lit "t"), .str (lit "test")), (.inr (lit "v"), .str (lit "value"))]
def L1__law_checked : Reg → Out := (iteS (notT (truT (callV m__law_right (consA (bin2 (fun ρ => fzAt ρ 1) (fun ρ => fzAt ρ 3) dItem) (consA (bin2 (fun ρ => fzAt ρ 0) (bin2 (fun ρ => fzAt ρ 3) (fun _ => some (.int 1)) dPlus) dItem) (fun _ => some [])))))) (retS (bin2 (fun _ => some (.dic T1__law_checked)) (bin2 (fun ρ => fzAt ρ 1) (fun ρ => fzAt ρ 3) dItem) dItem)) skip)
def b__law_checked : Reg → Out := (sq (setS 1 (callV m__law_shape (consA (bin2 (fun ρ => fzAt ρ 0) (fun _ => some (.int 0)) dItem) (fun _ => some [])))) (sq (setS 2 (bin2 (un1 (fun ρ => fzAt ρ 0) dLen) (fun _ => some (.int 1)) dSub)) (sq (iteS (cmp2 (fun ρ => fzAt ρ 1) (fun _ => some .non) dIsN) (retS (fun _ => some (.str (lit "unknown")))) skip) (sq (iteS (cmp2 (bin2 (fun ρ => fzAt ρ 0) (fun _ => some (.int 0)) dItem) (fun _ => some (.str (lit "expr"))) dEq) (retS (ifV (cmp2 (fun ρ => fzAt ρ 2) (fun _ => some (.int 0)) dEq) (fun _ => some (.str (lit "fields"))) (fun _ => some .non))) skip) (sq (iteS (andT (cmp2 (bin2 (fun ρ => fzAt ρ 0) (fun _ => some (.int 0)) dItem) (fun _ => some (.str (lit "route"))) dEq) (cmp2 (fun ρ => fzAt ρ 2) (fun _ => some (.int 1)) dEq)) (setS 1 (fun _ => some (.str (lit "n")))) skip) (sq (iteS (cmp2 (fun ρ => fzAt ρ 2) (un1 (fun ρ => fzAt ρ 1) dLen) dGt) (setS 1 (bin2 (fun ρ => fzAt ρ 1) (bin2 (callV m__law_further (consA (bin2 (fun ρ => fzAt ρ 0) (fun _ => some (.int 0)) dItem) (fun _ => some []))) (bin2 (fun ρ => fzAt ρ 2) (un1 (fun ρ => fzAt ρ 1) dLen) dSub) dMulS) dPlus)) skip) (sq (iteS (cmp2 (fun ρ => fzAt ρ 2) (un1 (fun ρ => fzAt ρ 1) dLen) dNe) (retS (fun _ => some (.str (lit "fields")))) skip) (sq (forS (rng1 (consA (fun ρ => fzAt ρ 2) (fun _ => some []))) (gN 3) L1__law_checked) (retS (fun _ => some .non))))))))))
def m__law_checked : List D → Option D := fun ds => fin (b__law_checked (startR 4 ds))
theorem ok__law_checked (T : Txt K mg w) : NameOk P w K mg base 3 "_law_checked" 1 m__law_checked :=
  name_data T.f__law_checked sc__law_checked (fun _ _ _ h => h) fun f cdv A outer s H E hr => ⟨_, (dss_cons (ds_set 1 sc__law_checked.nd (de_callN (ok__law_shape T) hr (da_cons (de_item hr (de_var 0).toB de_int.toB) da_nil))) (dss_cons (ds_set 2 sc__law_checked.nd (de_sub (de_len T.z_len (de_var 0).toB).toB de_int.toB)) (dss_cons (ds_if (dt_isN (de_var 1).toB de_non.toB) (dss_one (ds_ret de_str)) dss_nil) (dss_cons (ds_if (dt_eq (de_item hr (de_var 0).toB de_int.toB).toB de_str.toB) (dss_one (ds_ret (de_if (dt_eq (de_var 2).toB de_int.toB) de_str de_non))) dss_nil) (dss_cons (ds_if (dw_and (dt_eq (de_item hr (de_var 0).toB de_int.toB).toB de_str.toB) (dw_and1 (dt_eq (de_var 2).toB de_int.toB))).toT (dss_one (ds_set 1 sc__law_checked.nd de_str)) dss_nil) (dss_cons (ds_if (dt_gt (de_var 2).toB (de_len T.z_len (de_var 1).toB).toB) (dss_one (ds_set 1 sc__law_checked.nd (de_plus (de_var 1).toB (de_mulS (de_callN (ok__law_further T) hr (da_cons (de_item hr (de_var 0).toB de_int.toB) da_nil)).toB (de_sub (de_var 2).toB (de_len T.z_len (de_var 1).toB).toB).toB).toB))) dss_nil) (dss_cons (ds_if (dt_ne (de_var 2).toB (de_len T.z_len (de_var 1).toB).toB) (dss_one (ds_ret de_str)) dss_nil) (dss_cons (ds_for PassesOwn.never rfl (di_range1 T.z_range (da_cons (de_var 2) da_nil)) (dg_name 3 sc__law_checked.nd) (dss_one (ds_if (dt_not (dt_tru (de_callN (ok__law_right T) hr (da_cons (de_item hr (de_var 1).toB (de_var 3).toB) (da_cons (de_item hr (de_var 0).toB (de_plus (de_var 3).toB de_int.toB).toB) da_nil))).toB)) (dss_one (ds_ret (de_item hr (dn_dict (ds := T1__law_checked) (.ss (.ss (.ss (.ss .nil)))) (by decide +kernel) (.inl (by decide))).toE.toB (de_item hr (de_var 1).toB (de_var 3).toB).toB))) dss_nil))) (dss_one (ds_ret de_non))))))))))⟩
/-! _law_word -/
theorem sc__law_word : FnScope ["_law_kind", "_law_draw", "_law_many", "_law_letters", "_law_word_here"] ["_law_kind", "_law_draw"] (defScope s__law_word) := ⟨rfl, rfl, rfl, by decide +kernel, rfl, by decide +kernel, by decide +kernel⟩
def b__law_word : Reg → Out := (sq (setS 2 (bin2 (un1 (fun ρ => fzAt ρ 1) dInt) (fun _ => some (.int 5)) dDiv)) (sq (iteS (cmp2 (fun ρ => fzAt ρ 0) (fun _ => some (.str (lit "n"))) dEq) (retS (bin2 (lstV (consA (fun _ => some (.str (lit "0"))) (consA (fun _ => some (.str (lit "1"))) (consA (un1 (fun ρ => fzAt ρ 2) dStr) (consA (fun _ => some (.str (lit "99999"))) (consA (un1 (bin2 (fun ρ => fzAt ρ 2) (fun _ => some (.int 97)) dMul) dStr) (fun _ => some []))))))) (bin2 (un1 (fun ρ => fzAt ρ 1) dInt) (fun _ => some (.int 5)) dMod) dItem)) skip) (sq (iteS (cmp2 (fun ρ => fzAt ρ 0) (fun _ => some (.str (lit "t"))) dEq) (retS (bin2 (lstV (consA (fun _ => some (.str (lit "in"))) (consA (fun _ => some (.str (lit "not"))) (fun _ => some [])))) (bin2 (un1 (fun ρ => fzAt ρ 1) dInt) (fun _ => some (.int 2)) dMod) dItem)) skip) (sq (setS 3 (fun _ => some (.str (lit "abcdefghijklmnopqrstuvwxyz")))) (sq (setS 4 (bin2 (bin2 (fun ρ => fzAt ρ 3) (bin2 (un1 (fun ρ => fzAt ρ 2) dInt) (fun _ => some (.int 26)) dMod) dItem) (bin2 (lstV (consA (fun _ => some (.str (lit ""))) (consA (fun _ => some (.str (lit "9"))) (consA (fun _ => some (.str (lit "_a"))) (consA (fun _ => some (.str (lit "0_z"))) (consA (slV (fun _ => some (.str (lit "_0123456789abcdefgh"))) (fun _ => some none) (parV (bin2 (fun _ => some (.int 19)) (bin2 (fun ρ => fzAt ρ 2) (fun _ => some (.int 26)) dDiv) dSub)) dSlice) (fun _ => some []))))))) (bin2 (un1 (fun ρ => fzAt ρ 1) dInt) (fun _ => some (.int 5)) dMod) dItem) dPlus)) (sq (iteS (orT (cmp2 (fun ρ => fzAt ρ 0) (fun _ => some (.str (lit "a"))) dEq) (cmp2 (bin2 (un1 (fun ρ => fzAt ρ 1) dInt) (fun _ => some (.int 3)) dMod) (fun _ => some (.int 0)) dGt)) (retS (fun ρ => fzAt ρ 4)) skip) (retS (bin2 (lstV (consA (fun _ => some (.str (lit "-"))) (consA (fun _ => some (.str (lit "7"))) (consA (fun _ => some (.str (lit "_"))) (consA (bin2 (fun _ => some (.str (lit "0"))) (slV (fun ρ => fzAt ρ 4) (fun _ => some none) (parV (fun _ => some (.int 19))) dSlice) dPlus) (consA (fun ρ => fzAt ρ 4) (fun _ => some []))))))) (bin2 (un1 (fun ρ => fzAt ρ 2) dInt) (fun _ => some (.int 5)) dMod) dItem))))))))
def m__law_word : List D → Option D := fun ds => fin (b__law_word (startR 5 ds))
theorem ok__law_word (T : Txt K mg w) : NameOk P w K mg base 1 "_law_word" 2 m__law_word :=
  name_data T.f__law_word sc__law_word (fun _ _ _ h => h) fun f cdv A outer s H E hr => ⟨_, (dss_cons (ds_set 2 sc__law_word.nd (de_div (de_toInt T.z_int (de_var 1).toB).toB de_int.toB)) (dss_cons (ds_if (dt_eq (de_var 0).toB de_str.toB) (dss_one (ds_ret (de_item hr (dn_lst (da_cons de_str (da_cons de_str (da_cons (de_toStr T.z_str (de_var 2).toB) (da_cons de_str (da_cons (de_toStr T.z_str (de_mul (de_var 2).toB de_int.toB).toB) da_nil)))))).toE.toB (de_mod (de_toInt T.z_int (de_var 1).toB).toB de_int.toB).toB))) dss_nil) (dss_cons (ds_if (dt_eq (de_var 0).toB de_str.toB) (dss_one (ds_ret (de_item hr (dn_lst (da_cons de_str (da_cons de_str da_nil))).toE.toB (de_mod (de_toInt T.z_int (de_var 1).toB).toB de_int.toB).toB))) dss_nil) (dss_cons (ds_set 3 sc__law_word.nd de_str) (dss_cons (ds_set 4 sc__law_word.nd (de_plus (de_item hr (de_var 3).toB (de_mod (de_toInt T.z_int (de_var 2).toB).toB de_int.toB).toB).toB (de_item hr (dn_lst (da_cons de_str (da_cons de_str (da_cons de_str (da_cons de_str (da_cons (de_slice de_str.toB do_none (do_some (de_sub de_int.toB (de_div (de_var 2).toB de_int.toB).toB).toB)) da_nil)))))).toE.toB (de_mod (de_toInt T.z_int (de_var 1).toB).toB de_int.toB).toB).toB)) (dss_cons (ds_if (dw_or (dt_eq (de_var 0).toB de_str.toB) (dw_or1 (dt_gt (de_mod (de_toInt T.z_int (de_var 1).toB).toB de_int.toB).toB de_int.toB))).toT (dss_one (ds_ret (de_var 4))) dss_nil) (dss_one (ds_ret (de_item hr (dn_lst (da_cons de_str (da_cons de_str (da_cons de_str (da_cons (de_plus de_str.toB (de_slice (de_var 4).toB do_none (do_some de_int.toB)).toB) (da_cons (de_var 4) da_nil)))))).toE.toB (de_mod (de_toInt T.z_int (de_var 2).toB).toB de_int.toB).toB)))))))))⟩
/-! _law_wrong -/
theorem sc__law_wrong : FnScope ["_law_kind", "_law_draw", "_law_many", "_law_long"] ["_law_kind", "_law_draw"] (defScope s__law_wrong) := ⟨rfl, rfl, rfl, by decide +kernel, rfl, by decide +kernel, by decide +kernel⟩
def b__law_wrong : Reg → Out := (sq (setS 2 (bin2 (un1 (fun ρ => fzAt ρ 1) dInt) (fun _ => some (.int 11)) dDiv)) (sq (iteS (cmp2 (fun ρ => fzAt ρ 0) (fun _ => some (.str (lit "n"))) dEq) (retS (bin2 (lstV (consA (fun _ => some (.str (lit "00"))) (consA (fun _ => some (.str (lit "01"))) (consA (fun _ => some (.str (lit "-1"))) (consA (fun _ => some (.str (lit "+1"))) (consA (fun _ => some (.str (lit "1a"))) (consA (fun _ => some (.str (lit "123456"))) (consA (fun _ => some (.str (lit "a"))) (consA (fun _ => some (.str (lit "1.0"))) (consA (fun _ => some (.str (lit "1_0"))) (consA (fun _ => some (.str (lit "-"))) (consA (bin2 (fun _ => some (.str (lit "0"))) (un1 (fun ρ => fzAt ρ 2) dStr) dPlus) (fun _ => some []))))))))))))) (bin2 (un1 (fun ρ => fzAt ρ 1) dInt) (fun _ => some (.int 11)) dMod) dItem)) skip) (sq (iteS (cmp2 (fun ρ => fzAt ρ 0) (fun _ => some (.str (lit "t"))) dEq) (retS (bin2 (lstV (consA (fun _ => some (.str (lit "is"))) (consA (fun _ => some (.str (lit "In"))) (consA (fun _ => some (.str (lit "="))) (consA (fun _ => some (.str (lit "!="))) (consA (fun _ => some (.str (lit "nots"))) (consA (fun _ => some (.str (lit "i"))) (consA (fun _ => some (.str (lit "0"))) (consA (fun _ => some (.str (lit "-"))) (consA (fun _ => some (.str (lit "no"))) (consA (fun _ => some (.str (lit "not_in"))) (consA (fun _ => some (.str (lit "ins"))) (fun _ => some []))))))))))))) (bin2 (un1 (fun ρ => fzAt ρ 1) dInt) (fun _ => some (.int 11)) dMod) dItem)) skip) (sq (setS 3 (bin2 (fun _ => some (.str (lit "abcdefghijklmnopqrst"))) (slV (fun _ => some (.str (lit "uvwxyz"))) (fun _ => some none) (parV (bin2 (fun _ => some (.int 1)) (bin2 (fun ρ => fzAt ρ 2) (fun _ => some (.int 6)) dMod) dPlus)) dSlice) dPlus)) (sq (iteS (cmp2 (fun ρ => fzAt ρ 0) (fun _ => some (.str (lit "a"))) dEq) (retS (bin2 (lstV (consA (fun _ => some (.str (lit "-"))) (consA (fun _ => some (.str (lit "A"))) (consA (fun _ => some (.str (lit "a-b"))) (consA (fun ρ => fzAt ρ 3) (consA (fun _ => some (.str (lit "9"))) (consA (fun _ => some (.str (lit "_"))) (consA (fun _ => some (.str (lit "_a"))) (consA (fun _ => some (.str (lit "a.b"))) (consA (fun _ => some (.str (lit "0a"))) (consA (fun _ => some (.str (lit "a="))) (consA (fun _ => some (.str (lit "aB"))) (fun _ => some []))))))))))))) (bin2 (un1 (fun ρ => fzAt ρ 1) dInt) (fun _ => some (.int 11)) dMod) dItem)) skip) (retS (bin2 (lstV (consA (fun _ => some (.str (lit "--"))) (consA (fun _ => some (.str (lit "A"))) (consA (fun _ => some (.str (lit "a-"))) (consA (fun ρ => fzAt ρ 3) (consA (fun _ => some (.str (lit "a=b"))) (consA (fun _ => some (.str (lit "="))) (consA (fun _ => some (.str (lit "-a"))) (consA (fun _ => some (.str (lit "a.b"))) (consA (fun _ => some (.str (lit "+"))) (consA (fun _ => some (.str (lit "a,b"))) (consA (fun _ => some (.str (lit "9B"))) (fun _ => some []))))))))))))) (bin2 (un1 (fun ρ => fzAt ρ 1) dInt) (fun _ => some (.int 11)) dMod) dItem)))))))
def m__law_wrong : List D → Option D := fun ds => fin (b__law_wrong (startR 4 ds))
theorem ok__law_wrong (T : Txt K mg w) : NameOk P w K mg base 1 "_law_wrong" 2 m__law_wrong :=
  name_data T.f__law_wrong sc__law_wrong (fun _ _ _ h => h) fun f cdv A outer s H E hr => ⟨_, (dss_cons (ds_set 2 sc__law_wrong.nd (de_div (de_toInt T.z_int (de_var 1).toB).toB de_int.toB)) (dss_cons (ds_if (dt_eq (de_var 0).toB de_str.toB) (dss_one (ds_ret (de_item hr (dn_lst (da_cons de_str (da_cons de_str (da_cons de_str (da_cons de_str (da_cons de_str (da_cons de_str (da_cons de_str (da_cons de_str (da_cons de_str (da_cons de_str (da_cons (de_plus de_str.toB (de_toStr T.z_str (de_var 2).toB).toB) da_nil)))))))))))).toE.toB (de_mod (de_toInt T.z_int (de_var 1).toB).toB de_int.toB).toB))) dss_nil) (dss_cons (ds_if (dt_eq (de_var 0).toB de_str.toB) (dss_one (ds_ret (de_item hr (dn_lst (da_cons de_str (da_cons de_str (da_cons de_str (da_cons de_str (da_cons de_str (da_cons de_str (da_cons de_str (da_cons de_str (da_cons de_str (da_cons de_str (da_cons de_str da_nil)))))))))))).toE.toB (de_mod (de_toInt T.z_int (de_var 1).toB).toB de_int.toB).toB))) dss_nil) (dss_cons (ds_set 3 sc__law_wrong.nd (de_plus de_str.toB (de_slice de_str.toB do_none (do_some (de_plus de_int.toB (de_mod (de_var 2).toB de_int.toB).toB).toB)).toB)) (dss_cons (ds_if (dt_eq (de_var 0).toB de_str.toB) (dss_one (ds_ret (de_item hr (dn_lst (da_cons de_str (da_cons de_str (da_cons de_str (da_cons (de_var 3) (da_cons de_str (da_cons de_str (da_cons de_str (da_cons de_str (da_cons de_str (da_cons de_str (da_cons de_str da_nil)))))))))))).toE.toB (de_mod (de_toInt T.z_int (de_var 1).toB).toB de_int.toB).toB))) dss_nil) (dss_one (ds_ret (de_item hr (dn_lst (da_cons de_str (da_cons de_str (da_cons de_str (da_cons (de_var 3) (da_cons de_str (da_cons de_str (da_cons de_str (da_cons de_str (da_cons de_str (da_cons de_str (da_cons de_str da_nil)))))))))))).toE.toB (de_mod (de_toInt T.z_int (de_var 1).toB).toB de_int.toB).toB))))))))⟩
/-! _law_first -/
theorem sc__law_first : FnScope ["_law_draws_here", "_law_known", "_law_strange"] ["_law_draws_here"] (defScope s__law_first) := ⟨rfl, rfl, rfl, by decide +kernel, rfl, by decide +kernel, by decide +kernel⟩
def b__law_first : Reg → Out := (sq (setS 1 (lstV (consA (fun _ => some (.str (lit "week"))) (consA (fun _ => some (.str (lit "lookback"))) (consA (fun _ => some (.str (lit "store"))) (consA (fun _ => some (.str (lit "pager"))) (consA (fun _ => some (.str (lit "person"))) (consA (fun _ => some (.str (lit "schedule"))) (consA (fun _ => some (.str (lit "policy"))) (consA (fun _ => some (.str (lit "window"))) (consA (fun _ => some (.str (lit "holdback"))) (consA (fun _ => some (.str (lit "rules"))) (fun _ => some []))))))))))))) (sq (setS 1 (bin2 (fun ρ => fzAt ρ 1) (lstV (consA (fun _ => some (.str (lit "route"))) (consA (fun _ => some (.str (lit "layer"))) (consA (fun _ => some (.str (lit "span"))) (consA (fun _ => some (.str (lit "standin"))) (consA (fun _ => some (.str (lit "ring"))) (consA (fun _ => some (.str (lit "match"))) (consA (fun _ => some (.str (lit "group"))) (consA (fun _ => some (.str (lit "wait"))) (consA (fun _ => some (.str (lit "interval"))) (consA (fun _ => some (.str (lit "again"))) (fun _ => some [])))))))))))) dPlus)) (sq (setS 1 (bin2 (fun ρ => fzAt ρ 1) (lstV (consA (fun _ => some (.str (lit "mute"))) (consA (fun _ => some (.str (lit "by"))) (consA (fun _ => some (.str (lit "source"))) (consA (fun _ => some (.str (lit "target"))) (consA (fun _ => some (.str (lit "equal"))) (consA (fun _ => some (.str (lit "record"))) (consA (fun _ => some (.str (lit "alert"))) (consA (fun _ => some (.str (lit "label"))) (consA (fun _ => some (.str (lit "expr"))) (consA (fun _ => some (.str (lit "route"))) (fun _ => some [])))))))))))) dPlus)) (sq (setS 2 (lstV (consA (fun _ => some (.str (lit "weeks"))) (consA (fun _ => some (.str (lit "Week"))) (consA (fun _ => some (.str (lit "rout"))) (consA (fun _ => some (.str (lit "routes"))) (consA (fun _ => some (.str (lit "_"))) (consA (fun _ => some (.str (lit "expression"))) (consA (fun _ => some (.str (lit "in"))) (consA (fun _ => some (.str (lit "not"))) (consA (fun _ => some (.str (lit "-"))) (consA (fun _ => some (.str (lit "labels"))) (consA (fun _ => some (.str (lit "x"))) (fun _ => some [])))))))))))))) (sq (iteS (cmp2 (bin2 (bin2 (fun ρ => fzAt ρ 0) (fun _ => some (.int 0)) dItem) (fun _ => some (.int 9)) dMod) (fun _ => some (.int 8)) dEq) (retS (bin2 (fun ρ => fzAt ρ 2) (bin2 (bin2 (fun ρ => fzAt ρ 0) (fun _ => some (.int 1)) dItem) (fun _ => some (.int 11)) dMod) dItem)) skip) (retS (bin2 (fun ρ => fzAt ρ 1) (bin2 (bin2 (fun ρ => fzAt ρ 0) (fun _ => some (.int 1)) dItem) (fun _ => some (.int 30)) dMod) dItem)))))))
def m__law_first : List D → Option D := fun ds => fin (b__law_first (startR 3 ds))
theorem ok__law_first (T : Txt K mg w) : NameOk P w K mg base 1 "_law_first" 1 m__law_first :=
  name_data T.f__law_first sc__law_first (fun _ _ _ h => h) fun f cdv A outer s H E hr => ⟨_, (dss_cons (ds_set 1 sc__law_first.nd (dn_lst (da_cons de_str (da_cons de_str (da_cons de_str (da_cons de_str (da_cons de_str (da_cons de_str (da_cons de_str (da_cons de_str (da_cons de_str (da_cons de_str da_nil))))))))))).toE) (dss_cons (ds_set 1 sc__law_first.nd (de_plus (de_var 1).toB (dn_lst (da_cons de_str (da_cons de_str (da_cons de_str (da_cons de_str (da_cons de_str (da_cons de_str (da_cons de_str (da_cons de_str (da_cons de_str (da_cons de_str da_nil))))))))))).toE.toB)) (dss_cons (ds_set 1 sc__law_first.nd (de_plus (de_var 1).toB (dn_lst (da_cons de_str (da_cons de_str (da_cons de_str (da_cons de_str (da_cons de_str (da_cons de_str (da_cons de_str (da_cons de_str (da_cons de_str (da_cons de_str da_nil))))))))))).toE.toB)) (dss_cons (ds_set 2 sc__law_first.nd (dn_lst (da_cons de_str (da_cons de_str (da_cons de_str (da_cons de_str (da_cons de_str (da_cons de_str (da_cons de_str (da_cons de_str (da_cons de_str (da_cons de_str (da_cons de_str da_nil)))))))))))).toE) (dss_cons (ds_if (dt_eq (de_mod (de_item hr (de_var 0).toB de_int.toB).toB de_int.toB).toB de_int.toB) (dss_one (ds_ret (de_item hr (de_var 2).toB (de_mod (de_item hr (de_var 0).toB de_int.toB).toB de_int.toB).toB))) dss_nil) (dss_one (ds_ret (de_item hr (de_var 1).toB (de_mod (de_item hr (de_var 0).toB de_int.toB).toB de_int.toB).toB))))))))⟩
/-! _law_list -/
theorem sc__law_list : FnScope ["_law_cell", "_law_draws_here", "_law_first_here", "_law_shape_here", "_law_words", "_law_place", "_law_k"] ["_law_cell"] (defScope s__law_list) := ⟨rfl, rfl, rfl, by decide +kernel, rfl, by decide +kernel, by decide +kernel⟩
def C1__law_list : Reg → Option D := (callV m__law_word (consA (bin2 (fun ρ => fzAt ρ 3) (fun ρ => fzAt ρ 6) dItem) (consA (bin2 (fun ρ => fzAt ρ 1) (bin2 (fun _ => some (.int 7)) (fun ρ => fzAt ρ 6) dPlus) dItem) (fun _ => some []))))
def b__law_list : Reg → Out := (sq (setS 1 (callV m__law_draws (consA (fun ρ => fzAt ρ 0) (consA (fun _ => some (.int 30)) (fun _ => some []))))) (sq (setS 2 (callV m__law_first (consA (fun ρ => fzAt ρ 1) (fun _ => some [])))) (sq (setS 3 (callV m__law_shape (consA (fun ρ => fzAt ρ 2) (fun _ => some [])))) (sq (iteS (cmp2 (fun ρ => fzAt ρ 3) (fun _ => some .non) dIsN) (setS 3 (fun _ => some (.str (lit "an")))) skip) (sq (iteS (andT (cmp2 (fun ρ => fzAt ρ 2) (fun _ => some (.str (lit "route"))) dEq) (cmp2 (bin2 (bin2 (fun ρ => fzAt ρ 1) (fun _ => some (.int 2)) dItem) (fun _ => some (.int 2)) dMod) (fun _ => some (.int 0)) dEq)) (setS 3 (fun _ => some (.str (lit "n")))) skip) (sq (iteS (cmp2 (fun ρ => fzAt ρ 2) (fun _ => some (.str (lit "expr"))) dEq) (setS 3 (slV (fun _ => some (.str (lit "avnt"))) (fun _ => some none) (parV (bin2 (bin2 (fun ρ => fzAt ρ 1) (fun _ => some (.int 2)) dItem) (fun _ => some (.int 5)) dMod)) dSlice)) (iteS (cmp2 (bin2 (bin2 (fun ρ => fzAt ρ 1) (fun _ => some (.int 3)) dItem) (fun _ => some (.int 5)) dMod) (fun _ => some (.int 1)) dEq) (setS 3 (bin2 (fun ρ => fzAt ρ 3) (bin2 (fun _ => some (.str (lit "anv"))) (bin2 (bin2 (fun ρ => fzAt ρ 1) (fun _ => some (.int 2)) dItem) (fun _ => some (.int 3)) dMod) dItem) dPlus)) (iteS (cmp2 (bin2 (bin2 (fun ρ => fzAt ρ 1) (fun _ => some (.int 3)) dItem) (fun _ => some (.int 5)) dMod) (fun _ => some (.int 2)) dEq) (setS 3 (slV (fun ρ => fzAt ρ 3) (fun _ => some none) (parV (un1 (fun _ => some (.int 1)) dNeg)) dSlice)) (setS 3 (bin2 (fun ρ => fzAt ρ 3) (bin2 (callV m__law_further (consA (fun ρ => fzAt ρ 2) (fun _ => some []))) (bin2 (bin2 (fun ρ => fzAt ρ 1) (fun _ => some (.int 2)) dItem) (fun _ => some (.int 7)) dMod) dMulS) dPlus))))) (sq (setN 4 (bin2 (lstV (consA (fun ρ => fzAt ρ 2) (fun _ => some []))) (lcV (rng1 (consA (un1 (fun ρ => fzAt ρ 3) dLen) (fun _ => some []))) (gN 6) (fun _ => some true) C1__law_list [6]) dCat)) (sq (iteS (andT (cmp2 (bin2 (bin2 (fun ρ => fzAt ρ 1) (fun _ => some (.int 4)) dItem) (fun _ => some (.int 2)) dMod) (fun _ => some (.int 0)) dEq) (cmp2 (un1 (fun ρ => fzAt ρ 3) dLen) (fun _ => some (.int 0)) dGt)) (sq (setS 5 (bin2 (bin2 (fun ρ => fzAt ρ 1) (fun _ => some (.int 5)) dItem) (un1 (fun ρ => fzAt ρ 3) dLen) dMod)) (setItS 4 (callV m__law_wrong (consA (bin2 (fun ρ => fzAt ρ 3) (fun ρ => fzAt ρ 5) dItem) (consA (bin2 (fun ρ => fzAt ρ 1) (fun _ => some (.int 6)) dItem) (fun _ => some [])))) (bin2 (fun ρ => fzAt ρ 5) (fun _ => some (.int 1)) dPlus))) skip) (frzS 4 (retS (fun ρ => fzAt ρ 4)))))))))))
def m__law_list : List D → Option D := fun ds => fin (b__law_list (startR 7 ds))
theorem ok__law_list (T : Txt K mg w) : NameOk P w K mg base 2 "_law_list" 1 m__law_list :=
  name_data T.f__law_list sc__law_list (fun _ _ _ h => h) fun f cdv A outer s H E hr => ⟨_, (dss_cons (ds_set 1 sc__law_list.nd (de_callN (ok__law_draws T) hr (da_cons (de_var 0) (da_cons de_int da_nil)))) (dss_cons (ds_set 2 sc__law_list.nd (de_callN (ok__law_first T) hr (da_cons (de_var 1) da_nil))) (dss_cons (ds_set 3 sc__law_list.nd (de_callN (ok__law_shape T) hr (da_cons (de_var 2) da_nil))) (dss_cons (ds_if (dt_isN (de_var 3).toB de_non.toB) (dss_one (ds_set 3 sc__law_list.nd de_str)) dss_nil) (dss_cons (ds_if (dw_and (dt_eq (de_var 2).toB de_str.toB) (dw_and1 (dt_eq (de_mod (de_item hr (de_var 1).toB de_int.toB).toB de_int.toB).toB de_int.toB))).toT (dss_one (ds_set 3 sc__law_list.nd de_str)) dss_nil) (dss_cons (ds_if (dt_eq (de_var 2).toB de_str.toB) (dss_one (ds_set 3 sc__law_list.nd (de_slice de_str.toB do_none (do_some (de_mod (de_item hr (de_var 1).toB de_int.toB).toB de_int.toB).toB)))) (dss_one (ds_if (dt_eq (de_mod (de_item hr (de_var 1).toB de_int.toB).toB de_int.toB).toB de_int.toB) (dss_one (ds_set 3 sc__law_list.nd (de_plus (de_var 3).toB (de_item hr de_str.toB (de_mod (de_item hr (de_var 1).toB de_int.toB).toB de_int.toB).toB).toB))) (dss_one (ds_if (dt_eq (de_mod (de_item hr (de_var 1).toB de_int.toB).toB de_int.toB).toB de_int.toB) (dss_one (ds_set 3 sc__law_list.nd (de_slice (de_var 3).toB do_none (do_some (de_neg de_int.toB).toB)))) (dss_one (ds_set 3 sc__law_list.nd (de_plus (de_var 3).toB (de_mulS (de_callN (ok__law_further T) hr (da_cons (de_var 2) da_nil)).toB (de_mod (de_item hr (de_var 1).toB de_int.toB).toB de_int.toB).toB).toB)))))))) (dss_cons (ds_setN 4 sc__law_list.nd (dn_cat (dn_lst (da_cons (de_var 2) da_nil)).toE.toB (dn_lc [("_law_k", 6)] rfl sc__law_list.nd (di_range1 T.z_range (da_cons (de_len T.z_len (de_var 3).toB) da_nil)) (fun _ _ _ _ _ => ⟨_, (dg_name 6 sc__law_list.nd)⟩) (fun _ _ _ _ _ => ⟨_, dts_nil⟩) (fun _ _ _ _ _ => ⟨_, (de_callN (ok__law_word T) hr (da_cons (de_item hr (de_var 3).toB (de_var 6).toB) (da_cons (de_item hr (de_var 1).toB (de_plus de_int.toB (de_var 6).toB).toB) da_nil)))⟩) (ok := blkOk_by (N := ["_law_cell", "_law_draws_here", "_law_first_here", "_law_shape_here", "_law_words", "_law_place", "_law_k"]) (sc := defScope s__law_list) (by decide +kernel))).toE.toB)) (dss_cons (ds_if (dw_and (dt_eq (de_mod (de_item hr (de_var 1).toB de_int.toB).toB de_int.toB).toB de_int.toB) (dw_and1 (dt_gt (de_len T.z_len (de_var 3).toB).toB de_int.toB))).toT (dss_cons (ds_set 5 sc__law_list.nd (de_mod (de_item hr (de_var 1).toB de_int.toB).toB (de_len T.z_len (de_var 3).toB).toB)) (dss_one (ds_setItem 4 (de_callN (ok__law_wrong T) hr (da_cons (de_item hr (de_var 3).toB (de_var 5).toB) (da_cons (de_item hr (de_var 1).toB de_int.toB) da_nil))) (de_plus (de_var 5).toB de_int.toB).toB))) dss_nil) (dss_one (ds_frz 4 (ds_ret (de_var 4))))))))))))⟩
/-! law -/
theorem sc_law : FnScope ["_law_script", "_law_cell", "_law_words", "_law_due", "_law_handed", "_law_told"] ["_law_script"] (defScope s_law) := ⟨rfl, rfl, rfl, by decide +kernel, rfl, by decide +kernel, by decide +kernel⟩
def L1_law : Reg → Out := (sq (setS 2 (callV m__law_list (consA (fun ρ => fzAt ρ 1) (fun _ => some [])))) (sq (setS 3 (callV m__law_checked (consA (fun ρ => fzAt ρ 2) (fun _ => some [])))) (sq (setS 4 (un1 (fun ρ => fzAt ρ 2) dList)) (sq (setS 5 (callV m_check_words (consA (fun ρ => fzAt ρ 4) (fun _ => some [])))) (sq (iteS (orT (cmp2 (fun ρ => fzAt ρ 4) (fun ρ => fzAt ρ 2) dNeP) (cmp2 (bV (cmp2 (fun ρ => fzAt ρ 5) (fun _ => some .non) dIsN)) (bV (cmp2 (fun ρ => fzAt ρ 3) (fun _ => some .non) dIsN)) dNe)) (retS (fun _ => some (.bl false))) skip) (iteS (andT (cmp2 (fun ρ => fzAt ρ 3) (fun _ => some .non) dNotN) (orT (notT (truT (un1 (fun ρ => fzAt ρ 5) (dIsI "str")))) (cmp2 (fun ρ => fzAt ρ 5) (fun ρ => fzAt ρ 3) dNe))) (retS (fun _ => some (.bl false))) skip))))))
def b_law : Reg → Out := (sq (forS (itV (slV (fun ρ => fzAt ρ 0) (fun _ => some none) (parV (fun _ => some (.int 40))) dSlice)) (gN 1) L1_law) (retS (andV (bV (cmp2 (callV m_check_words (consA (lstV (consA (fun _ => some (.str (lit "expr"))) (fun _ => some []))) (fun _ => some []))) (fun _ => some (.str (lit "fields"))) dEq)) (bV (cmp2 (callV m_check_words (consA (lstV (consA (fun _ => some (.str (lit "route"))) (fun _ => some []))) (fun _ => some []))) (fun _ => some .non) dIsN)))))
def m_law : List D → Option D := fun ds => fin (b_law (startR 6 ds))
theorem fn_law (T : Txt K mg w) {f : Addr} {fd : FuncData} (F : Fun K "law" "law" s_law f fd) : FnOk P w K mg base CX0 5 f fd ["_law_script"] (spD ⟨K, mg⟩ 1 m_law) :=
  fn_data F sc_law (fun _ _ _ h => h) fun cdv A outer s H E hr => ⟨_, (dss_cons (ds_for PassesOwn.never rfl (di_any (de_slice (de_var 0).toB do_none (do_some de_int.toB))) (dg_name 1 sc_law.nd) (dss_cons (ds_set 2 sc_law.nd (de_callN (ok__law_list T) hr (da_cons (de_var 1) da_nil))) (dss_cons (ds_set 3 sc_law.nd (de_callN (ok__law_checked T) hr (da_cons (de_var 2) da_nil))) (dss_cons (ds_set 4 sc_law.nd (dn_list T.z_list (de_var 2).toB).toE) (dss_cons (ds_set 5 sc_law.nd (de_callN (ok_check_words T) hr (da_cons (de_var 4) da_nil))) (dss_cons (ds_if (dw_or (dt_neP hr (de_var 4).toB (de_var 2).toB) (dw_or1 (dt_ne (de_isN (de_var 5).toB de_non.toB).toB (de_isN (de_var 3).toB de_non.toB).toB))).toT (dss_one (ds_ret de_bl)) dss_nil) (dss_one (ds_if (dw_and (dt_notN (de_var 3).toB de_non.toB) (dw_and1 (dw_or (dt_not (dt_tru (de_isi (T := "str") T.z_isinstance T.z_str (by decide +kernel) (de_var 5).toB).toB)) (dw_or1 (dt_ne (de_var 5).toB (de_var 3).toB))).toT)).toT (dss_one (ds_ret de_bl)) dss_nil)))))))) (dss_one (ds_ret (de_and (de_eq (de_callN (ok_check_words T) hr (da_cons (dn_lst (da_cons de_str da_nil)).toE da_nil)).toB de_str.toB) (de_one (de_isN (de_callN (ok_check_words T) hr (da_cons (dn_lst (da_cons de_str da_nil)).toE da_nil)).toB de_non.toB))))))⟩
end
end G76

namespace G76
open PySem PySem.Spec PyProof.Rows L2 DL
/-! ### draws -/
def Small (ds : List Int) : Prop := ∀ d ∈ ds, 0 ≤ d ∧ d < 1000
theorem small_nil : Small [] := fun _ h => nomatch h
theorem small_snoc {ds : List Int} {d : Int} (h : Small ds) (h0 : 0 ≤ d) (h1 : d < 1000) : Small (ds ++ [d]) := fun x hx => by
  rcases List.mem_append.mp hx with z | z
  · exact h x z
  · rw [List.mem_singleton.mp z]; exact ⟨h0, h1⟩
theorem map_snoc {ds : List Int} {x : Int} : ds.map D.int ++ [D.int x] = (ds ++ [x]).map D.int := by rw [List.map_append]; rfl
theorem draws_ex (c : Int) (n : Nat) (hn : n ≤ 1000) : Ev (m__law_draws [.int c, .int n]) fun d => ∃ ds : List Int, d = .lst (ds.map D.int) ∧ ds.length = n ∧ Small ds := by
  have hz := line_big
  have hb1 : -4611686018427387904 ≤ (n : Int) := by omega
  have hb2 : (n : Int) < 4611686018427387904 := by omega
  refine run (fun _ => rfl) ?_
  have second : ∀ (ds : List Int) (r : Int) (s : Sl) (st : Int) (N : Reg → Prop) (R : D → Prop) (Bk Ct : Reg → Prop), ds.length ≤ n → Small ds →
      (∀ (ds : List Int) (s : Sl) (st : Int), ds.length = n → Small ds → N [.fz (.int c), .fz (.int n), .ow (.lst (ds.map D.int)), .fz (.int r), s, .fz (.int st)]) →
      Ok (loopD (gN 4) L2__law_draws (rngL 0 n) [.fz (.int c), .fz (.int n), .ow (.lst (ds.map D.int)), .fz (.int r), s, .fz (.int st)]) N R Bk Ct := by
    intro ds r s st N R Bk Ct hl hs hN
    refine ok_range (fun j ρ => ∃ (ds : List Int) (s : Sl) (st : Int), ρ = [.fz (.int c), .fz (.int n), .ow (.lst (ds.map D.int)), .fz (.int r), s, .fz (.int st)] ∧ ds.length ≤ n ∧ j ≤ ds.length ∧ Small ds) ⟨ds, s, st, rfl, hl, Nat.zero_le _, hs⟩ ?_ ?_
    · rintro j ρ hj ⟨ds, s, st, rfl, h1, h2, h3⟩
      refine ⟨_, rfl, ?_⟩
      simp [L2__law_draws]
      refine ⟨fun h => ⟨by omega, ds ++ [_], map_snoc, ?_, ?_, small_snoc h3 (Int.emod_nonneg _ (by omega)) (Int.emod_lt_of_pos _ (by omega))⟩, fun h => ⟨ds, rfl, h1, by omega, h3⟩⟩ <;> simp <;> omega
    · rintro ρ ⟨ds, s, st, rfl, h1, h2, h3⟩
      exact hN ds s st (by omega) h3
  simp [b__law_draws, hb2]
  refine ⟨fun hc => ?_, fun hc => ?_⟩
  · refine ok_range (fun j ρ => ∃ (ds : List Int) (s : Sl) (r : Int), ρ = [.fz (.int c), .fz (.int n), .ow (.lst (ds.map D.int)), .fz (.int r), s, .no] ∧ ds.length ≤ j ∧ Small ds) ⟨[], .no, c, rfl, Nat.le_refl _, small_nil⟩ ?_ ?_
    · rintro j ρ hj ⟨ds, s, r, rfl, h1, h3⟩
      refine ⟨_, rfl, ?_⟩
      simp [L1__law_draws]
      refine ⟨fun h => ⟨by omega, ds ++ [_], map_snoc, ?_, small_snoc h3 (Int.emod_nonneg _ (by omega)) (Int.emod_lt_of_pos _ (by omega))⟩, fun h => ⟨ds, rfl, by omega, h3⟩⟩
      simp; omega
    · rintro ρ ⟨ds, s, r, rfl, h1, h3⟩
      simp [hb2]
      exact second ds r s _ _ _ _ _ h1 h3 fun ds s st h1 h2 => by simp; exact ⟨ds, rfl, h1, h2⟩
  · exact second [] c .no _ _ _ _ _ (Nat.zero_le _) small_nil fun ds s st h1 h2 => by simp; exact ⟨ds, rfl, h1, h2⟩
theorem draws_ex2 (c : Int) (n : Nat) (hn : n ≤ 1000) : ∃ ds : List Int, m__law_draws [.int c, .int n] = some (.lst (ds.map D.int)) ∧ ds.length = n ∧ Small ds := by
  obtain ⟨_, h, ds, rfl, h1, h2⟩ := draws_ex c n hn
  exact ⟨ds, h, h1, h2⟩
/-- the draws of a cell -/
noncomputable def drawsOf (c : Int) (n : Nat) : List Int := if h : n ≤ 1000 then (draws_ex2 c n h).choose else []
theorem draws_spec (c : Int) (n : Nat) (hn : n ≤ 1000) : m__law_draws [.int c, .int n] = some (.lst ((drawsOf c n).map D.int)) ∧ (drawsOf c n).length = n ∧ Small (drawsOf c n) := by
  have e : drawsOf c n = (draws_ex2 c n hn).choose := by unfold drawsOf; rw [dif_pos hn]
  rw [e]
  exact (draws_ex2 c n hn).choose_spec
end G76

namespace G76
open PySem PySem.Spec PyProof.Rows L2 DL
/-- a word: not empty, short, of plain signs -/
def Wd (w : List Nat) : Prop := w ≠ [] ∧ w.length ≤ 40 ∧ ∀ c ∈ w, c < 128
instance (w : List Nat) : Decidable (Wd w) := inferInstanceAs (Decidable (_ ∧ _ ∧ _))
theorem small_at {ds : List Int} (h : Small ds) {k : Int} (h0 : 0 ≤ k) (hk : k < ds.length) : ∃ d, atI (ds.map D.int) k = some (.int d) ∧ 0 ≤ d ∧ d < 1000 := by
  obtain ⟨d, e, m⟩ := atI_mem (xs := ds) h0 hk
  exact ⟨d, by rw [atI_map, e]; rfl, h d m⟩
theorem int_wd : ∀ k : Fin 200, Wd (intL (k.val : Int)) ∧ Wd (intL ((k.val : Int) * 97)) ∧ (intL (k.val : Int)).length ≤ 5 := by decide +kernel
theorem int_wd' {i : Int} (h0 : 0 ≤ i) (h1 : i < 200) : Wd (intL i) ∧ Wd (intL (i * 97)) ∧ (intL i).length ≤ 5 := by
  have := int_wd ⟨i.toNat, by omega⟩
  have e : ((i.toNat : Nat) : Int) = i := by omega
  simp only [e] at this
  exact this
/-- one of some words -/
theorem one_of {ls : List (List Nat)} {i : Int} {n : Nat} (hn : ls.length = n) (h : ∀ l ∈ ls, Wd l) (h0 : 0 ≤ i) (h1 : i < n) : ∃ l, atI (ls.map D.str) i = some (.str l) ∧ Wd l := by
  obtain ⟨a, e, m⟩ := atI_mem (xs := ls) h0 (by rw [hn]; exact h1)
  exact ⟨a, by rw [atI_map, e]; rfl, h a m⟩
theorem log_of {i : Int} (h : i.natAbs < 100000) : i.natAbs.log2 < 1920 := by
  by_cases h0 : i.natAbs = 0
  · rw [h0]; decide
  · exact Nat.lt_of_lt_of_le ((Nat.log2_lt h0).mpr (Nat.lt_of_lt_of_le h (by decide : 100000 ≤ 2 ^ 50))) (by decide)
theorem word_ok (k : List Nat) (d : Int) (h0 : 0 ≤ d) (h1 : d < 1000) : Ev (m__law_word [.str k, .int d]) fun x => ∃ w, x = .str w ∧ Wd w := by
  have hz := line_big
  have hm0 : 0 ≤ d / 5 := by omega
  have hm1 : d / 5 < 200 := by omega
  obtain ⟨i1, i2, i3⟩ := int_wd' hm0 hm1
  have e26 : (lit "abcdefghijklmnopqrstuvwxyz").length = 26 ∧ ∀ c ∈ lit "abcdefghijklmnopqrstuvwxyz", c < 128 := by decide +kernel
  obtain ⟨a, ea, ma⟩ := atI_mem (xs := lit "abcdefghijklmnopqrstuvwxyz") (i := d / 5 % 26) (Int.emod_nonneg _ (by decide)) (by rw [e26.1]; exact Int.emod_lt_of_pos _ (by decide))
  have ha := e26.2 a ma
  have e19 : (lit "_0123456789abcdefgh").length = 19 ∧ ∀ c ∈ lit "_0123456789abcdefgh", c < 128 := by decide +kernel
  refine run (fun _ => rfl) ?_
  simp [b__law_word, e26.1, ea, e19.1, log_of (i := d / 5) (by omega), log_of (i := d / 5 * 97) (by omega)]
  refine ⟨fun _ => ?_, fun _ => ⟨fun _ => ?_, fun _ => ⟨by omega, by omega, ?_⟩⟩⟩
  · obtain ⟨w, ew, hw⟩ := one_of (ls := [lit "0", lit "1", intL (d / 5), lit "99999", intL (d / 5 * 97)]) (i := d % 5) (n := 5) rfl (by
      intro l hl
      simp only [List.mem_cons, List.not_mem_nil, or_false] at hl
      rcases hl with rfl | rfl | rfl | rfl | rfl
      · decide +kernel
      · decide +kernel
      · exact i1
      · decide +kernel
      · exact i2) (Int.emod_nonneg _ (by decide)) (Int.emod_lt_of_pos _ (by decide))
    simp only [List.map_cons, List.map_nil] at ew
    rw [ew]
    simp
    exact hw
  · obtain ⟨w, ew, hw⟩ := one_of (ls := [lit "in", lit "not"]) (i := d % 2) (n := 2) rfl (by decide +kernel) (Int.emod_nonneg _ (by decide)) (Int.emod_lt_of_pos _ (by decide))
    simp only [List.map_cons, List.map_nil] at ew
    rw [ew]
    simp
    exact hw
  · have tl5 : ∀ l ∈ [[], lit "9", lit "_a", lit "0_z", cutG (lit "_0123456789abcdefgh") none (some (19 - d / 5 / 26))], l.length ≤ 19 ∧ ∀ c ∈ l, c < 128 := by
      intro l hl
      simp only [List.mem_cons, List.not_mem_nil, or_false] at hl
      rcases hl with rfl | rfl | rfl | rfl | rfl
      · decide +kernel
      · decide +kernel
      · decide +kernel
      · decide +kernel
      · exact ⟨Nat.le_trans cutG_len (by rw [e19.1]; decide), fun c hc => e19.2 c (cutG_mem hc)⟩
    obtain ⟨t, et, mt⟩ := atI_mem (xs := [[], lit "9", lit "_a", lit "0_z", cutG (lit "_0123456789abcdefgh") none (some (19 - d / 5 / 26))]) (i := d % 5) (Int.emod_nonneg _ (by decide)) (Int.emod_lt_of_pos _ (by decide))
    have ht := tl5 t mt
    have et2 : atI ([[], lit "9", lit "_a", lit "0_z", cutG (lit "_0123456789abcdefgh") none (some (19 - d / 5 / 26))].map D.str) (d % 5) = some (.str t) := by rw [atI_map, et]; rfl
    simp only [List.map_cons, List.map_nil] at et2
    rw [et2]
    have hw : Wd (a :: t) := ⟨by simp, by rw [List.length_cons]; omega, fun c hc => by
      rcases List.mem_cons.mp hc with rfl | hc
      · exact ha
      · exact ht.2 c hc⟩
    simp
    refine ⟨by omega, fun _ => hw, fun _ => ⟨fun _ => hw, fun _ => ⟨by omega, ?_⟩⟩⟩
    have c1 := cutG_len (xs := a :: t) (l := none) (u := some 19)
    rw [List.length_cons] at c1
    have l0 : (lit "0").length = 1 := by decide +kernel
    have hw2 : Wd (lit "0" ++ cutG (a :: t) none (some 19)) := ⟨by intro z; have := congrArg List.length z; rw [List.length_append, l0] at this; simp at this, by rw [List.length_append, l0]; omega, fun c hc => by
      rcases List.mem_append.mp hc with hc | hc
      · exact (by decide +kernel : ∀ c ∈ lit "0", c < 128) c hc
      · exact hw.2.2 c (cutG_mem hc)⟩
    refine ⟨by rw [l0]; omega, ?_⟩
    obtain ⟨w, ew, hww⟩ := one_of (ls := [lit "-", lit "7", lit "_", lit "0" ++ cutG (a :: t) none (some 19), a :: t]) (i := d / 5 % 5) (n := 5) rfl (by
      intro l hl
      simp only [List.mem_cons, List.not_mem_nil, or_false] at hl
      rcases hl with rfl | rfl | rfl | rfl | rfl
      · decide +kernel
      · decide +kernel
      · decide +kernel
      · exact hw2
      · exact hw) (Int.emod_nonneg _ (by decide)) (Int.emod_lt_of_pos _ (by decide))
    simp only [List.map_cons, List.map_nil] at ew
    rw [ew]
    simp
    exact hww
theorem wrong_ok (k : List Nat) (d : Int) (h0 : 0 ≤ d) (h1 : d < 1000) : Ev (m__law_wrong [.str k, .int d]) fun x => ∃ w, x = .str w ∧ Wd w := by
  have hz := line_big
  obtain ⟨i1, i2, i3⟩ := int_wd' (i := d / 11) (by omega) (by omega)
  have e6 : (lit "uvwxyz").length = 6 ∧ ∀ c ∈ lit "uvwxyz", c < 128 := by decide +kernel
  have l0 : (lit "0").length = 1 ∧ (lit "abcdefghijklmnopqrst").length = 20 := by decide +kernel
  have c1 := cutG_len (xs := lit "uvwxyz") (l := none) (u := some (1 + d / 11 % 6))
  rw [e6.1] at c1
  have hw0 : Wd (lit "0" ++ intL (d / 11)) := ⟨by intro z; have := congrArg List.length z; rw [List.length_append, l0.1] at this; simp at this, by rw [List.length_append, l0.1]; omega, fun c hc => by
      rcases List.mem_append.mp hc with hc | hc
      · exact (by decide +kernel : ∀ c ∈ lit "0", c < 128) c hc
      · exact i1.2.2 c hc⟩
  have hwl : Wd (lit "abcdefghijklmnopqrst" ++ cutG (lit "uvwxyz") none (some (1 + d / 11 % 6))) := ⟨by intro z; have := congrArg List.length z; rw [List.length_append, l0.2] at this; simp at this, by rw [List.length_append, l0.2]; omega, fun c hc => by
      rcases List.mem_append.mp hc with hc | hc
      · exact (by decide +kernel : ∀ c ∈ lit "abcdefghijklmnopqrst", c < 128) c hc
      · exact e6.2 c (cutG_mem hc)⟩
  refine run (fun _ => rfl) ?_
  simp [b__law_wrong, e6.1, log_of (i := d / 11) (by omega)]
  refine ⟨fun _ => ⟨by rw [l0.1]; omega, ?_⟩, fun _ => ⟨fun _ => ?_, fun _ => ⟨by omega, by rw [l0.2]; omega, fun _ => ?_, fun _ => ?_⟩⟩⟩
  · obtain ⟨w, ew, hw⟩ := one_of (ls := [lit "00", lit "01", lit "-1", lit "+1", lit "1a", lit "123456", lit "a", lit "1.0", lit "1_0", lit "-", lit "0" ++ intL (d / 11)]) (i := d % 11) (n := 11) rfl (by
      intro l hl
      simp only [List.mem_cons, List.not_mem_nil, or_false] at hl
      rcases hl with rfl | rfl | rfl | rfl | rfl | rfl | rfl | rfl | rfl | rfl | rfl
      all_goals first | assumption | decide +kernel) (Int.emod_nonneg _ (by decide)) (Int.emod_lt_of_pos _ (by decide))
    simp only [List.map_cons, List.map_nil] at ew
    rw [ew]
    simp
    exact hw
  · obtain ⟨w, ew, hw⟩ := one_of (ls := [lit "is", lit "In", lit "=", lit "!=", lit "nots", lit "i", lit "0", lit "-", lit "no", lit "not_in", lit "ins"]) (i := d % 11) (n := 11) rfl (by
      intro l hl
      simp only [List.mem_cons, List.not_mem_nil, or_false] at hl
      rcases hl with rfl | rfl | rfl | rfl | rfl | rfl | rfl | rfl | rfl | rfl | rfl
      all_goals first | assumption | decide +kernel) (Int.emod_nonneg _ (by decide)) (Int.emod_lt_of_pos _ (by decide))
    simp only [List.map_cons, List.map_nil] at ew
    rw [ew]
    simp
    exact hw
  · obtain ⟨w, ew, hw⟩ := one_of (ls := [lit "-", lit "A", lit "a-b", lit "abcdefghijklmnopqrst" ++ cutG (lit "uvwxyz") none (some (1 + d / 11 % 6)), lit "9", lit "_", lit "_a", lit "a.b", lit "0a", lit "a=", lit "aB"]) (i := d % 11) (n := 11) rfl (by
      intro l hl
      simp only [List.mem_cons, List.not_mem_nil, or_false] at hl
      rcases hl with rfl | rfl | rfl | rfl | rfl | rfl | rfl | rfl | rfl | rfl | rfl
      all_goals first | assumption | decide +kernel) (Int.emod_nonneg _ (by decide)) (Int.emod_lt_of_pos _ (by decide))
    simp only [List.map_cons, List.map_nil] at ew
    rw [ew]
    simp
    exact hw
  · obtain ⟨w, ew, hw⟩ := one_of (ls := [lit "--", lit "A", lit "a-", lit "abcdefghijklmnopqrst" ++ cutG (lit "uvwxyz") none (some (1 + d / 11 % 6)), lit "a=b", lit "=", lit "-a", lit "a.b", lit "+", lit "a,b", lit "9B"]) (i := d % 11) (n := 11) rfl (by
      intro l hl
      simp only [List.mem_cons, List.not_mem_nil, or_false] at hl
      rcases hl with rfl | rfl | rfl | rfl | rfl | rfl | rfl | rfl | rfl | rfl | rfl
      all_goals first | assumption | decide +kernel) (Int.emod_nonneg _ (by decide)) (Int.emod_lt_of_pos _ (by decide))
    simp only [List.map_cons, List.map_nil] at ew
    rw [ew]
    simp
    exact hw
/-! ### the first word -/
theorem first_ok (ds : List Int) (hs : Small ds) (hl : ds.length = 30) : Ev (m__law_first [.lst (ds.map D.int)]) fun x => ∃ w, x = .str w ∧ Wd w := by
  have hz := line_big
  obtain ⟨x0, b0, _, _⟩ := small_at hs (k := 0) (by decide) (by omega)
  obtain ⟨x1, b1, _, _⟩ := small_at hs (k := 1) (by decide) (by omega)
  refine run (fun _ => rfl) ?_
  simp [b__law_first, b0, b1]
  refine ⟨by omega, by omega, fun _ => ?_, fun _ => ?_⟩
  · obtain ⟨w, ew, hw⟩ := one_of (ls := [lit "weeks", lit "Week", lit "rout", lit "routes", lit "_", lit "expression", lit "in", lit "not", lit "-", lit "labels", lit "x"]) (i := x1 % 11) (n := 11) rfl (by decide +kernel) (Int.emod_nonneg _ (by decide)) (Int.emod_lt_of_pos _ (by decide))
    simp only [List.map_cons, List.map_nil] at ew
    rw [ew]
    simp
    exact hw
  · obtain ⟨w, ew, hw⟩ := one_of (ls := [lit "week", lit "lookback", lit "store", lit "pager", lit "person", lit "schedule", lit "policy", lit "window", lit "holdback", lit "rules", lit "route", lit "layer", lit "span", lit "standin", lit "ring", lit "match", lit "group", lit "wait", lit "interval", lit "again", lit "mute", lit "by", lit "source", lit "target", lit "equal", lit "record", lit "alert", lit "label", lit "expr", lit "route"]) (i := x1 % 30) (n := 30) rfl (by decide +kernel) (Int.emod_nonneg _ (by decide)) (Int.emod_lt_of_pos _ (by decide))
    simp only [List.map_cons, List.map_nil] at ew
    rw [ew]
    simp
    exact hw
end G76

namespace G76
open PySem PySem.Spec PyProof.Rows L2 DL
/-! ### shapes -/
def shapeTab : List (List Nat × List Nat) := [(lit "week", lit "n"), (lit "lookback", lit "n"), (lit "store", lit "nnnn"), (lit "pager", lit "nnn"), (lit "person", lit "an"), (lit "schedule", lit "a"), (lit "policy", lit "a"), (lit "window", lit "a"), (lit "holdback", lit ""), (lit "rules", lit "ann"), (lit "route", lit ""), (lit "layer", lit "nna"), (lit "span", lit "nn"), (lit "standin", lit "ann"), (lit "ring", lit "an"), (lit "match", lit "atv"), (lit "group", lit ""), (lit "wait", lit "n"), (lit "interval", lit "n"), (lit "again", lit "n"), (lit "mute", lit ""), (lit "by", lit "a"), (lit "source", lit "atv"), (lit "target", lit "atv"), (lit "equal", lit ""), (lit "record", lit "a"), (lit "alert", lit "ann"), (lit "label", lit "av"), (lit "expr", lit "")]
def kindL (c : Nat) : List Nat := if c = 110 then lit "number" else if c = 97 then lit "name" else if c = 116 then lit "test" else lit "value"
def lookS (w : List Nat) : List (List Nat × List Nat) → Option (List Nat)
  | [] => none
  | (m, s) :: tab => if m = w then some s else lookS w tab
theorem lookS_d (w : List Nat) : ∀ tab : List (List Nat × List Nat), lookD (.inr w) (tab.map fun p => ((.inr p.1 : DK), D.str p.2)) = (lookS w tab).map D.str
  | [] => rfl
  | (m, s) :: tab => by
    have ih := lookS_d w tab
    rw [List.map_cons]
    unfold lookD lookS
    by_cases e : m = w
    · simp [e]
    · have e2 : ¬ (Sum.inr m : DK) = .inr w := fun z => e (Sum.inr.inj z)
      simp [e, ih]
theorem lookS_l (w : List Nat) : ∀ tab : List (List Nat × List Nat), lookL w (tab.map fun p => (p.1, D.tup (p.2.map fun c => D.str (kindL c)))) = (lookS w tab).map fun s => D.tup (s.map fun c => D.str (kindL c))
  | [] => rfl
  | (m, s) :: tab => by
    have ih := lookS_l w tab
    rw [List.map_cons]
    unfold lookL lookS
    by_cases e : m = w
    · simp [e]
    · simp [e, ih]
theorem t1_eq : T1__law_shape = shapeTab.map fun p => ((.inr p.1 : DK), D.str p.2) := rfl
theorem tab_eq : TAB_SHAPES = shapeTab.map fun p => (p.1, D.tup (p.2.map fun c => D.str (kindL c))) := by
  unfold TAB_SHAPES shapeTab
  rfl
theorem look_mem {w s : List Nat} : ∀ {tab : List (List Nat × List Nat)}, lookS w tab = some s → (w, s) ∈ tab
  | [], h => by cases h
  | (m, u) :: tab, h => by
    unfold lookS at h
    by_cases e : m = w
    · rw [if_pos e] at h
      cases h
      rw [e]
      exact List.mem_cons_self
    · rw [if_neg e] at h
      exact List.mem_cons_of_mem _ (look_mem h)
theorem shape_len {w s : List Nat} (h : lookS w shapeTab = some s) : s.length ≤ 4 ∧ ∀ c ∈ s, c = 110 ∨ c = 97 ∨ c = 116 ∨ c = 118 := by
  have all : ∀ p ∈ shapeTab, p.2.length ≤ 4 ∧ ∀ c ∈ p.2, c = 110 ∨ c = 97 ∨ c = 116 ∨ c = 118 := by decide +kernel
  exact all _ (look_mem h)
def shapeD (w : List Nat) : D := match lookS w shapeTab with
  | some s => .str s
  | none => .non
theorem shape_ok (w : List Nat) : m__law_shape [.str w] = some (shapeD w) := by
  refine run_eq (fun _ => rfl) ?_
  simp [b__law_shape, dGet1, dkD, t1_eq, lookS_d]
  unfold shapeD
  cases lookS w shapeTab <;> rfl
/-- the kind that may go on -/
def furL (w : List Nat) : List Nat := if w = lit "match" ∨ w = lit "source" ∨ w = lit "target" then lit "v" else if w = lit "layer" ∨ w = lit "group" ∨ w = lit "mute" ∨ w = lit "equal" then lit "a" else []
theorem further_ok (w : List Nat) : m__law_further [.str w] = some (.str (furL w)) := by
  refine run_eq (fun _ => rfl) ?_
  simp [b__law_further, furL]
  by_cases h1 : w = lit "match" <;> by_cases h2 : w = lit "source" <;> by_cases h3 : w = lit "target" <;> simp [h1, h2, h3]
  by_cases h4 : w = lit "layer" <;> by_cases h5 : w = lit "group" <;> by_cases h6 : w = lit "mute" <;> by_cases h7 : w = lit "equal" <;> simp [h4, h5, h6, h7]
theorem fur_len (w : List Nat) : (furL w).length ≤ 1 := by
  have l1 : (lit "v").length = 1 ∧ (lit "a").length = 1 := by decide +kernel
  unfold furL
  split
  · omega
  · split
    · omega
    · simp
theorem cut {A B : Reg → Out} {ρ : Reg} {N : Reg → Prop} {R : D → Prop} {Bk Ct : Reg → Prop} (M : Reg → Prop) (h1 : Ok (A ρ) M R Bk Ct) (h2 : ∀ ρ, M ρ → Ok (B ρ) N R Bk Ct) : Ok (sq A B ρ) N R Bk Ct :=
  ok_sq.mpr (h1.imp h2 (fun _ z => z) (fun _ z => z) (fun _ z => z))
theorem ixN_in {n : Nat} {i : Int} (h0 : 0 ≤ i) (h1 : i < n) : ixN n i = some i.toNat := by
  unfold ixN
  rw [if_pos h0, if_pos h1]
theorem repL_len (l : List Nat) (k : Nat) : (repL l k).length = k * l.length := by
  unfold repL
  induction k with
  | zero => simp
  | succ k ih => rw [List.replicate_succ, List.flatten_cons, List.length_append, ih, Nat.add_mul]; omega
theorem mulS_eq {l : List Nat} {n : Int} (h1 : n ≤ 1000) (h2 : -1000 ≤ n) (h3 : l.length ≤ 1000) : dMulS (.str l) (.int n) = some (.str (repL l n.toNat)) := if_pos ⟨h1, h2, h3⟩
/-! ### the words of a cell -/
theorem list_ok (c : Int) : Ev (m__law_list [.int c]) fun d => ∃ w ws, d = strsD (w :: ws) ∧ ws.length ≤ 20 ∧ ∀ x ∈ w :: ws, Wd x := by
  have hz := line_big
  obtain ⟨e1, hl, hs⟩ := draws_spec c 30 (by decide)
  have e1 : m__law_draws [.int c, .int 30] = some (.lst ((drawsOf c 30).map D.int)) := e1
  generalize drawsOf c 30 = ds at e1 hl hs
  have at_ : ∀ k : Int, 0 ≤ k → k < 30 → ∃ d, atI (ds.map D.int) k = some (.int d) ∧ 0 ≤ d ∧ d < 1000 := fun k h0 h1 => small_at hs h0 (by omega)
  obtain ⟨x2, b2, p2, q2⟩ := at_ 2 (by decide) (by decide)
  obtain ⟨x3, b3, p3, q3⟩ := at_ 3 (by decide) (by decide)
  obtain ⟨x4, b4, p4, q4⟩ := at_ 4 (by decide) (by decide)
  obtain ⟨x5, b5, p5, q5⟩ := at_ 5 (by decide) (by decide)
  obtain ⟨x6, b6, p6, q6⟩ := at_ 6 (by decide) (by decide)
  obtain ⟨_, e2, w, rfl, hw⟩ := first_ok ds hs hl
  have l1 : (lit "an").length = 2 ∧ (lit "n").length = 1 ∧ (lit "avnt").length = 4 ∧ (lit "anv").length = 3 := by decide +kernel
  refine run (fun _ => rfl) ?_
  show Ok (b__law_list [.fz (.int c), .no, .no, .no, .no, .no, .no]) _ _ _ _
  unfold b__law_list
  refine cut (fun ρ => ρ = [.fz (.int c), .fz (.lst (ds.map D.int)), .no, .no, .no, .no, .no]) (by simp [e1]) ?_
  rintro _ rfl
  refine cut (fun ρ => ρ = [.fz (.int c), .fz (.lst (ds.map D.int)), .fz (.str w), .no, .no, .no, .no]) (by simp [e2]) ?_
  rintro _ rfl
  refine cut (fun ρ => ρ = [.fz (.int c), .fz (.lst (ds.map D.int)), .fz (.str w), .fz (shapeD w), .no, .no, .no]) (by simp [shape_ok]) ?_
  rintro _ rfl
  refine cut (fun ρ => ∃ s : List Nat, ρ = [.fz (.int c), .fz (.lst (ds.map D.int)), .fz (.str w), .fz (.str s), .no, .no, .no] ∧ s.length ≤ 4) ?_ ?_
  · unfold shapeD
    cases hq : lookS w shapeTab with
    | none => simp [l1]
    | some s =>
      have := (shape_len hq).1
      simp [this]
  rintro _ ⟨s, rfl, hsl⟩
  refine cut (fun ρ => ∃ s : List Nat, ρ = [.fz (.int c), .fz (.lst (ds.map D.int)), .fz (.str w), .fz (.str s), .no, .no, .no] ∧ s.length ≤ 4) ?_ ?_
  · simp [b2]
    refine ⟨fun _ => ⟨fun _ => by rw [l1.2.1]; decide, fun _ => hsl⟩, fun _ => hsl⟩
  rintro _ ⟨s, rfl, hsl⟩
  have rest : ∀ s : List Nat, s.length ≤ 12 → Ok ((sq (setN 4 (bin2 (lstV (consA (fun ρ => fzAt ρ 2) (fun _ => some []))) (lcV (rng1 (consA (un1 (fun ρ => fzAt ρ 3) dLen) (fun _ => some []))) (gN 6) (fun _ => some true) C1__law_list [6]) dCat)) (sq (iteS (andT (cmp2 (bin2 (bin2 (fun ρ => fzAt ρ 1) (fun _ => some (.int 4)) dItem) (fun _ => some (.int 2)) dMod) (fun _ => some (.int 0)) dEq) (cmp2 (un1 (fun ρ => fzAt ρ 3) dLen) (fun _ => some (.int 0)) dGt)) (sq (setS 5 (bin2 (bin2 (fun ρ => fzAt ρ 1) (fun _ => some (.int 5)) dItem) (un1 (fun ρ => fzAt ρ 3) dLen) dMod)) (setItS 4 (callV m__law_wrong (consA (bin2 (fun ρ => fzAt ρ 3) (fun ρ => fzAt ρ 5) dItem) (consA (bin2 (fun ρ => fzAt ρ 1) (fun _ => some (.int 6)) dItem) (fun _ => some [])))) (bin2 (fun ρ => fzAt ρ 5) (fun _ => some (.int 1)) dPlus))) skip) (frzS 4 (retS (fun ρ => fzAt ρ 4)))))
      [.fz (.int c), .fz (.lst (ds.map D.int)), .fz (.str w), .fz (.str s), .no, .no, .no]) (fun _ => ∃ w ws, D.non = strsD (w :: ws) ∧ ws.length ≤ 20 ∧ ∀ x ∈ w :: ws, Wd x) (fun d => ∃ w ws, d = strsD (w :: ws) ∧ ws.length ≤ 20 ∧ ∀ x ∈ w :: ws, Wd x) (fun _ => False) (fun _ => False) := by
    intro s hsl
    refine cut (fun ρ => ∃ ws : List (List Nat), ρ = [.fz (.int c), .fz (.lst (ds.map D.int)), .fz (.str w), .fz (.str s), .ow (.lst ((w :: ws).map D.str)), .no, .no] ∧ ws.length = s.length ∧ ∀ x ∈ ws, Wd x) ?_ ?_
    · simp
      refine ⟨by omega, by omega, by rw [rngL_len]; omega, (lcD_ex (fun k : Nat => D.int (0 + (k : Nat))) D.str (fun _ l => Wd l) (List.range s.length) fun k hk => ?_).imp fun ys ⟨zs, e, g2, g3⟩ => ?_⟩
      · have hk := List.mem_range.mp hk
        obtain ⟨y, by_, y0, y1⟩ := at_ (7 + (k : Int)) (by omega) (by omega)
        obtain ⟨a, ea, _⟩ := atI_mem (xs := s) (i := (k : Int)) (by omega) (by omega)
        simp [C1__law_list, by_, ea]
        exact ⟨by omega, word_ok [a] y y0 y1⟩
      · subst e
        rw [List.length_range] at g2
        refine ⟨by simp; omega, zs, rfl, g2, fun x hx => (g3 x hx).elim fun _ z => z.2⟩
    rintro _ ⟨ws, rfl, hwl, hww⟩
    refine cut (fun ρ => ∃ (ws : List (List Nat)) (s5 : Sl), ρ = [.fz (.int c), .fz (.lst (ds.map D.int)), .fz (.str w), .fz (.str s), .ow (.lst ((w :: ws).map D.str)), s5, .no] ∧ ws.length = s.length ∧ ∀ x ∈ ws, Wd x) ?_ ?_
    · simp [b4, b5, b6]
      refine ⟨fun _ => ⟨by omega, fun h0 => ⟨by omega, h0, by omega, ?_⟩, fun _ => ⟨ws, rfl, hwl, hww⟩⟩, fun _ => ⟨ws, rfl, hwl, hww⟩⟩
      have m0 := Int.emod_nonneg x5 (b := (s.length : Int)) (by omega)
      have m1 := Int.emod_lt_of_pos x5 (b := (s.length : Int)) (by omega)
      obtain ⟨a, ea, _⟩ := atI_mem (xs := s) (i := x5 % (s.length : Int)) m0 m1
      obtain ⟨_, e3, v, rfl, hv⟩ := wrong_ok [a] x6 p6 q6
      rw [ea]
      simp only [ev_some]
      rw [e3]
      simp only [ev_some]
      rw [ixN_in (by omega) (by omega)]
      simp only [ev_some]
      have ej : (x5 % (s.length : Int) + 1).toNat = (x5 % (s.length : Int)).toNat + 1 := by omega
      refine ⟨ws.set (x5 % (s.length : Int)).toNat v, ?_, by rw [List.length_set]; exact hwl, fun x hx => ?_⟩
      · rw [ej, List.set_cons_succ, List.map_set]
      · rcases List.mem_or_eq_of_mem_set hx with h | rfl
        · exact hww x h
        · exact hv
    · rintro _ ⟨ws, s5, rfl, hwl, hww⟩
      simp
      refine ⟨w, ws, rfl, by omega, hw, hww⟩
  refine cut (fun ρ => ∃ s : List Nat, ρ = [.fz (.int c), .fz (.lst (ds.map D.int)), .fz (.str w), .fz (.str s), .no, .no, .no] ∧ s.length ≤ 12) ?_ ?_
  · simp [b2, b3, further_ok]
    refine ⟨fun _ => ⟨by rw [l1.2.2.1]; omega, Nat.le_trans cutG_len (by rw [l1.2.2.1]; decide)⟩, fun _ => ⟨fun _ => ⟨by rw [l1.2.2.2]; omega, ?_⟩, fun _ => ⟨fun _ => ⟨by omega, Nat.le_trans cutG_len (by omega)⟩, fun _ => ?_⟩⟩⟩
    · obtain ⟨a, ea, _⟩ := atI_mem (xs := lit "anv") (i := x2 % 3) (Int.emod_nonneg _ (by decide)) (by rw [l1.2.2.2]; exact Int.emod_lt_of_pos _ (by decide))
      rw [ea]
      simp
      omega
    · have fl := fur_len w
      have rl : (repL (furL w) (x2 % 7).toNat).length ≤ 6 := by
        rw [repL_len]
        exact Nat.le_trans (Nat.mul_le_mul (show (x2 % 7).toNat ≤ 6 by omega) fl) (by decide)
      rw [mulS_eq (by omega) (by omega) (by omega)]
      simp
      omega
  rintro _ ⟨s, rfl, hsl⟩
  exact rest s hsl
end G76

namespace G76
open PySem PySem.Spec PyProof.Rows L2 DL
/-! ### signs -/
def hd (w : List Nat) : Nat := match w with
  | [] => 0
  | c :: _ => c
def isDg (c : Nat) : Bool := decide (c ∈ lit "0123456789")
def isSm (c : Nat) : Bool := decide (c ∈ lit "abcdefghijklmnopqrstuvwxyz")
def isWc (c : Nat) : Bool := decide (c ∈ lit "abcdefghijklmnopqrstuvwxyz0123456789_")
def valueB (w : List Nat) : Bool := decide (w.length ≤ 20) && w.all isWc
def nameB (w : List Nat) : Bool := valueB w && isSm (hd w)
def numB (w : List Nat) : Bool := (w.all isDg && decide (w.length ≤ 5)) && (decide (w = lit "0") || decide (hd w ≠ 48))
theorem lens : (lit "abcdefghijklmnopqrstuvwxyz0123456789_").length = 37 ∧ (lit "abcdefghijklmnopqrstuvwxyz").length = 26 ∧ (lit "0123456789").length = 10 ∧ (lit "0123456789_").length = 11 := by decide +kernel
theorem all_snoc {w : List Nat} {p : Nat → Bool} {j c : Nat} (hj : w[j]? = some c) (h : (w.take j).all p = true) (hc : p c = true) : ∀ x ∈ w.take (j + 1), p x = true := by
  intro x hx
  rw [List.take_add_one, hj] at hx
  rcases List.mem_append.mp hx with z | z
  · exact List.all_eq_true.mp h x z
  · have : x = c := by simpa using z
    rw [this]; exact hc
theorem consists_ok (w cs : List Nat) (hc0 : cs.length ≤ 1000) : m__law_consists [.str w, .str cs] = some (.bl (w.all fun c => decide (c ∈ cs))) := by
  have hz := line_big
  refine run_eq (fun _ => rfl) ?_
  simp [b__law_consists, -List.all_eq_true]
  refine ok_each (fun c => D.str [c]) w (fun j ρ => (∃ s : Sl, ρ = [.fz (.str w), .fz (.str cs), s]) ∧ (w.take j).all (fun c => decide (c ∈ cs)) = true) ⟨⟨.no, rfl⟩, rfl⟩ ?_ ?_
  · rintro j c ρ hj ⟨⟨s, rfl⟩, hall⟩
    refine ⟨_, rfl, ?_⟩
    simp [L1__law_consists, -List.all_eq_true]
    refine ⟨fun hc => ?_, fun hc => ?_⟩
    · exact ⟨c, List.mem_of_getElem? hj, hc⟩
    · exact List.all_eq_true.mpr (all_snoc hj hall (decide_eq_true hc))
  · rintro ρ ⟨⟨s, rfl⟩, hall⟩
    rw [List.take_length] at hall
    simp only [ev_some, hall]
theorem value_ok (w : List Nat) (h : Wd w) : m_is_value [.str w] = some (.bl (valueB w)) := by
  have hz := line_big
  obtain ⟨h0, h1, h2⟩ := h
  refine run_eq (fun _ => rfl) ?_
  simp [b_is_value, h0]
  refine ⟨by omega, fun h3 => ?_, fun h3 => ?_⟩
  · unfold valueB
    rw [decide_eq_false (by omega)]
    rfl
  · refine ok_each (fun c => D.str [c]) w (fun j ρ => (∃ s : Sl, ρ = [.fz (.str w), s]) ∧ (w.take j).all isWc = true) ⟨⟨.no, rfl⟩, rfl⟩ ?_ ?_
    · rintro j c ρ hj ⟨⟨s, rfl⟩, hall⟩
      refine ⟨_, rfl, ?_⟩
      simp [L1_is_value]
      refine ⟨fun hc => ?_, fun hc => ?_⟩
      · unfold valueB
        have h3' : w.length ≤ 20 := by omega
        rw [decide_eq_true h3', Bool.true_and]
        have : w.all isWc = false := by
          rw [List.all_eq_false]
          exact ⟨c, List.mem_of_getElem? hj, by unfold isWc; simp [hc]⟩
        rw [this]
      · exact all_snoc hj hall (decide_eq_true hc)
    · rintro ρ ⟨⟨s, rfl⟩, hall⟩
      rw [List.take_length] at hall
      have h3' : w.length ≤ 20 := by omega
      simp [valueB, h3', hall]
theorem head_at {w : List Nat} (h : w ≠ []) : atI w 0 = some (hd w) := by
  cases w with
  | nil => exact absurd rfl h
  | cons c w => exact atI_0
theorem name_ok (w : List Nat) (h : Wd w) : m_is_name [.str w] = some (.bl (nameB w)) := by
  have hz := line_big
  refine run_eq (fun _ => rfl) ?_
  have h1 := h.2.1
  simp [b_is_name, value_ok w h, head_at h.1]
  unfold nameB isSm
  cases valueB w <;> simp
  omega
theorem dg_iff {c : Nat} (h : c < 128) : Unicode.isDigit c = isDg c := by
  have all : ∀ k : Fin 128, Unicode.isDigit k.val = isDg k.val := by decide +kernel
  exact all ⟨c, h⟩
theorem digit_ok (w : List Nat) (h : Wd w) : gDigit w = some (.bl (w.all isDg)) := by
  have e : Txt.isdigit ⟨w.toArray⟩ = w.all isDg := by
    unfold Txt.isdigit
    have e1 : (⟨w.toArray⟩ : Str).length = w.length := by show w.toArray.size = _; simp
    have e2 : 0 < w.length := List.length_pos_iff.mpr h.1
    rw [e1, decide_eq_true e2, Bool.true_and, List.all_toArray]
    rw [Bool.eq_iff_iff, List.all_eq_true, List.all_eq_true]
    exact ⟨fun z c hc => by rw [← dg_iff (h.2.2 c hc)]; exact z c hc, fun z c hc => by rw [dg_iff (h.2.2 c hc)]; exact z c hc⟩
  unfold gDigit
  rw [e]
theorem pre0 {w : List Nat} (h : w ≠ []) : TL.pre (lit "0") w = decide (hd w = 48) := by
  have e : lit "0" = [48] := by decide +kernel
  rw [e]
  cases w with
  | nil => exact absurd rfl h
  | cons c w =>
    have eh : hd (c :: w) = c := rfl
    rw [eh]
    by_cases hc : c = 48 <;> simp [TL.pre, hc]
theorem lit0 : lit "0" ≠ [] := by decide +kernel
theorem number_ok (w : List Nat) (h : Wd w) : m__is_number [.str w] = some (.bl (numB w)) := by
  have hz := line_big
  have h1 := h.2.1
  refine run_eq (fun _ => rfl) ?_
  simp [b__is_number, digit_ok w h, strG, -List.all_eq_true, -List.all_eq_false]
  unfold numB
  refine ⟨fun h2 => ?_, fun h2 => ⟨by omega, fun h3 => ?_, fun h3 => ⟨fun h4 => ?_, fun h4 => ?_⟩⟩⟩
  · rw [h2]; rfl
  · have h3' : ¬ w.length ≤ 5 := by omega
    simp [h3']
  · have h3' : w.length ≤ 5 := by omega
    rw [h2, decide_eq_true h4, decide_eq_true h3']; rfl
  · have h3' : w.length ≤ 5 := by omega
    simp [lit0, pre0 h.1, -List.all_eq_true, h2, h3', h4]
theorem one0 (c : Nat) : ([c] = lit "0") = (c = 48) := by
  have e : lit "0" = [48] := by decide +kernel
  rw [e]; simp
theorem right_n (w : List Nat) (h : Wd w) : m__law_right [.str (lit "n"), .str w] = some (.bl (numB w)) := by
  have hz := line_big
  have h1 := h.2.1
  have c1 := consists_ok w (lit "0123456789") (by rw [lens.2.2.1]; decide)
  refine run_eq (fun _ => rfl) ?_
  simp [b__law_right, c1, head_at h.1, -List.all_eq_true, -List.all_eq_false]
  have ed : (w.all fun c => decide (c ∈ lit "0123456789")) = w.all isDg := rfl
  have eo : (decide ([hd w] = lit "0")) = decide (hd w = 48) := by simp only [one0]
  rw [ed, eo]
  unfold numB
  refine ⟨fun h2 => ⟨by omega, fun h3 => ⟨fun h4 => ?_, fun h4 => ⟨by omega, ?_⟩⟩, fun h3 => ?_⟩, fun h2 => ?_⟩
  · have h3' : w.length ≤ 5 := by omega
    rw [h2, decide_eq_true h4, decide_eq_true h3']; rfl
  · have h3' : w.length ≤ 5 := by omega
    simp [-List.all_eq_true, h2, h3', h4]
  · have h3' : ¬ w.length ≤ 5 := by omega
    have h3'' : ¬ (w.length : Int) ≤ 5 := by omega
    simp [h3', h3'']
  · rw [h2]; rfl
theorem kinds_ne : lit "t" ≠ lit "n" ∧ lit "a" ≠ lit "n" ∧ lit "a" ≠ lit "t" ∧ lit "v" ≠ lit "n" ∧ lit "v" ≠ lit "t" ∧ lit "v" ≠ lit "a" := by decide +kernel
def testB (w : List Nat) : Bool := decide (w = lit "in") || decide (w = lit "not")
def anyB (w : List Nat) : Bool := decide (w = lit "-") || valueB w
theorem right_t (w : List Nat) (h : Wd w) : m__law_right [.str (lit "t"), .str w] = some (.bl (testB w)) := by
  have hz := line_big
  have ⟨k1, k2, k3, k4, k5, k6⟩ := kinds_ne
  refine run_eq (fun _ => rfl) ?_
  simp [b__law_right, k1]
  unfold testB
  by_cases h1 : w = lit "in" <;> by_cases h2 : w = lit "not" <;> simp [h1, h2]
theorem plain_eq (w : List Nat) : ((w.all fun c => decide (c ∈ lit "abcdefghijklmnopqrstuvwxyz" ++ lit "0123456789_")) && decide (w.length ≤ 20)) = valueB w := by
  have e : lit "abcdefghijklmnopqrstuvwxyz" ++ lit "0123456789_" = lit "abcdefghijklmnopqrstuvwxyz0123456789_" := by decide +kernel
  rw [e, Bool.and_comm]
  rfl
theorem right_a (w : List Nat) (h : Wd w) : m__law_right [.str (lit "a"), .str w] = some (.bl (nameB w)) := by
  have hz := line_big
  have h1 := h.2.1
  have ⟨k1, k2, k3, k4, k5, k6⟩ := kinds_ne
  have c1 := consists_ok w (lit "abcdefghijklmnopqrstuvwxyz" ++ lit "0123456789_") (by rw [List.length_append, lens.2.1, lens.2.2.2]; decide)
  have pe := plain_eq w
  generalize (w.all fun c => decide (c ∈ lit "abcdefghijklmnopqrstuvwxyz" ++ lit "0123456789_")) = bb at c1 pe
  refine run_eq (fun _ => rfl) ?_
  simp [b__law_right, c1, head_at h.1, k2, k3, lens]
  unfold nameB isSm
  rw [← pe]
  have e1 : ((w.length : Int) ≤ 20) = (w.length ≤ 20) := propext (by omega)
  have e2 : (20 < (w.length : Int)) = ¬ (w.length ≤ 20) := propext (by omega)
  have hz1 : w.length ≤ sizeLine := by omega
  have hz2 : 37 ≤ sizeLine := by omega
  simp only [e1, e2]
  cases bb <;> by_cases hl : w.length ≤ 20 <;> simp [hl, hz1, hz2]
theorem right_v (w : List Nat) (h : Wd w) : m__law_right [.str (lit "v"), .str w] = some (.bl (anyB w)) := by
  have hz := line_big
  have h1 := h.2.1
  have ⟨k1, k2, k3, k4, k5, k6⟩ := kinds_ne
  have c1 := consists_ok w (lit "abcdefghijklmnopqrstuvwxyz" ++ lit "0123456789_") (by rw [List.length_append, lens.2.1, lens.2.2.2]; decide)
  have pe := plain_eq w
  generalize (w.all fun c => decide (c ∈ lit "abcdefghijklmnopqrstuvwxyz" ++ lit "0123456789_")) = bb at c1 pe
  refine run_eq (fun _ => rfl) ?_
  simp [b__law_right, c1, head_at h.1, k4, k5, k6, lens]
  unfold anyB
  rw [← pe]
  have e1 : ((w.length : Int) ≤ 20) = (w.length ≤ 20) := propext (by omega)
  have e2 : (20 < (w.length : Int)) = ¬ (w.length ≤ 20) := propext (by omega)
  have hz1 : w.length ≤ sizeLine := by omega
  have hz2 : 37 ≤ sizeLine := by omega
  simp only [e1, e2]
  cases bb <;> by_cases hl : w.length ≤ 20 <;> simp [hl, hz1, hz2]
/-- a word of a kind -/
def rightB (k : Nat) (w : List Nat) : Bool := if k = 110 then numB w else if k = 97 then nameB w else if k = 116 then testB w else anyB w
def Kd (k : Nat) : Prop := k = 110 ∨ k = 97 ∨ k = 116 ∨ k = 118
theorem kind_lit : lit "n" = [110] ∧ lit "a" = [97] ∧ lit "t" = [116] ∧ lit "v" = [118] := by decide +kernel
theorem right_ok (k : Nat) (hk : Kd k) (w : List Nat) (h : Wd w) : m__law_right [.str [k], .str w] = some (.bl (rightB k w)) := by
  obtain ⟨e1, e2, e3, e4⟩ := kind_lit
  rcases hk with rfl | rfl | rfl | rfl
  · have := right_n w h; rw [e1] at this; exact this
  · have := right_a w h; rw [e2] at this; exact this
  · have := right_t w h; rw [e3] at this; exact this
  · have := right_v w h; rw [e4] at this; exact this
theorem names_ne : lit "name" ≠ lit "number" ∧ lit "test" ≠ lit "number" ∧ lit "test" ≠ lit "name" ∧ lit "value" ≠ lit "number" ∧ lit "value" ≠ lit "name" ∧ lit "value" ≠ lit "test" := by decide +kernel
theorem fits_ok (k : Nat) (hk : Kd k) (w : List Nat) (h : Wd w) : m__fits [.str (kindL k), .str w] = some (.bl (rightB k w)) := by
  have hz := line_big
  have ⟨k1, k2, k3, k4, k5, k6⟩ := names_ne
  refine run_eq (fun _ => rfl) ?_
  rcases hk with rfl | rfl | rfl | rfl
  · simp [b__fits, kindL, rightB, number_ok w h]
  · simp [b__fits, kindL, rightB, name_ok w h, k1]
  · have eb : ∀ a b : List Nat, (a == b) = decide (b = a) := fun a b => by
      rw [Bool.eq_iff_iff, beq_iff_eq, decide_eq_true_eq]
      exact eq_comm
    simp [b__fits, kindL, rightB, k2, k3, testB, eb]
  · simp [b__fits, kindL, rightB, k4, k5, k6, value_ok w h, anyB]
    exact ⟨fun h _ => h, fun h1 h2 => absurd h2 h1⟩
end G76

namespace G76
open PySem PySem.Spec PyProof.Rows L2 DL
/-! ### the kinds of a line -/
def furK (w : List Nat) : Option Nat := if w = lit "match" ∨ w = lit "source" ∨ w = lit "target" then some 118 else if w = lit "layer" ∨ w = lit "group" ∨ w = lit "mute" ∨ w = lit "equal" then some 97 else none
theorem furL_eq (w : List Nat) : furL w = (furK w).toList := by
  obtain ⟨e1, e2, e3, e4⟩ := kind_lit
  unfold furL furK
  rw [e4, e2]
  split
  · rfl
  · split <;> rfl
theorem fur_tab (w : List Nat) : lookL w TAB_FURTHER = (furK w).map fun k => D.str (kindL k) := by
  have e5 : kindL 118 = lit "value" ∧ kindL 97 = lit "name" := by decide +kernel
  unfold furK
  by_cases h1 : w = lit "match"
  · subst h1; rw [if_pos (.inl rfl)]; show _ = some (D.str (kindL 118)); rw [e5.1]; rfl
  by_cases h2 : w = lit "source"
  · subst h2; rw [if_pos (.inr (.inl rfl))]; show _ = some (D.str (kindL 118)); rw [e5.1]; rfl
  by_cases h3 : w = lit "target"
  · subst h3; rw [if_pos (.inr (.inr rfl))]; show _ = some (D.str (kindL 118)); rw [e5.1]; rfl
  rw [if_neg (by simp [h1, h2, h3])]
  by_cases h4 : w = lit "layer"
  · subst h4; rw [if_pos (.inl rfl)]; show _ = some (D.str (kindL 97)); rw [e5.2]; rfl
  by_cases h5 : w = lit "group"
  · subst h5; rw [if_pos (.inr (.inl rfl))]; show _ = some (D.str (kindL 97)); rw [e5.2]; rfl
  by_cases h6 : w = lit "mute"
  · subst h6; rw [if_pos (.inr (.inr (.inl rfl)))]; show _ = some (D.str (kindL 97)); rw [e5.2]; rfl
  by_cases h7 : w = lit "equal"
  · subst h7; rw [if_pos (.inr (.inr (.inr rfl)))]; show _ = some (D.str (kindL 97)); rw [e5.2]; rfl
  rw [if_neg (by simp [h4, h5, h6, h7])]
  simp [TAB_FURTHER, lookL, Ne.symm h1, Ne.symm h2, Ne.symm h3, Ne.symm h4, Ne.symm h5, Ne.symm h6, Ne.symm h7]
def ext (s : List Nat) (w : List Nat) (n : Nat) : List Nat := match furK w with
  | some k => s ++ List.replicate (n - s.length) k
  | none => s
def kstr (k : Nat) : D := .str (kindL k)
/-- the kinds, once the shape is known -/
def kindsD (s w : List Nat) (n : Nat) : D := if (ext s w n).length = n then .lst ((ext s w n).map kstr) else .non
def base (s w : List Nat) (n : Nat) : List Nat := if w = lit "route" ∧ n = 1 then [110] else s
theorem route_shape {s : List Nat} (h : lookS (lit "route") shapeTab = some s) : s = [] := by
  have e : lookS (lit "route") shapeTab = some [] := by decide +kernel
  rw [e] at h
  cases h; rfl
theorem kinds_ok (w s : List Nat) (n : Nat) (hn : n ≤ 1000) (hs : lookS w shapeTab = some s) : m__kinds [.str w, .int n] = some (kindsD (base s w n) w n) := by
  have hz := line_big
  have hsl := (shape_len hs).1
  have hg : wGet TAB_SHAPES (.str w) = some (.tup (s.map fun c => D.str (kindL c))) := by
    show lookL w TAB_SHAPES = _
    rw [tab_eq, lookS_l, hs]; rfl
  refine run_eq (fun _ => rfl) ?_
  show Ok (b__kinds [.fz (.str w), .fz (.int n), .no]) _ _ _ _
  unfold b__kinds
  refine cut (fun ρ => ρ = [.fz (.str w), .fz (.int n), .ow (.lst (s.map kstr))]) ?_ ?_
  · simp [hg]
    exact fun a _ => rfl
  rintro _ rfl
  refine cut (fun ρ => ρ = [.fz (.str w), .fz (.int n), .ow (.lst ((base s w n).map kstr))]) ?_ ?_
  · simp
    have hk : kindL 110 = lit "number" := by simp [kindL]
    unfold base
    refine ⟨fun hw => ⟨fun h1 => ⟨by omega, ?_⟩, fun h1 => by rw [if_neg (fun z => h1 (by omega))]⟩, fun hw => by rw [if_neg (fun z => hw z.1)]⟩
    subst hw
    rw [route_shape hs, if_pos ⟨rfl, by omega⟩]
    simp [kstr, hk]
  rintro _ rfl
  generalize base s w n = s0
  refine cut (fun ρ => ρ = [.fz (.str w), .fz (.int n), .ow (.lst ((ext s0 w n).map kstr))]) ?_ ?_
  · refine ok_while (fun ρ => ∃ t : List Nat, ρ = [.fz (.str w), .fz (.int n), .ow (.lst (t.map kstr))] ∧ ext t w n = ext s0 w n) (fun ρ => match ρ with
      | [_, _, .ow (.lst l)] => n - l.length
      | _ => 0) manyN _ ⟨s0, rfl, rfl⟩ ?_ ?_
    · show n - (s0.map kstr).length < manyN
      have : manyN = 1000000000 := rfl
      omega
    · rintro _ ⟨t, rfl, ht⟩
      have hf := fur_tab w
      have hw1 : wIn TAB_FURTHER (.str w) = some (furK w).isSome := by
        show some (lookL w TAB_FURTHER).isSome = _
        rw [hf, Option.isSome_map]
      cases hk : furK w with
      | none =>
        rw [hk] at hw1
        refine ⟨false, ?_, ?_⟩
        · show ((wIn TAB_FURTHER (.str w)).bind _) = _
          rw [hw1]; rfl
        · have e1 : ext t w n = t := by unfold ext; rw [hk]
          rw [← ht, e1]
          simp
      | some k =>
        rw [hk] at hw1 hf
        refine ⟨decide (t.length < n), ?_, ?_⟩
        · show ((wIn TAB_FURTHER (.str w)).bind _) = _
          rw [hw1]
          show some (decide (((t.map kstr).length : Int) < n)) = _
          rw [List.length_map]
          congr 1
          exact decide_eq_decide.mpr (by omega)
        · have ee : ∀ u, ext u w n = u ++ List.replicate (n - u.length) k := fun u => by unfold ext; rw [hk]
          by_cases hlt : t.length < n
          · rw [decide_eq_true hlt, if_pos rfl]
            have hg2 : wGet TAB_FURTHER (.str w) = some (kstr k) := hf
            simp [L1__kinds, hg2]
            refine ⟨by omega, ⟨t ++ [k], by simp, ?_⟩, by omega⟩
            rw [← ht, ee, ee, List.length_append, List.length_singleton, List.append_assoc]
            congr 1
            rw [show n - t.length = (n - (t.length + 1)) + 1 by omega]
            rfl
          · rw [decide_eq_false hlt]
            have e1 : ext t w n = t := by rw [ee, show n - t.length = 0 by omega]; simp
            rw [← ht, e1]
            simp
  rintro _ rfl
  simp
  unfold kindsD
  refine ⟨fun h => by rw [if_neg (fun z => h (by omega))], fun h => by rw [if_pos (by omega)]⟩
/-! ### the first word that is wrong -/
def badD : List Nat → List (List Nat) → D
  | k :: ks, w :: ws => if rightB k w = true then badD ks ws else kstr k
  | _, _ => .non
def verdD (w : List Nat) (ws : List (List Nat)) : D := match lookS w shapeTab with
  | none => .str (lit "unknown")
  | some s => if w = lit "expr" then (if ws = [] then .str (lit "fields") else .non)
    else if (ext (base s w ws.length) w ws.length).length = ws.length then badD (ext (base s w ws.length) w ws.length) ws else .str (lit "fields")
theorem bad_form : ∀ (ks : List Nat) (ws : List (List Nat)), badD ks ws = .non ∨ ∃ l, badD ks ws = .str l
  | [], _ => .inl rfl
  | _ :: _, [] => .inl rfl
  | k :: ks, w :: ws => by
    unfold badD
    split
    · exact bad_form ks ws
    · exact .inr ⟨_, rfl⟩
theorem verd_form (w : List Nat) (ws : List (List Nat)) : verdD w ws = .non ∨ ∃ l, verdD w ws = .str l := by
  unfold verdD
  split
  · exact .inr ⟨_, rfl⟩
  · split
    · split
      · exact .inr ⟨_, rfl⟩
      · exact .inl rfl
    · split
      · exact bad_form _ _
      · exact .inr ⟨_, rfl⟩
theorem ext_kd {s w : List Nat} {n : Nat} (h : ∀ c ∈ s, Kd c) : ∀ c ∈ ext s w n, Kd c := by
  unfold ext
  split
  · rename_i k hk
    intro c hc
    rcases List.mem_append.mp hc with z | z
    · exact h c z
    · rw [(List.mem_replicate.mp z).2]
      unfold furK at hk
      split at hk
      · cases hk; exact .inr (.inr (.inr rfl))
      · split at hk
        · cases hk; exact .inr (.inl rfl)
        · cases hk
  · exact h
theorem base_kd {s w : List Nat} {n : Nat} (hs : lookS w shapeTab = some s) : ∀ c ∈ base s w n, Kd c := by
  unfold base
  split
  · intro c hc; rw [List.mem_singleton.mp hc]; exact .inl rfl
  · exact (shape_len hs).2
theorem cut1 {α : Type} {x : α} {xs : List α} : cutG (x :: xs) (some 1) none = xs := by
  unfold cutG
  rw [sIx_nn (by decide)]
  show List.take (HT.sIx (x :: xs).length (x :: xs).length none - min 1 (x :: xs).length) (List.drop (min 1 (x :: xs).length) (x :: xs)) = xs
  have e : min 1 (x :: xs).length = 1 := by rw [List.length_cons]; omega
  rw [e]
  show List.take ((x :: xs).length - 1) xs = xs
  rw [List.length_cons]
  exact List.take_of_length_le (by omega)
theorem zip_loop (B0 : D) : ∀ (ks : List Nat) (ws : List (List Nat)) (a b : Sl), (∀ k ∈ ks, Kd k) → (∀ w ∈ ws, Wd w) → ∀ (d : D) (N : Reg → Prop), (∀ a b, badD ks ws = .non → N [.fz d, .fz B0, a, b]) → 
    Ok (loopD (gT (gsC (gN 2) (gsC (gN 3) gsN))) L1_check_words (zipD (ks.map kstr) (ws.map D.str)) [.fz d, .fz B0, a, b]) N (fun x => x = badD ks ws ∧ x ≠ .non) (fun _ => False) (fun _ => False)
  | [], ws, a, b, _, _, d, N, hN => hN a b rfl
  | _ :: _, [], a, b, _, _, d, N, hN => hN a b rfl
  | k :: ks, w :: ws, a, b, hk, hw, d, N, hN => by
    have ih := zip_loop B0 ks ws (.fz (kstr k)) (.fz (.str w)) (fun x hx => hk x (List.mem_cons_of_mem _ hx)) (fun x hx => hw x (List.mem_cons_of_mem _ hx)) d N
    have hf := fits_ok k (hk k List.mem_cons_self) w (hw w List.mem_cons_self)
    rw [List.map_cons, List.map_cons]
    unfold zipD loopD
    simp only [gT_ap, gsC_ap, gN_ap, gsN_ap, Option.bind_some, List.set_cons_succ, List.set_cons_zero]
    have hf' : m__fits [kstr k, .str w] = some (.bl (rightB k w)) := hf
    by_cases hr : rightB k w = true
    · have eb : badD (k :: ks) (w :: ws) = badD ks ws := by rw [badD, if_pos hr]
      have h : Ok (L1_check_words [.fz d, .fz B0, .fz (kstr k), .fz (.str w)]) (fun ρ => ρ = [.fz d, .fz B0, .fz (kstr k), .fz (.str w)]) (fun _ => False) (fun _ => False) (fun _ => False) := by simp [L1_check_words, hf', hr]
      rw [eb]
      have ih' := ih fun a b z => hN a b (by rw [eb]; exact z)
      cases e : L1_check_words [.fz d, .fz B0, .fz (kstr k), .fz (.str w)] with
      | nx ρ => rw [e] at h; cases (show ρ = _ from h); exact ih'
      | rt _ => rw [e] at h; exact h.elim
      | bk _ => rw [e] at h; exact h.elim
      | ct _ => rw [e] at h; exact h.elim
      | bad => rw [e] at h; exact h.elim
    · have eb : badD (k :: ks) (w :: ws) = kstr k := by rw [badD, if_neg hr]
      have h : Ok (L1_check_words [.fz d, .fz B0, .fz (kstr k), .fz (.str w)]) (fun _ => False) (fun x => x = kstr k) (fun _ => False) (fun _ => False) := by simp [L1_check_words, hf', hr]
      rw [eb]
      cases e : L1_check_words [.fz d, .fz B0, .fz (kstr k), .fz (.str w)] with
      | nx ρ => rw [e] at h; exact h.elim
      | rt _ => rw [e] at h; cases (show _ = kstr k from h); exact ⟨rfl, fun z => nomatch z⟩
      | bk _ => rw [e] at h; exact h.elim
      | ct _ => rw [e] at h; exact h.elim
      | bad => rw [e] at h; exact h.elim
theorem check_ok (w : List Nat) (ws : List (List Nat)) (hl : ws.length ≤ 100) (hw : ∀ x ∈ w :: ws, Wd x) : m_check_words [strsD (w :: ws)] = some (verdD w ws) := by
  have hz := line_big
  refine run_eq (fun _ => rfl) ?_
  unfold verdD
  have hi : wNotIn TAB_SHAPES (.str w) = some (!(lookS w shapeTab).isSome) := by
    show (some (lookL w TAB_SHAPES).isSome).map not = _
    rw [tab_eq, lookS_l, Option.isSome_map]; rfl
  cases hs : lookS w shapeTab with
  | none =>
    rw [hs] at hi
    simp [b_check_words, strsD, atI_0, tstV, hi]
  | some s =>
    rw [hs] at hi
    have hk := kinds_ok w s ws.length (by omega) hs
    simp [b_check_words, strsD, atI_0, tstV, hi, hk, cut1]
    refine ⟨fun he => ⟨fun h => ?_, fun h => ?_⟩, fun he => ?_⟩
    · rw [if_pos he, if_pos (List.length_eq_zero_iff.mp (by omega))]
    · rw [if_pos he, if_neg (fun z => by rw [z] at h; simp at h)]
    · rw [if_neg he]
      unfold kindsD
      by_cases hq : (ext (base s w ws.length) w ws.length).length = ws.length
      · rw [if_pos hq, if_pos hq]
        simp only [dIsN_l, ev_some]
        refine ⟨(fun z => by cases z), fun _ => ?_⟩
        refine ⟨zipD ((ext (base s w ws.length) w ws.length).map kstr) (ws.map D.str), ?_, ?_⟩
        · show Option.bind _ _ = _
          simp [consA, slV, parV, cut1, asI]
        · refine (zip_loop (.lst ((ext (base s w ws.length) w ws.length).map kstr)) (ext (base s w ws.length) w ws.length) ws .no .no (ext_kd (base_kd hs)) (fun x hx => hw x (List.mem_cons_of_mem _ hx)) (.lst (D.str w :: ws.map D.str)) _ fun a b h => ?_).imp (fun _ z => z) (fun _ z => z.1) (fun _ z => z) fun _ z => z
          exact h.symm
      · rw [if_neg hq, if_neg hq]
        simp
theorem t1c : ∀ k, Kd k → lookD (.inr [k]) T1__law_checked = some (kstr k) := by
  intro k hk
  obtain ⟨e1, e2, e3, e4⟩ := kind_lit
  unfold T1__law_checked
  rw [e1, e2, e3, e4]
  rcases hk with rfl | rfl | rfl | rfl
  · show _ = some (D.str (kindL 110)); rw [show kindL 110 = lit "number" by simp [kindL]]; rfl
  · show _ = some (D.str (kindL 97)); rw [show kindL 97 = lit "name" by simp [kindL]]; rfl
  · show _ = some (D.str (kindL 116)); rw [show kindL 116 = lit "test" by simp [kindL]]; rfl
  · show _ = some (D.str (kindL 118)); rw [show kindL 118 = lit "value" by simp [kindL]]; rfl
theorem bad_at : ∀ {ks : List Nat} {ws : List (List Nat)} {j k : Nat} {w : List Nat}, ks[j]? = some k → ws[j]? = some w → (∀ (i k : Nat) (w : List Nat), i < j → ks[i]? = some k → ws[i]? = some w → rightB k w = true) → rightB k w = false → badD ks ws = kstr k
  | [], _, _, _, _, h, _, _, _ => by simp at h
  | _ :: _, [], _, _, _, _, h, _, _ => by simp at h
  | k0 :: ks, w0 :: ws, 0, k, w, h1, h2, _, h4 => by
    cases h1; cases h2
    rw [badD, if_neg (by rw [h4]; exact Bool.false_ne_true)]
  | k0 :: ks, w0 :: ws, j + 1, k, w, h1, h2, h3, h4 => by
    rw [badD, if_pos (h3 0 k0 w0 (by omega) rfl rfl)]
    exact bad_at (by simpa using h1) (by simpa using h2) (fun i k w hi e1 e2 => h3 (i + 1) k w (by omega) (by simpa using e1) (by simpa using e2)) h4
theorem bad_none : ∀ {ks : List Nat} {ws : List (List Nat)}, (∀ (i k : Nat) (w : List Nat), ks[i]? = some k → ws[i]? = some w → rightB k w = true) → badD ks ws = .non
  | [], _, _ => rfl
  | _ :: _, [], _ => rfl
  | k0 :: ks, w0 :: ws, h => by
    rw [badD, if_pos (h 0 k0 w0 rfl rfl)]
    exact bad_none fun i k w e1 e2 => h (i + 1) k w (by simpa using e1) (by simpa using e2)
theorem ext_law (s w : List Nat) (n : Nat) : (if s.length < n then s ++ repL (furL w) (n - s.length) else s) = ext s w n := by
  rw [furL_eq]
  unfold ext repL
  have r1 : ∀ (m k : Nat), (List.replicate m [k]).flatten = List.replicate m k := fun m k => by
    induction m with
    | zero => rfl
    | succ m ih => rw [List.replicate_succ, List.flatten_cons, ih]; rfl
  have r0 : ∀ m : Nat, (List.replicate m ([] : List Nat)).flatten = [] := fun m => by
    induction m with
    | zero => rfl
    | succ m ih => rw [List.replicate_succ, List.flatten_cons, ih]; rfl
  cases furK w with
  | none =>
    show (if s.length < n then s ++ (List.replicate _ []).flatten else s) = s
    rw [r0]; simp
  | some k =>
    show (if s.length < n then s ++ (List.replicate _ [k]).flatten else s) = s ++ List.replicate (n - s.length) k
    rw [r1]
    split
    · rfl
    · rw [show n - s.length = 0 by omega]; simp
theorem checked_ok (w : List Nat) (ws : List (List Nat)) (hl : ws.length ≤ 100) (hw : ∀ x ∈ w :: ws, Wd x) : m__law_checked [strsD (w :: ws)] = some (verdD w ws) := by
  have hz := line_big
  refine run_eq (fun _ => rfl) ?_
  unfold verdD
  have h1 := shape_ok w
  unfold shapeD at h1
  cases hs : lookS w shapeTab with
  | none =>
    rw [hs] at h1
    simp [b__law_checked, strsD, atI_0, h1]
  | some s =>
    rw [hs] at h1
    have hsl := (shape_len hs).1
    dsimp only
    show Ok (b__law_checked [.fz (strsD (w :: ws)), .no, .no, .no]) _ _ _ _
    unfold b__law_checked
    refine cut (fun ρ => ρ = [.fz (strsD (w :: ws)), .fz (.str s), .no, .no]) (by simp [strsD, atI_0, h1]) ?_
    rintro _ rfl
    refine cut (fun ρ => ρ = [.fz (strsD (w :: ws)), .fz (.str s), .fz (.int ws.length), .no]) (by simp [strsD]) ?_
    rintro _ rfl
    refine cut (fun ρ => ρ = [.fz (strsD (w :: ws)), .fz (.str s), .fz (.int ws.length), .no]) (by simp) ?_
    rintro _ rfl
    refine cut (fun ρ => ρ = [.fz (strsD (w :: ws)), .fz (.str s), .fz (.int ws.length), .no] ∧ ¬ w = lit "expr") ?_ ?_
    · simp [strsD, atI_0]
      refine fun he => ⟨fun h => ?_, fun h => ?_⟩
      · rw [if_pos he]; subst h; rfl
      · rw [if_pos he, if_neg h]
    rintro _ ⟨rfl, he⟩
    rw [if_neg he]
    refine cut (fun ρ => ρ = [.fz (strsD (w :: ws)), .fz (.str (base s w ws.length)), .fz (.int ws.length), .no]) ?_ ?_
    · simp [strsD, atI_0, kind_lit]
      unfold base
      refine ⟨fun hr => ⟨fun h => by rw [if_pos ⟨hr, by omega⟩], fun h => by rw [if_neg (fun z => h (by omega))]⟩, fun hr => by rw [if_neg (fun z => hr z.1)]⟩
    rintro _ rfl
    have hbk := base_kd (n := ws.length) hs
    have hbl : (base s w ws.length).length ≤ 4 := by
      unfold base
      split
      · simp
      · exact hsl
    generalize base s w ws.length = b at hbk hbl
    refine cut (fun ρ => ρ = [.fz (strsD (w :: ws)), .fz (.str (ext b w ws.length)), .fz (.int ws.length), .no]) ?_ ?_
    · simp [strsD, atI_0, further_ok]
      have el := ext_law b w ws.length
      have fl := fur_len w
      refine ⟨by omega, fun h => ⟨by omega, ?_⟩, fun h => ?_⟩
      · rw [if_pos h] at el
        rw [mulS_eq (by omega) (by omega) (by omega)]
        have en : ((ws.length : Int) - (b.length : Int)).toNat = ws.length - b.length := by omega
        have rl : (repL (furL w) (ws.length - b.length)).length ≤ 100 := by
          rw [repL_len]
          exact Nat.le_trans (Nat.mul_le_mul (show ws.length - b.length ≤ 100 by omega) fl) (by decide)
        rw [en]
        simp
        exact ⟨by omega, el⟩
      · rw [if_neg (by omega)] at el
        exact el
    rintro _ rfl
    have hek := ext_kd (n := ws.length) (w := w) hbk
    have hel : (ext b w ws.length).length ≤ 200 := by
      unfold ext
      split
      · rw [List.length_append, List.length_replicate]; omega
      · omega
    generalize ext b w ws.length = ks at hek hel
    simp
    refine ⟨by omega, fun h h' => absurd h' (by omega), fun h => ⟨by omega, ?_⟩⟩
    have hlen : ks.length = ws.length := by omega
    rw [if_pos hlen]
    refine ok_range (fun j ρ => (∃ s3 : Sl, ρ = [.fz (strsD (w :: ws)), .fz (.str ks), .fz (.int ws.length), s3]) ∧ ∀ (i k : Nat) (v : List Nat), i < j → ks[i]? = some k → ws[i]? = some v → rightB k v = true) ⟨⟨.no, rfl⟩, fun i _ _ h => absurd h (Nat.not_lt_zero _)⟩ ?_ ?_
    · rintro j ρ hj ⟨⟨s3, rfl⟩, hall⟩
      refine ⟨_, rfl, ?_⟩
      have hjk : ks[j]? = some ks[j] := List.getElem?_eq_getElem (by omega)
      have hjw : ws[j]? = some ws[j] := List.getElem?_eq_getElem hj
      have hkd := hek ks[j] (List.getElem_mem _)
      have hwd := hw ws[j] (List.mem_cons_of_mem _ (List.getElem_mem hj))
      have a1 : atI ks (j : Int) = some ks[j] := atI_nat hjk
      have a2 : atI (D.str w :: ws.map D.str) ((j : Int) + 1) = some (.str ws[j]) := by
        have : ((j : Int) + 1) = ((j + 1 : Nat) : Int) := by omega
        rw [this]
        exact atI_nat (by rw [List.getElem?_cons_succ, List.getElem?_map, hjw]; rfl)
      simp [L1__law_checked, strsD, a1, a2, right_ok _ hkd _ hwd, t1c _ hkd]
      refine ⟨by omega, fun hr => ⟨by omega, ?_⟩, fun hr => ?_⟩
      · exact (bad_at hjk hjw hall hr).symm
      · intro i k v hi e1 e2
        by_cases hij : i = j
        · subst hij
          rw [hjk] at e1
          rw [hjw] at e2
          cases e1; cases e2
          exact hr
        · exact hall i k v (by omega) e1 e2
    · rintro ρ ⟨⟨s3, rfl⟩, hall⟩
      exact (bad_none fun i k v e1 e2 => hall i k v (List.getElem?_eq_some_iff.mp e2).1 e1 e2).symm
/-! ### the law -/
theorem words_okD (ws : List (List Nat)) (h : ∀ x ∈ ws, Wd x) : okD 64 (strsD ws) = true := by
  unfold strsD
  simp only [okD]
  induction ws with
  | nil => rfl
  | cons w ws ih =>
    rw [List.map_cons]
    unfold okDs
    rw [ih fun x hx => h x (List.mem_cons_of_mem _ hx)]
    have : okD 63 (.str w) = true := by
      simp only [okD, List.all_eq_true]
      intro c hc
      exact decide_eq_true (Nat.lt_trans ((h w List.mem_cons_self).2.2 c hc) (by decide))
    rw [this]
    rfl
theorem law_true (ns : List Int) (hl : ns.length ≤ 63) : m_law [.lst (ns.map D.int)] = some (.bl true) := by
  have hz := line_big
  have w1 : ∀ x ∈ [lit "expr"], Wd x := by decide +kernel
  have w2 : ∀ x ∈ [lit "route"], Wd x := by decide +kernel
  have z1 := check_ok (lit "expr") [] (by simp) w1
  have z2 := check_ok (lit "route") [] (by simp) w2
  have v1 : verdD (lit "expr") [] = .str (lit "fields") := by
    unfold verdD
    rw [show lookS (lit "expr") shapeTab = some [] by decide +kernel]
    simp
  have v2 : verdD (lit "route") [] = .non := by
    unfold verdD
    rw [show lookS (lit "route") shapeTab = some [] by decide +kernel]
    have e1 : ¬ lit "route" = lit "expr" := by decide +kernel
    have e2 : ext (base [] (lit "route") 0) (lit "route") 0 = [] := by decide +kernel
    simp [e1, e2, badD]
  rw [v1] at z1
  rw [v2] at z2
  simp only [strsD, List.map_cons, List.map_nil] at z1 z2
  refine run_eq (fun _ => rfl) ?_
  simp [b_law, cutG_map]
  refine ok_each D.int _ (fun j ρ => ∃ s1 s2 s3 s4 s5 : Sl, ρ = [.fz (.lst (ns.map D.int)), s1, s2, s3, s4, s5]) ⟨_, _, _, _, _, rfl⟩ ?_ ?_
  · rintro j c ρ hj ⟨s1, s2, s3, s4, s5, rfl⟩
    refine ⟨_, rfl, ?_⟩
    obtain ⟨_, e1, w, ws, rfl, g1, g2⟩ := list_ok c
    have e2 := check_ok w ws (by omega) g2
    have e3 := checked_ok w ws (by omega) g2
    have e4 := neP_self (words_okD (w :: ws) g2)
    have e5 : dList (strsD (w :: ws)) = some (strsD (w :: ws)) := rfl
    rcases verd_form w ws with hv | ⟨l, hv⟩
    · rw [hv] at e2 e3
      simp [L1_law, e1, e2, e3, e4, e5]
    · rw [hv] at e2 e3
      simp [L1_law, e1, e2, e3, e4, e5]
  · rintro ρ ⟨s1, s2, s3, s4, s5, rfl⟩
    simp [z1, z2]
end G76

namespace G76
open PySem PySem.Spec PyProof.Rows L2 DL
def spLaw (K : PySem.W.Frag) : Sp := fun vs H Q _ => ∃ (a : Addr) (ns : List Int), vs = [V.ref a] ∧ SqL K H a (ns.map V.int) ∧ ns.length ≤ 63 ∧ ∀ H1, Q (.bl true) H1
theorem all_mk {P : Program} {w : World} {K : PySem.W.Frag} {h : Heap} {mg : Str → Option Value} {fa : Addr} (X : K.In h) (G : h.Ns mainGlobals mg) (hfa : mg "law" = some (.ref fa))
    {f0 f1 f2 f3 f4 f5 f6 f7 f8 f9 f10 f11 f12 f13 f14 f15 f16 : Addr} {od0 an0 od1 an1 od2 an2 od3 an3 od4 an4 od5 an5 od6 an6 od7 an7 od8 an8 od9 an9 od10 an10 od11 an11 od12 an12 od13 an13 od14 an14 od15 an15 od16 an16 : Option Addr} {sl0 sl1 sl2 sl3 sl4 sl5 sl6 sl7 sl8 sl9 sl10 sl11 sl12 sl13 sl14 sl15 sl16 : Array (Option Value)} {oc0 kV0 dc0 pm0 cd0 ct0 oc1 kV1 dc1 pm1 cd1 ct1 oc2 kV2 dc2 pm2 cd2 ct2 oc3 kV3 dc3 pm3 cd3 ct3 oc4 kV4 dc4 pm4 cd4 ct4 oc5 kV5 dc5 pm5 cd5 ct5 oc6 kV6 dc6 pm6 cd6 ct6 oc7 kV7 dc7 pm7 cd7 ct7 oc8 kV8 dc8 pm8 cd8 ct8 oc9 kV9 dc9 pm9 cd9 ct9 oc10 kV10 dc10 pm10 cd10 ct10 oc11 kV11 dc11 pm11 cd11 ct11 oc12 kV12 dc12 pm12 cd12 ct12 oc13 kV13 dc13 pm13 cd13 ct13 oc14 kV14 dc14 pm14 cd14 ct14 oc15 kV15 dc15 pm15 cd15 ct15 oc16 kV16 dc16 pm16 cd16 ct16 : Value}
    (a0 : PySem.W.nsIn K mainGlobals "is_value" = some (some (.ref f0))) (l0 : K.lookup f0 = some ⟨oc0, od0, .func (PySem.W.fnOf "is_value" "is_value" (defArgs s_is_value) (defBody s_is_value) (defScope s_is_value) .none kV0 dc0 pm0 an0 cd0 ct0), sl0⟩) (c0 : PySem.W.codeIn K cd0 "is_value" = true) (k0 : PySem.W.keepIn K (.ref f0) = true)
    (a1 : PySem.W.nsIn K mainGlobals "is_name" = some (some (.ref f1))) (l1 : K.lookup f1 = some ⟨oc1, od1, .func (PySem.W.fnOf "is_name" "is_name" (defArgs s_is_name) (defBody s_is_name) (defScope s_is_name) .none kV1 dc1 pm1 an1 cd1 ct1), sl1⟩) (c1 : PySem.W.codeIn K cd1 "is_name" = true) (k1 : PySem.W.keepIn K (.ref f1) = true)
    (a2 : PySem.W.nsIn K mainGlobals "_is_number" = some (some (.ref f2))) (l2 : K.lookup f2 = some ⟨oc2, od2, .func (PySem.W.fnOf "_is_number" "_is_number" (defArgs s__is_number) (defBody s__is_number) (defScope s__is_number) .none kV2 dc2 pm2 an2 cd2 ct2), sl2⟩) (c2 : PySem.W.codeIn K cd2 "_is_number" = true) (k2 : PySem.W.keepIn K (.ref f2) = true)
    (a3 : PySem.W.nsIn K mainGlobals "_fits" = some (some (.ref f3))) (l3 : K.lookup f3 = some ⟨oc3, od3, .func (PySem.W.fnOf "_fits" "_fits" (defArgs s__fits) (defBody s__fits) (defScope s__fits) .none kV3 dc3 pm3 an3 cd3 ct3), sl3⟩) (c3 : PySem.W.codeIn K cd3 "_fits" = true) (k3 : PySem.W.keepIn K (.ref f3) = true)
    (a4 : PySem.W.nsIn K mainGlobals "_kinds" = some (some (.ref f4))) (l4 : K.lookup f4 = some ⟨oc4, od4, .func (PySem.W.fnOf "_kinds" "_kinds" (defArgs s__kinds) (defBody s__kinds) (defScope s__kinds) .none kV4 dc4 pm4 an4 cd4 ct4), sl4⟩) (c4 : PySem.W.codeIn K cd4 "_kinds" = true) (k4 : PySem.W.keepIn K (.ref f4) = true)
    (a5 : PySem.W.nsIn K mainGlobals "check_words" = some (some (.ref f5))) (l5 : K.lookup f5 = some ⟨oc5, od5, .func (PySem.W.fnOf "check_words" "check_words" (defArgs s_check_words) (defBody s_check_words) (defScope s_check_words) .none kV5 dc5 pm5 an5 cd5 ct5), sl5⟩) (c5 : PySem.W.codeIn K cd5 "check_words" = true) (k5 : PySem.W.keepIn K (.ref f5) = true)
    (a6 : PySem.W.nsIn K mainGlobals "_law_draws" = some (some (.ref f6))) (l6 : K.lookup f6 = some ⟨oc6, od6, .func (PySem.W.fnOf "_law_draws" "_law_draws" (defArgs s__law_draws) (defBody s__law_draws) (defScope s__law_draws) .none kV6 dc6 pm6 an6 cd6 ct6), sl6⟩) (c6 : PySem.W.codeIn K cd6 "_law_draws" = true) (k6 : PySem.W.keepIn K (.ref f6) = true)
    (a7 : PySem.W.nsIn K mainGlobals "_law_shape" = some (some (.ref f7))) (l7 : K.lookup f7 = some ⟨oc7, od7, .func (PySem.W.fnOf "_law_shape" "_law_shape" (defArgs s__law_shape) (defBody s__law_shape) (defScope s__law_shape) .none kV7 dc7 pm7 an7 cd7 ct7), sl7⟩) (c7 : PySem.W.codeIn K cd7 "_law_shape" = true) (k7 : PySem.W.keepIn K (.ref f7) = true)
    (a8 : PySem.W.nsIn K mainGlobals "_law_further" = some (some (.ref f8))) (l8 : K.lookup f8 = some ⟨oc8, od8, .func (PySem.W.fnOf "_law_further" "_law_further" (defArgs s__law_further) (defBody s__law_further) (defScope s__law_further) .none kV8 dc8 pm8 an8 cd8 ct8), sl8⟩) (c8 : PySem.W.codeIn K cd8 "_law_further" = true) (k8 : PySem.W.keepIn K (.ref f8) = true)
    (a9 : PySem.W.nsIn K mainGlobals "_law_consists" = some (some (.ref f9))) (l9 : K.lookup f9 = some ⟨oc9, od9, .func (PySem.W.fnOf "_law_consists" "_law_consists" (defArgs s__law_consists) (defBody s__law_consists) (defScope s__law_consists) .none kV9 dc9 pm9 an9 cd9 ct9), sl9⟩) (c9 : PySem.W.codeIn K cd9 "_law_consists" = true) (k9 : PySem.W.keepIn K (.ref f9) = true)
    (a10 : PySem.W.nsIn K mainGlobals "_law_right" = some (some (.ref f10))) (l10 : K.lookup f10 = some ⟨oc10, od10, .func (PySem.W.fnOf "_law_right" "_law_right" (defArgs s__law_right) (defBody s__law_right) (defScope s__law_right) .none kV10 dc10 pm10 an10 cd10 ct10), sl10⟩) (c10 : PySem.W.codeIn K cd10 "_law_right" = true) (k10 : PySem.W.keepIn K (.ref f10) = true)
    (a11 : PySem.W.nsIn K mainGlobals "_law_checked" = some (some (.ref f11))) (l11 : K.lookup f11 = some ⟨oc11, od11, .func (PySem.W.fnOf "_law_checked" "_law_checked" (defArgs s__law_checked) (defBody s__law_checked) (defScope s__law_checked) .none kV11 dc11 pm11 an11 cd11 ct11), sl11⟩) (c11 : PySem.W.codeIn K cd11 "_law_checked" = true) (k11 : PySem.W.keepIn K (.ref f11) = true)
    (a12 : PySem.W.nsIn K mainGlobals "_law_word" = some (some (.ref f12))) (l12 : K.lookup f12 = some ⟨oc12, od12, .func (PySem.W.fnOf "_law_word" "_law_word" (defArgs s__law_word) (defBody s__law_word) (defScope s__law_word) .none kV12 dc12 pm12 an12 cd12 ct12), sl12⟩) (c12 : PySem.W.codeIn K cd12 "_law_word" = true) (k12 : PySem.W.keepIn K (.ref f12) = true)
    (a13 : PySem.W.nsIn K mainGlobals "_law_wrong" = some (some (.ref f13))) (l13 : K.lookup f13 = some ⟨oc13, od13, .func (PySem.W.fnOf "_law_wrong" "_law_wrong" (defArgs s__law_wrong) (defBody s__law_wrong) (defScope s__law_wrong) .none kV13 dc13 pm13 an13 cd13 ct13), sl13⟩) (c13 : PySem.W.codeIn K cd13 "_law_wrong" = true) (k13 : PySem.W.keepIn K (.ref f13) = true)
    (a14 : PySem.W.nsIn K mainGlobals "_law_first" = some (some (.ref f14))) (l14 : K.lookup f14 = some ⟨oc14, od14, .func (PySem.W.fnOf "_law_first" "_law_first" (defArgs s__law_first) (defBody s__law_first) (defScope s__law_first) .none kV14 dc14 pm14 an14 cd14 ct14), sl14⟩) (c14 : PySem.W.codeIn K cd14 "_law_first" = true) (k14 : PySem.W.keepIn K (.ref f14) = true)
    (a15 : PySem.W.nsIn K mainGlobals "_law_list" = some (some (.ref f15))) (l15 : K.lookup f15 = some ⟨oc15, od15, .func (PySem.W.fnOf "_law_list" "_law_list" (defArgs s__law_list) (defBody s__law_list) (defScope s__law_list) .none kV15 dc15 pm15 an15 cd15 ct15), sl15⟩) (c15 : PySem.W.codeIn K cd15 "_law_list" = true) (k15 : PySem.W.keepIn K (.ref f15) = true)
    (a16 : PySem.W.nsIn K mainGlobals "law" = some (some (.ref f16))) (l16 : K.lookup f16 = some ⟨oc16, od16, .func (PySem.W.fnOf "law" "law" (defArgs s_law) (defBody s_law) (defScope s_law) .none kV16 dc16 pm16 an16 cd16 ct16), sl16⟩) (c16 : PySem.W.codeIn K cd16 "law" = true) (k16 : PySem.W.keepIn K (.ref f16) = true)
    (z_int : PySem.W.nsIn K mainGlobals "int" = some none)
    (z_isinstance : PySem.W.nsIn K mainGlobals "isinstance" = some none)
    (z_len : PySem.W.nsIn K mainGlobals "len" = some none)
    (z_list : PySem.W.nsIn K mainGlobals "list" = some none)
    (z_range : PySem.W.nsIn K mainGlobals "range" = some none)
    (z_str : PySem.W.nsIn K mainGlobals "str" = some none)
    (z_zip : PySem.W.nsIn K mainGlobals "zip" = some none)
    {tk_LETTERS : Tok} (cc_LETTERS : PySem.W.nsIn K mainGlobals "LETTERS" = some (some (.str (Str.ofString "abcdefghijklmnopqrstuvwxyz") tk_LETTERS)))
    {tk_MOST_CHARS : Tok} (cc_MOST_CHARS : PySem.W.nsIn K mainGlobals "MOST_CHARS" = some (some (.int 20 tk_MOST_CHARS)))
    {tk_WORD_CHARS : Tok} (cc_WORD_CHARS : PySem.W.nsIn K mainGlobals "WORD_CHARS" = some (some (.str (Str.ofString "abcdefghijklmnopqrstuvwxyz0123456789_") tk_WORD_CHARS)))
    {ad_SHAPES : Addr} {es_SHAPES : Array DictEntry} {nn_SHAPES : Nat} (tg_SHAPES : PySem.W.nsIn K mainGlobals "SHAPES" = some (some (.ref ad_SHAPES)))
    (tl_SHAPES : K.lookup ad_SHAPES = some ⟨.type "dict", none, .dict es_SHAPES nn_SHAPES, #[]⟩)
    (tk_SHAPES : PySem.W.KeysLit w.params es_SHAPES.toList)
    (to_SHAPES : tabOk K es_SHAPES.toList TAB_SHAPES = true)
    (ts_SHAPES : (ad_SHAPES == sysModules) = false)
    {ad_FURTHER : Addr} {es_FURTHER : Array DictEntry} {nn_FURTHER : Nat} (tg_FURTHER : PySem.W.nsIn K mainGlobals "FURTHER" = some (some (.ref ad_FURTHER)))
    (tl_FURTHER : K.lookup ad_FURTHER = some ⟨.type "dict", none, .dict es_FURTHER nn_FURTHER, #[]⟩)
    (tk_FURTHER : PySem.W.KeysLit w.params es_FURTHER.toList)
    (to_FURTHER : tabOk K es_FURTHER.toList TAB_FURTHER = true)
    (ts_FURTHER : (ad_FURTHER == sysModules) = false)
    : ∃ fd : FuncData, (∀ (s : Shared) (v : Value), BindsTo s fd ⟨[v], []⟩ [("_law_script", v)]) ∧ ∀ base : Heap, K.In base → base.Ns mainGlobals mg → FnOk P w K mg base CX0 5 fa fd ["_law_script"] (spLaw K) := by
  have e := hfa.symm.trans (PySem.W.mg_of X G a16)
  cases e
  have F0 := fun_mk (st := s_is_value) l0 c0 k0
  have h0 : Here K mg "is_value" s_is_value ["text"] := ⟨_, _, F0, PySem.W.mg_of X G a0, F0.binds (ps := ["text"]) fun _ _ _ _ _ _ us hl => match us, hl with | [_], _ => rfl⟩
  have F1 := fun_mk (st := s_is_name) l1 c1 k1
  have h1 : Here K mg "is_name" s_is_name ["text"] := ⟨_, _, F1, PySem.W.mg_of X G a1, F1.binds (ps := ["text"]) fun _ _ _ _ _ _ us hl => match us, hl with | [_], _ => rfl⟩
  have F2 := fun_mk (st := s__is_number) l2 c2 k2
  have h2 : Here K mg "_is_number" s__is_number ["word"] := ⟨_, _, F2, PySem.W.mg_of X G a2, F2.binds (ps := ["word"]) fun _ _ _ _ _ _ us hl => match us, hl with | [_], _ => rfl⟩
  have F3 := fun_mk (st := s__fits) l3 c3 k3
  have h3 : Here K mg "_fits" s__fits ["kind", "word"] := ⟨_, _, F3, PySem.W.mg_of X G a3, F3.binds (ps := ["kind", "word"]) fun _ _ _ _ _ _ us hl => match us, hl with | [_, _], _ => rfl⟩
  have F4 := fun_mk (st := s__kinds) l4 c4 k4
  have h4 : Here K mg "_kinds" s__kinds ["word", "many"] := ⟨_, _, F4, PySem.W.mg_of X G a4, F4.binds (ps := ["word", "many"]) fun _ _ _ _ _ _ us hl => match us, hl with | [_, _], _ => rfl⟩
  have F5 := fun_mk (st := s_check_words) l5 c5 k5
  have h5 : Here K mg "check_words" s_check_words ["words"] := ⟨_, _, F5, PySem.W.mg_of X G a5, F5.binds (ps := ["words"]) fun _ _ _ _ _ _ us hl => match us, hl with | [_], _ => rfl⟩
  have F6 := fun_mk (st := s__law_draws) l6 c6 k6
  have h6 : Here K mg "_law_draws" s__law_draws ["_law_cell", "_law_many"] := ⟨_, _, F6, PySem.W.mg_of X G a6, F6.binds (ps := ["_law_cell", "_law_many"]) fun _ _ _ _ _ _ us hl => match us, hl with | [_, _], _ => rfl⟩
  have F7 := fun_mk (st := s__law_shape) l7 c7 k7
  have h7 : Here K mg "_law_shape" s__law_shape ["_law_word_here"] := ⟨_, _, F7, PySem.W.mg_of X G a7, F7.binds (ps := ["_law_word_here"]) fun _ _ _ _ _ _ us hl => match us, hl with | [_], _ => rfl⟩
  have F8 := fun_mk (st := s__law_further) l8 c8 k8
  have h8 : Here K mg "_law_further" s__law_further ["_law_word_here"] := ⟨_, _, F8, PySem.W.mg_of X G a8, F8.binds (ps := ["_law_word_here"]) fun _ _ _ _ _ _ us hl => match us, hl with | [_], _ => rfl⟩
  have F9 := fun_mk (st := s__law_consists) l9 c9 k9
  have h9 : Here K mg "_law_consists" s__law_consists ["_law_text", "_law_chars"] := ⟨_, _, F9, PySem.W.mg_of X G a9, F9.binds (ps := ["_law_text", "_law_chars"]) fun _ _ _ _ _ _ us hl => match us, hl with | [_, _], _ => rfl⟩
  have F10 := fun_mk (st := s__law_right) l10 c10 k10
  have h10 : Here K mg "_law_right" s__law_right ["_law_kind", "_law_word_here"] := ⟨_, _, F10, PySem.W.mg_of X G a10, F10.binds (ps := ["_law_kind", "_law_word_here"]) fun _ _ _ _ _ _ us hl => match us, hl with | [_, _], _ => rfl⟩
  have F11 := fun_mk (st := s__law_checked) l11 c11 k11
  have h11 : Here K mg "_law_checked" s__law_checked ["_law_words"] := ⟨_, _, F11, PySem.W.mg_of X G a11, F11.binds (ps := ["_law_words"]) fun _ _ _ _ _ _ us hl => match us, hl with | [_], _ => rfl⟩
  have F12 := fun_mk (st := s__law_word) l12 c12 k12
  have h12 : Here K mg "_law_word" s__law_word ["_law_kind", "_law_draw"] := ⟨_, _, F12, PySem.W.mg_of X G a12, F12.binds (ps := ["_law_kind", "_law_draw"]) fun _ _ _ _ _ _ us hl => match us, hl with | [_, _], _ => rfl⟩
  have F13 := fun_mk (st := s__law_wrong) l13 c13 k13
  have h13 : Here K mg "_law_wrong" s__law_wrong ["_law_kind", "_law_draw"] := ⟨_, _, F13, PySem.W.mg_of X G a13, F13.binds (ps := ["_law_kind", "_law_draw"]) fun _ _ _ _ _ _ us hl => match us, hl with | [_, _], _ => rfl⟩
  have F14 := fun_mk (st := s__law_first) l14 c14 k14
  have h14 : Here K mg "_law_first" s__law_first ["_law_draws_here"] := ⟨_, _, F14, PySem.W.mg_of X G a14, F14.binds (ps := ["_law_draws_here"]) fun _ _ _ _ _ _ us hl => match us, hl with | [_], _ => rfl⟩
  have F15 := fun_mk (st := s__law_list) l15 c15 k15
  have h15 : Here K mg "_law_list" s__law_list ["_law_cell"] := ⟨_, _, F15, PySem.W.mg_of X G a15, F15.binds (ps := ["_law_cell"]) fun _ _ _ _ _ _ us hl => match us, hl with | [_], _ => rfl⟩
  have F16 := fun_mk (st := s_law) l16 c16 k16
  have h16 : Here K mg "law" s_law ["_law_script"] := ⟨_, _, F16, PySem.W.mg_of X G a16, F16.binds (ps := ["_law_script"]) fun _ _ _ _ _ _ us hl => match us, hl with | [_], _ => rfl⟩
  have T : Txt K mg w := ⟨h0, h1, h2, h3, h4, h5, h6, h7, h8, h9, h10, h11, h12, h13, h14, h15, h16, PySem.W.mg_none_of X G z_int, PySem.W.mg_none_of X G z_isinstance, PySem.W.mg_none_of X G z_len, PySem.W.mg_none_of X G z_list, PySem.W.mg_none_of X G z_range, PySem.W.mg_none_of X G z_str, PySem.W.mg_none_of X G z_zip, ⟨_, PySem.W.mg_of X G cc_LETTERS, ⟨_, rfl⟩⟩, ⟨_, PySem.W.mg_of X G cc_MOST_CHARS, ⟨_, rfl⟩⟩, ⟨_, PySem.W.mg_of X G cc_WORD_CHARS, ⟨_, rfl⟩⟩, ⟨_, _, _, PySem.W.mg_of X G tg_SHAPES, tl_SHAPES, tk_SHAPES, to_SHAPES, ts_SHAPES⟩, ⟨_, _, _, PySem.W.mg_of X G tg_FURTHER, tl_FURTHER, tk_FURTHER, to_FURTHER, ts_FURTHER⟩⟩
  refine ⟨PySem.W.fnOf "law" "law" (defArgs s_law) (defBody s_law) (defScope s_law) .none kV16 dc16 pm16 an16 cd16 ct16, fun s v => .of_eq rfl, fun base _ _ => (fn_law (P := P) (w := w) (base := base) T F16).imp fun vs H Q E hs => ?_⟩
  obtain ⟨a, ns, rfl, hS, hl, q⟩ := hs
  exact ⟨H, [.lst (ns.map D.int)], .bl true, Sub.refl _, .cons (.lst hS (Reps.ints ns)) .nil, rfl, law_true ns hl, fun v H1 F1 x r => (by cases r; exact q H1)⟩
end G76
open PySem PySem.W PyProof.Rows
set_option maxRecDepth 100000 in
set_option maxHeartbeats 0 in
theorem PySem.Challenge.cw_watchfloor_k76_configuration_words_check_holds : PySem.Challenge.rw_watchfloor_k76_configuration_words_check.Holds := by
  w_on; o_law; k_head; (case hw => w_witness2)
  k_fill
  refine L2.walk_of (l := PySem.Challenge.rw_watchfloor_k76_configuration_words_check) (n := 63) (k := 5) (x := "_law_script") (CX := fun _ => L2.CX0) (sp := fun w => G76.spLaw _) rfl (by decide) rfl ⟨rfl, by decide, by decide⟩ (fun w h Y => PySem.W.kIn_of Y) ?F (fun _ _ a ns hl _ hS => ⟨a, ns, rfl, hS, hl, fun _ => rfl⟩) (fun _ _ _ _ _ h => h)
  case F =>
    intro w mg fa h KX G hmg
    refine' G76.all_mk KX G hmg ?a0 ?l0 ?c0 ?k0 ?a1 ?l1 ?c1 ?k1 ?a2 ?l2 ?c2 ?k2 ?a3 ?l3 ?c3 ?k3 ?a4 ?l4 ?c4 ?k4 ?a5 ?l5 ?c5 ?k5 ?a6 ?l6 ?c6 ?k6 ?a7 ?l7 ?c7 ?k7 ?a8 ?l8 ?c8 ?k8 ?a9 ?l9 ?c9 ?k9 ?a10 ?l10 ?c10 ?k10 ?a11 ?l11 ?c11 ?k11 ?a12 ?l12 ?c12 ?k12 ?a13 ?l13 ?c13 ?k13 ?a14 ?l14 ?c14 ?k14 ?a15 ?l15 ?c15 ?k15 ?a16 ?l16 ?c16 ?k16 ?z_int ?z_isinstance ?z_len ?z_list ?z_range ?z_str ?z_zip ?cc_LETTERS ?cc_MOST_CHARS ?cc_WORD_CHARS ?tg_SHAPES ?tl_SHAPES ?tk_SHAPES ?to_SHAPES ?ts_SHAPES ?tg_FURTHER ?tl_FURTHER ?tk_FURTHER ?to_FURTHER ?ts_FURTHER
    (case a0 => k_is)
    (case l0 => k_is)
    (case c0 => k_is)
    (case k0 => k_is)
    (case a1 => k_is)
    (case l1 => k_is)
    (case c1 => k_is)
    (case k1 => k_is)
    (case a2 => k_is)
    (case l2 => k_is)
    (case c2 => k_is)
    (case k2 => k_is)
    (case a3 => k_is)
    (case l3 => k_is)
    (case c3 => k_is)
    (case k3 => k_is)
    (case a4 => k_is)
    (case l4 => k_is)
    (case c4 => k_is)
    (case k4 => k_is)
    (case a5 => k_is)
    (case l5 => k_is)
    (case c5 => k_is)
    (case k5 => k_is)
    (case a6 => k_is)
    (case l6 => k_is)
    (case c6 => k_is)
    (case k6 => k_is)
    (case a7 => k_is)
    (case l7 => k_is)
    (case c7 => k_is)
    (case k7 => k_is)
    (case a8 => k_is)
    (case l8 => k_is)
    (case c8 => k_is)
    (case k8 => k_is)
    (case a9 => k_is)
    (case l9 => k_is)
    (case c9 => k_is)
    (case k9 => k_is)
    (case a10 => k_is)
    (case l10 => k_is)
    (case c10 => k_is)
    (case k10 => k_is)
    (case a11 => k_is)
    (case l11 => k_is)
    (case c11 => k_is)
    (case k11 => k_is)
    (case a12 => k_is)
    (case l12 => k_is)
    (case c12 => k_is)
    (case k12 => k_is)
    (case a13 => k_is)
    (case l13 => k_is)
    (case c13 => k_is)
    (case k13 => k_is)
    (case a14 => k_is)
    (case l14 => k_is)
    (case c14 => k_is)
    (case k14 => k_is)
    (case a15 => k_is)
    (case l15 => k_is)
    (case c15 => k_is)
    (case k15 => k_is)
    (case a16 => k_is)
    (case l16 => k_is)
    (case c16 => k_is)
    (case k16 => k_is)
    (case z_int => k_is)
    (case z_isinstance => k_is)
    (case z_len => k_is)
    (case z_list => k_is)
    (case z_range => k_is)
    (case z_str => k_is)
    (case z_zip => k_is)
    (case cc_LETTERS => k_is)
    (case cc_MOST_CHARS => k_is)
    (case cc_WORD_CHARS => k_is)
    (case tg_SHAPES => k_is)
    (case tl_SHAPES => k_is)
    (case tk_SHAPES => k_keys)
    (case to_SHAPES => first | rfl | decide +kernel)
    (case ts_SHAPES => first | rfl | decide)
    (case tg_FURTHER => k_is)
    (case tl_FURTHER => k_is)
    (case tk_FURTHER => k_keys)
    (case to_FURTHER => first | rfl | decide +kernel)
    (case ts_FURTHER => first | rfl | decide)
