import PyProof.Rows.All
import Wide.All
import OpenK.AllK
import Wide.FinOn
import HandS.ForMost
import HandS.IsInst
import HandS.Flow
import HandS.NoneIn
import HandS.FStr
import HandS.SortRule
import HandS.RaiseMore
import HandS.Iter
import HandS.Zip
import HandS.Dict
import HandS.More
import PyProof.Rows.DictMod
import PyProof.StrBlock2
import HandS.Style
import HandS.TupLe
import HandS.Defaults
import HandS.MakeKwOnly
import HandS.Gcd
import HandS.SortInts
import KE.KMathGC
import KE.GoesEnum
import HandS.ExcIs
import HandS.WordsExc
import PySem.Challenge.RW_watchfloor_k74_analysis_sure_by_ticks
set_option Elab.async false
set_option linter.all false
set_option maxRecDepth 100000
set_option maxHeartbeats 4000000
/-! DL: plain data over the hand layer. D: data; Rep: a value of the abstract heap stands for data; DE, DN, DB, DT, DS: an expression (frozen, new, borrowed), a test, a statement computes a function of the slots' data. -/
namespace DL
open PySem PySem.Spec PyProof.Rows L2
open TL (tl len_tl ext_tl tl_append tl_mk mk_tl map_tl_inj tl_ofString)

/-! ### data -/
abbrev DK := Sum Int (List Nat)
inductive D where
  | non | bl (b : Bool) | int (i : Int) | str (l : List Nat) | lst (ds : List D) | tup (ds : List D) | dic (kvs : List (DK × D)) | obj (cn : Str) (fs : List (Str × D))

def keyOf : DK → Key
  | .inl i => .inl i
  | .inr l => .inr ⟨l.toArray⟩

/-- what is known: the written part, the module's names -/
structure Kn where
  K : PySem.W.Frag
  mg : Str → Option Value
abbrev kn (X : Cx) : Kn := ⟨X.K, X.mg⟩

def Sub (F H : Hp) : Prop := ∀ a o, F a = some o → H a = some o
theorem Sub.refl (F : Hp) : Sub F F := fun _ _ h => h
theorem Sub.trans {A B C : Hp} (h : Sub A B) (g : Sub B C) : Sub A C := fun a o e => g a o (h a o e)

theorem sqL_sub {K : PySem.W.Frag} {H H' : Hp} {a : Addr} {xs : List V} (e : Sub H H') (h : SqL K H a xs) : SqL K H' a xs := by
  rcases h with (h | ⟨o, h⟩) | h
  · exact .inl (.inl (e _ _ h))
  · exact .inl (.inr ⟨o, e _ _ h⟩)
  · exact .inr h
theorem sqT_sub {K : PySem.W.Frag} {H H' : Hp} {a : Addr} {xs : List V} (e : Sub H H') (h : SqT K H a xs) : SqT K H' a xs := by
  rcases h with (h | ⟨o, h⟩) | h
  · exact .inl (.inl (e _ _ h))
  · exact .inl (.inr ⟨o, e _ _ h⟩)
  · exact .inr h

mutual
/-- the value stands for the data, by the frozen part F of the heap -/
inductive Rep (Y : Kn) (F : Hp) : V → D → Prop where
  | non : Rep Y F .non .non
  | bl (b : Bool) : Rep Y F (.bl b) (.bl b)
  | int (i : Int) : Rep Y F (.int i) (.int i)
  | str (z : Str) : Rep Y F (.str z) (.str (tl z))
  | lst {a : Addr} {vs : List V} {ds : List D} (h : SqL Y.K F a vs) (r : Reps Y F vs ds) : Rep Y F (.ref a) (.lst ds)
  | tup {a : Addr} {vs : List V} {ds : List D} (h : SqT Y.K F a vs) (r : Reps Y F vs ds) : Rep Y F (.ref a) (.tup ds)
  | dic {a : Addr} {kvs : List (Key × V)} {ds : List (DK × D)} (h : F a = some (.dK kvs)) (r : RepK Y F kvs ds) : Rep Y F (.ref a) (.dic ds)
  | obj {a C dx : Addr} {cn : Str} {fs : List (Str × V)} {ds : List (Str × D)} (c : Y.mg cn = some (.ref C)) (h : F a = some (.ins C dx fs)) (hd : F dx = some (.own a)) (r : RepF Y F fs ds) : Rep Y F (.ref a) (.obj cn ds)
inductive Reps (Y : Kn) (F : Hp) : List V → List D → Prop where
  | nil : Reps Y F [] []
  | cons {v : V} {d : D} {vs : List V} {ds : List D} (h : Rep Y F v d) (t : Reps Y F vs ds) : Reps Y F (v :: vs) (d :: ds)
inductive RepK (Y : Kn) (F : Hp) : List (Key × V) → List (DK × D) → Prop where
  | nil : RepK Y F [] []
  | cons {k : DK} {v : V} {d : D} {vs : List (Key × V)} {ds : List (DK × D)} (h : Rep Y F v d) (t : RepK Y F vs ds) : RepK Y F ((keyOf k, v) :: vs) ((k, d) :: ds)
inductive RepF (Y : Kn) (F : Hp) : List (Str × V) → List (Str × D) → Prop where
  | nil : RepF Y F [] []
  | cons {k : Str} {v : V} {d : D} {vs : List (Str × V)} {ds : List (Str × D)} (h : Rep Y F v d) (t : RepF Y F vs ds) : RepF Y F ((k, v) :: vs) ((k, d) :: ds)
end

section
variable {Y : Kn} {F F' : Hp}
mutual
theorem Rep.mono (s : Sub F F') : ∀ {v : V} {d : D}, Rep Y F v d → Rep Y F' v d
  | _, _, .non => .non
  | _, _, .bl b => .bl b
  | _, _, .int i => .int i
  | _, _, .str z => .str z
  | _, _, .lst h r => .lst (sqL_sub s h) (Reps.mono s r)
  | _, _, .tup h r => .tup (sqT_sub s h) (Reps.mono s r)
  | _, _, .dic h r => .dic (s _ _ h) (RepK.mono s r)
  | _, _, .obj c h hd r => .obj c (s _ _ h) (s _ _ hd) (RepF.mono s r)
theorem Reps.mono (s : Sub F F') : ∀ {vs : List V} {ds : List D}, Reps Y F vs ds → Reps Y F' vs ds
  | _, _, .nil => .nil
  | _, _, .cons h t => .cons (Rep.mono s h) (Reps.mono s t)
theorem RepK.mono (s : Sub F F') : ∀ {vs : List (Key × V)} {ds : List (DK × D)}, RepK Y F vs ds → RepK Y F' vs ds
  | _, _, .nil => .nil
  | _, _, .cons h t => .cons (Rep.mono s h) (RepK.mono s t)
theorem RepF.mono (s : Sub F F') : ∀ {vs : List (Str × V)} {ds : List (Str × D)}, RepF Y F vs ds → RepF Y F' vs ds
  | _, _, .nil => .nil
  | _, _, .cons h t => .cons (Rep.mono s h) (RepF.mono s t)
end
theorem Reps.length : ∀ {vs : List V} {ds : List D}, Reps Y F vs ds → vs.length = ds.length
  | _, _, .nil => rfl
  | _, _, .cons _ t => by rw [List.length_cons, List.length_cons, Reps.length t]
theorem Reps.append : ∀ {vs ws : List V} {ds es : List D}, Reps Y F vs ds → Reps Y F ws es → Reps Y F (vs ++ ws) (ds ++ es)
  | _, _, _, _, .nil, s => s
  | _, _, _, _, .cons h t, s => .cons h (Reps.append t s)
theorem Reps.get : ∀ {vs : List V} {ds : List D} {i : Nat} {d : D}, Reps Y F vs ds → ds[i]? = some d → ∃ v, vs[i]? = some v ∧ Rep Y F v d
  | _, _, _, _, .nil, e => by simp at e
  | _, _, 0, _, .cons h _, e => by simp at e; subst e; exact ⟨_, rfl, h⟩
  | _, _, i + 1, d, .cons _ t, e => by
    obtain ⟨v, h1, h2⟩ := Reps.get (i := i) (d := d) t (by simpa using e)
    exact ⟨v, by simpa using h1, h2⟩
theorem Reps.getV : ∀ {vs : List V} {ds : List D} {i : Nat} {v : V}, Reps Y F vs ds → vs[i]? = some v → ∃ d, ds[i]? = some d ∧ Rep Y F v d
  | _, _, _, _, .nil, e => by simp at e
  | _, _, 0, _, .cons h _, e => by simp at e; subst e; exact ⟨_, rfl, h⟩
  | _, _, i + 1, v, .cons _ t, e => by
    obtain ⟨d, h1, h2⟩ := Reps.getV (i := i) (v := v) t (by simpa using e)
    exact ⟨d, by simpa using h1, h2⟩
theorem Reps.drop : ∀ {vs : List V} {ds : List D} (n : Nat), Reps Y F vs ds → Reps Y F (vs.drop n) (ds.drop n)
  | _, _, 0, r => r
  | _, _, _ + 1, .nil => .nil
  | _, _, n + 1, .cons _ t => Reps.drop n t
theorem Reps.take : ∀ {vs : List V} {ds : List D} (n : Nat), Reps Y F vs ds → Reps Y F (vs.take n) (ds.take n)
  | _, _, 0, _ => .nil
  | _, _, _ + 1, .nil => .nil
  | _, _, n + 1, .cons h t => .cons h (Reps.take n t)
theorem Reps.set {v : V} {d : D} (r : Rep Y F v d) : ∀ {vs : List V} {ds : List D} (i : Nat), Reps Y F vs ds → Reps Y F (vs.set i v) (ds.set i d)
  | _, _, _, .nil => .nil
  | _, _, 0, .cons _ t => .cons r t
  | _, _, i + 1, .cons q t => .cons q (Reps.set r i t)
theorem Reps.ints : ∀ (ns : List Int), Reps Y F (ns.map V.int) (ns.map D.int)
  | [] => .nil
  | n :: ns => .cons (.int n) (Reps.ints ns)

/-- at the top by the whole heap: a list, dict or object that is one's own -/
def Own (Y : Kn) (H F : Hp) (a : Addr) (d : D) : Prop := match d with
  | .lst ds => ∃ vs, H a = some (.lst vs) ∧ Reps Y F vs ds
  | .dic ds => ∃ kvs, H a = some (.dK kvs) ∧ RepK Y F kvs ds
  | _ => False
theorem Own.mono {H H' : Hp} {a : Addr} {d : D} (o : Own Y H F a d) (e : H' a = H a) (s : Sub F F') : Own Y H' F' a d := by
  cases d with
  | lst ds => obtain ⟨vs, h, r⟩ := o; exact ⟨vs, e.trans h, r.mono s⟩
  | dic ds => obtain ⟨vs, h, r⟩ := o; exact ⟨vs, e.trans h, r.mono s⟩
  | _ => exact o
/-- frozen: part of F -/
theorem Own.rep {H : Hp} {a : Addr} {d : D} (o : Own Y H F a d) (s : Sub F F') (e : F' a = H a) : Rep Y F' (.ref a) d := by
  cases d with
  | lst ds => obtain ⟨vs, h, r⟩ := o; exact .lst (.inl (.inl (e.trans h))) (r.mono s)
  | dic ds => obtain ⟨vs, h, r⟩ := o; exact .dic (e.trans h) (r.mono s)
  | _ => exact o.elim
/-- borrowed: frozen, or one's own -/
def RepT (Y : Kn) (H F : Hp) (v : V) (d : D) : Prop := Rep Y F v d ∨ ∃ a, v = .ref a ∧ Own Y H F a d
end

/-! ### slots -/
inductive Sl where
  | no | fz (d : D) | ow (d : D)
abbrev Reg := List Sl
def fzAt (ρ : Reg) (i : Nat) : Option D := match ρ[i]? with
  | some (.fz d) => some d
  | _ => none
def anyAt (ρ : Reg) (i : Nat) : Option D := match ρ[i]? with
  | some (.fz d) => some d
  | some (.ow d) => some d
  | _ => none
def owAt (ρ : Reg) (i : Nat) : Option D := match ρ[i]? with
  | some (.ow d) => some d
  | _ => none
def SlOk (Y : Kn) (H F : Hp) (v : Option V) : Sl → Prop
  | .no => True
  | .fz d => ∃ x, v = some x ∧ Rep Y F x d
  | .ow d => ∃ a, v = some (.ref a) ∧ F a = none ∧ Own Y H F a d
/-- the slots hold the data; F is a part of H -/
structure R0 (Y : Kn) (H F : Hp) (σ : L2.St) (ρ : Reg) : Prop where
  sub : Sub F H
  len : σ.length = ρ.length
  at_ : ∀ (i : Nat) (s : Sl), ρ[i]? = some s → ∃ v, σ[i]? = some v ∧ SlOk Y H F v s
  sep : ∀ (i j : Nat) (d e : D) (a : Addr), ρ[i]? = some (.ow d) → ρ[j]? = some (.ow e) → σ[i]? = some (some (.ref a)) → σ[j]? = some (some (.ref a)) → i = j
/-- the heap grows; what was one's own is not frozen by it -/
structure Ext (H F H' F' : Hp) : Prop where
  h : Sub H H'
  f : Sub F F'
  s : Sub F' H'
  n : ∀ a o, H a = some o → F a = none → F' a = none
theorem Ext.refl {H F : Hp} (s : Sub F H) : Ext H F H F := ⟨Sub.refl _, Sub.refl _, s, fun _ _ _ e => e⟩
theorem Ext.trans {H F H1 F1 H2 F2 : Hp} (a : Ext H F H1 F1) (b : Ext H1 F1 H2 F2) : Ext H F H2 F2 :=
  ⟨a.h.trans b.h, a.f.trans b.f, b.s, fun p o h e => b.n p o (a.h p o h) (a.n p o h e)⟩
section
variable {Y : Kn} {H F H' F' : Hp} {σ : L2.St} {ρ : Reg}
theorem Own.some_ {a : Addr} {d : D} (o : Own Y H F a d) : ∃ u, H a = some u := by
  cases d with
  | lst ds => obtain ⟨vs, h, r⟩ := o; exact ⟨_, h⟩
  | dic ds => obtain ⟨vs, h, r⟩ := o; exact ⟨_, h⟩
  | _ => exact o.elim
theorem Own.ext {a : Addr} {d : D} (o : Own Y H F a d) (x : Ext H F H' F') : Own Y H' F' a d := by
  obtain ⟨u, hu⟩ := o.some_
  exact o.mono ((x.h _ _ hu).trans hu.symm) x.f
theorem RepT.ext {v : V} {d : D} (r : RepT Y H F v d) (x : Ext H F H' F') : RepT Y H' F' v d := by
  rcases r with r | ⟨a, e, o⟩
  · exact .inl (r.mono x.f)
  · exact .inr ⟨a, e, o.ext x⟩
theorem SlOk.ext {v : Option V} {s : Sl} (k : SlOk Y H F v s) (x : Ext H F H' F') : SlOk Y H' F' v s := by
  cases s with
  | no => exact trivial
  | fz d => obtain ⟨y, e, r⟩ := k; exact ⟨y, e, r.mono x.f⟩
  | ow d =>
    obtain ⟨a, e, n, o⟩ := k
    obtain ⟨u, hu⟩ := o.some_
    exact ⟨a, e, x.n _ _ hu n, o.ext x⟩
theorem R0.ext (r : R0 Y H F σ ρ) (x : Ext H F H' F') : R0 Y H' F' σ ρ :=
  ⟨x.s, r.len, fun i s e => let ⟨v, h1, h2⟩ := r.at_ i s e; ⟨v, h1, h2.ext x⟩, r.sep⟩
theorem R0.fz (r : R0 Y H F σ ρ) {i : Nat} {d : D} (e : fzAt ρ i = some d) : ∃ v, σ[i]? = some (some v) ∧ Rep Y F v d := by
  unfold fzAt at e
  cases q : ρ[i]? with
  | none => rw [q] at e; cases e
  | some s =>
    rw [q] at e
    cases s with
    | no => cases e
    | ow _ => cases e
    | fz d' =>
      cases e
      obtain ⟨v, h1, x, h2, h3⟩ := r.at_ i _ q
      subst h2
      exact ⟨x, h1, h3⟩
theorem R0.any (r : R0 Y H F σ ρ) {i : Nat} {d : D} (e : anyAt ρ i = some d) : ∃ v, σ[i]? = some (some v) ∧ RepT Y H F v d := by
  unfold anyAt at e
  cases q : ρ[i]? with
  | none => rw [q] at e; cases e
  | some s =>
    rw [q] at e
    cases s with
    | no => cases e
    | ow d' =>
      cases e
      obtain ⟨v, h1, a, h2, h3, h4⟩ := r.at_ i _ q
      subst h2
      exact ⟨.ref a, h1, .inr ⟨a, rfl, h4⟩⟩
    | fz d' =>
      cases e
      obtain ⟨v, h1, x, h2, h3⟩ := r.at_ i _ q
      subst h2
      exact ⟨x, h1, .inl h3⟩
theorem R0.ow (r : R0 Y H F σ ρ) {i : Nat} {d : D} (e : owAt ρ i = some d) : ∃ a, σ[i]? = some (some (.ref a)) ∧ F a = none ∧ Own Y H F a d ∧ ρ[i]? = some (.ow d) := by
  unfold owAt at e
  cases q : ρ[i]? with
  | none => rw [q] at e; cases e
  | some s =>
    rw [q] at e
    cases s with
    | no => cases e
    | fz _ => cases e
    | ow d' =>
      cases e
      obtain ⟨v, h1, a, h2, h3, h4⟩ := r.at_ i _ q
      subst h2
      exact ⟨a, h1, h3, h4, rfl⟩
/-- a list, borrowed -/
theorem RepT.lst {v : V} {ds : List D} (r : RepT Y H F v (.lst ds)) (s : Sub F H) : ∃ a vs, v = .ref a ∧ SqL Y.K H a vs ∧ Reps Y F vs ds := by
  rcases r with r | ⟨a, e, vs, h, r⟩
  · cases r with
    | lst h r => exact ⟨_, _, rfl, sqL_sub s h, r⟩
  · exact ⟨a, vs, e, .inl (.inl h), r⟩
theorem RepT.tup {v : V} {ds : List D} (r : RepT Y H F v (.tup ds)) (s : Sub F H) : ∃ a vs, v = .ref a ∧ SqT Y.K H a vs ∧ Reps Y F vs ds := by
  rcases r with r | ⟨a, e, h⟩
  · cases r with
    | tup h r => exact ⟨_, _, rfl, sqT_sub s h, r⟩
  · exact h.elim
theorem RepT.int {v : V} {i : Int} (r : RepT Y H F v (.int i)) : v = .int i := by
  rcases r with r | ⟨a, e, h⟩
  · cases r; rfl
  · exact h.elim
theorem RepT.bl {v : V} {i : Bool} (r : RepT Y H F v (.bl i)) : v = .bl i := by
  rcases r with r | ⟨a, e, h⟩
  · cases r; rfl
  · exact h.elim
theorem RepT.non {v : V} (r : RepT Y H F v .non) : v = .non := by
  rcases r with r | ⟨a, e, h⟩
  · cases r; rfl
  · exact h.elim
theorem RepT.str {v : V} {l : List Nat} (r : RepT Y H F v (.str l)) : ∃ z, v = .str z ∧ tl z = l := by
  rcases r with r | ⟨a, e, h⟩
  · cases r; exact ⟨_, rfl, rfl⟩
  · exact h.elim
theorem RepT.isNon {v : V} {d : D} (r : RepT Y H F v d) : decide (v = V.non) = (match d with | .non => true | _ => false) := by
  rcases r with r | ⟨a, e, h⟩
  · cases r <;> simp
  · subst e
    cases d <;> first | exact h.elim | simp
end

/-! ### judgements -/
def EvE (Y : Kn) (t : TE) (f : Reg → Option D) : Prop := ∀ (σ : L2.St) (H F : Hp) (ρ : Reg) (d : D) (Q : VK), R0 Y H F σ ρ → f ρ = some d → (∀ v H' F', Ext H F H' F' → Rep Y F' v d → Q v H') → t σ H Q
def EvB (Y : Kn) (t : TE) (f : Reg → Option D) : Prop := ∀ (σ : L2.St) (H F : Hp) (ρ : Reg) (d : D) (Q : VK), R0 Y H F σ ρ → f ρ = some d → (∀ v H' F', Ext H F H' F' → RepT Y H' F' v d → Q v H') → t σ H Q
def EvN (Y : Kn) (t : TE) (f : Reg → Option D) : Prop := ∀ (σ : L2.St) (H F : Hp) (ρ : Reg) (d : D) (Q : VK), R0 Y H F σ ρ → f ρ = some d → (∀ a H' F', Ext H F H' F' → H a = none → F' a = none → Own Y H' F' a d → Q (.ref a) H') → t σ H Q
def EvT (Y : Kn) (t : TT) (f : Reg → Option Bool) : Prop := ∀ (σ : L2.St) (H F : Hp) (ρ : Reg) (b : Bool) (Q : Bool → Hp → Prop), R0 Y H F σ ρ → f ρ = some b → (∀ H' F', Ext H F H' F' → Q b H') → t σ H Q
def EvA (Y : Kn) (t : TA) (f : Reg → Option (List D)) : Prop := ∀ (σ : L2.St) (H F : Hp) (ρ : Reg) (ds : List D) (Q : List V → Hp → Prop), R0 Y H F σ ρ → f ρ = some ds → (∀ vs H' F', Ext H F H' F' → Reps Y F' vs ds → Q vs H') → t σ H Q
/-- an expression whose value is frozen data -/
structure DE (X : Cx) (e : Expr) (t : TE) (f : Reg → Option D) : Prop where
  p : PE X e t
  q : EvE (kn X) t f
/-- .. borrowed -/
structure DB (X : Cx) (e : Expr) (t : TE) (f : Reg → Option D) : Prop where
  p : PE X e t
  q : EvB (kn X) t f
/-- .. a new list or dict -/
structure DN (X : Cx) (e : Expr) (t : TE) (f : Reg → Option D) : Prop where
  p : PE X e t
  q : EvN (kn X) t f
structure DT (X : Cx) (e : Expr) (t : TT) (f : Reg → Option Bool) : Prop where
  p : PT X e t
  q : EvT (kn X) t f
structure DA (X : Cx) (es : List Expr) (t : TA) (f : Reg → Option (List D)) : Prop where
  p : PA X es t
  q : EvA (kn X) t f
  len : ∀ ρ ds, f ρ = some ds → ds.length = es.length
section
variable {X : Cx} {e a b : Expr} {es : List Expr} {f g : Reg → Option D} {pos : Pos} {t ta tb : TE}
theorem DE.toB (h : DE X e t f) : DB X e t f := ⟨h.p, fun σ H F ρ d Q r e k => h.q σ H F ρ d Q r e fun v H' F' x y => k v H' F' x (.inl y)⟩
/-- freeze an address -/
def frz1 (H F : Hp) (a : Addr) : Hp := fun b => if b = a then H a else F b
theorem frz1_sub {H F : Hp} {a : Addr} (n : F a = none) : Sub F (frz1 H F a) := fun b o e => by
  unfold frz1
  by_cases h : b = a
  · subst h; rw [n] at e; cases e
  · rw [if_neg h]; exact e
theorem frz1_in {H F : Hp} {a : Addr} (s : Sub F H) : Sub (frz1 H F a) H := fun b o e => by
  unfold frz1 at e
  by_cases h : b = a
  · subst h; rw [if_pos rfl] at e; exact e
  · rw [if_neg h] at e; exact s b o e
theorem DN.toE (h : DN X e t f) : DE X e t f := by
  refine ⟨h.p, fun σ H F ρ d Q r e k => h.q σ H F ρ d Q r e fun a H' F' x n0 n1 o => ?_⟩
  refine k (.ref a) H' (frz1 H' F' a) ⟨x.h, x.f.trans (frz1_sub n1), frz1_in x.s, fun b u hb nb => ?_⟩ (o.rep (frz1_sub n1) (if_pos rfl))
  unfold frz1
  by_cases hh : b = a
  · subst hh; rw [n0] at hb; cases hb
  · rw [if_neg hh]; exact x.n b u hb nb
theorem DN.toB (h : DN X e t f) : DB X e t f := h.toE.toB

/-! ### names, constants -/
theorem de_var (i : Nat) {x : Str} (hN : X.N[i]? = some x := by rfl) (hv : Vis X.env.scope x := by first | exact Or.inl rfl | exact Or.inr (Or.inl rfl) | exact Or.inr (Or.inr rfl)) (hd : (x == ("__debug__" : Str)) = false := by decide)
    (hcd : (x == ("__classdict__" : Str)) = false := by decide) : DE X (.Name x pos) (tVar i) (fun ρ => fzAt ρ i) :=
  ⟨pe_var hN hv hd hcd, fun σ H F ρ d Q r e k => let ⟨v, h1, h2⟩ := r.fz e; ⟨v, h1, k v H F (.refl r.sub) h2⟩⟩
theorem db_var (i : Nat) {x : Str} (hN : X.N[i]? = some x := by rfl) (hv : Vis X.env.scope x := by first | exact Or.inl rfl | exact Or.inr (Or.inl rfl) | exact Or.inr (Or.inr rfl)) (hd : (x == ("__debug__" : Str)) = false := by decide)
    (hcd : (x == ("__classdict__" : Str)) = false := by decide) : DB X (.Name x pos) (tVar i) (fun ρ => anyAt ρ i) :=
  ⟨pe_var hN hv hd hcd, fun σ H F ρ d Q r e k => let ⟨v, h1, h2⟩ := r.any e; ⟨v, h1, k v H F (.refl r.sub) h2⟩⟩
def lit (s : String) : List Nat := s.toList.map Char.toNat
theorem de_int {i : Int} {j : Nat} : DE X (.Constant (.int i) j pos) (tC (.int i)) (fun _ => some (.int i)) := ⟨pe_int, fun σ H F ρ d Q r e k => by cases e; exact k _ H F (.refl r.sub) (.int i)⟩
theorem de_bl {i : Bool} {j : Nat} : DE X (.Constant (.bool i) j pos) (tC (.bl i)) (fun _ => some (.bl i)) := ⟨pe_bl, fun σ H F ρ d Q r e k => by cases e; exact k _ H F (.refl r.sub) (.bl i)⟩
theorem de_non {j : Nat} : DE X (.Constant .none j pos) (tC .non) (fun _ => some .non) := ⟨pe_non, fun σ H F ρ d Q r e k => by cases e; exact k _ H F (.refl r.sub) .non⟩
theorem rep_lit {Y : Kn} {F : Hp} (s : String) : Rep Y F (.str (Str.ofString s)) (.str (lit s)) := by
  have e : tl (Str.ofString s) = lit s := tl_ofString s
  rw [← e]
  exact .str _
theorem de_str {s : String} {j : Nat} : DE X (.Constant (.str (Str.ofString s)) j pos) (tC (.str (Str.ofString s))) (fun _ => some (.str (lit s))) := ⟨pe_str, fun σ H F ρ d Q r e k => by cases e; exact k _ H F (.refl r.sub) (rep_lit s)⟩

/-! ### arguments -/
def consA (f : Reg → Option D) (fs : Reg → Option (List D)) : Reg → Option (List D) := fun ρ => (f ρ).bind fun d => (fs ρ).bind fun ds => some (d :: ds)
theorem da_nil : DA X [] tNil (fun _ => some []) := ⟨pa_nil, fun σ H F ρ d Q r e k => by cases e; exact k _ H F (.refl r.sub) .nil, fun ρ ds e => by cases e; rfl⟩
theorem da_cons {fs : Reg → Option (List D)} {ts : TA} (h : DE X e t f) (hs : DA X es ts fs) (hst : starEach (e :: es) X.env = (false, eval e X.env) :: starEach es X.env := by rfl) :
    DA X (e :: es) (tCons t ts) (consA f fs) := by
  refine ⟨pa_cons h.p hs.p hst, fun σ H F ρ d Q r e k => ?_, fun ρ ds e => ?_⟩
  · obtain ⟨d1, e1, e⟩ := Option.bind_eq_some_iff.mp e
    obtain ⟨d2, e2, e⟩ := Option.bind_eq_some_iff.mp e
    cases e
    refine h.q σ H F ρ d1 _ r e1 fun v H1 F1 x1 r1 => ?_
    exact hs.q σ H1 F1 ρ d2 _ (r.ext x1) e2 fun vs H2 F2 x2 r2 => k _ H2 F2 (x1.trans x2) (.cons (r1.mono x2.f) r2)
  · obtain ⟨d1, e1, e⟩ := Option.bind_eq_some_iff.mp e
    obtain ⟨d2, e2, e⟩ := Option.bind_eq_some_iff.mp e
    cases e
    rw [List.length_cons, List.length_cons, hs.len ρ d2 e2]

/-! ### displays -/
theorem upd_sub {H : Hp} {p : Addr} {o : HO} (n : H p = none) : Sub H (upd H p o) := fun b u e => by rw [upd_ne (ne_of_none e n)]; exact e
/-- a new object stands at p, not frozen -/
theorem ext_new {H F : Hp} {p : Addr} {o : HO} (s : Sub F H) (n : H p = none) : Ext H F (upd H p o) F :=
  ⟨upd_sub n, Sub.refl _, s.trans (upd_sub n), fun _ _ _ e => e⟩
theorem none_of_sub {F H : Hp} {p : Addr} (s : Sub F H) (n : H p = none) : F p = none := by
  cases e : F p with
  | none => rfl
  | some u => rw [s p u e] at n; cases n
/-- .. frozen -/
theorem ext_newF {H F : Hp} {p : Addr} {o : HO} (s : Sub F H) (n : H p = none) : Ext H F (upd H p o) (upd F p o) := by
  have n1 : F p = none := none_of_sub s n
  refine ⟨upd_sub n, upd_sub n1, fun b u e => ?_, fun b u hb nb => ?_⟩
  · by_cases h : b = p
    · subst h; rw [upd_same] at e ⊢; exact e
    · rw [upd_ne h] at e ⊢; exact s b u e
  · rw [upd_ne (ne_of_none hb n)]; exact nb
def lstV (fs : Reg → Option (List D)) : Reg → Option D := fun ρ => (fs ρ).bind fun ds => some (.lst ds)
def tupV (fs : Reg → Option (List D)) : Reg → Option D := fun ρ => (fs ρ).bind fun ds => some (.tup ds)
theorem dn_lst {fs : Reg → Option (List D)} {ts : TA} (hs : DA X es ts fs) (hz : es.length ≤ sizeLine := by decide) : DN X (.List es pos) (tLst ts) (lstV fs) := by
  refine ⟨pe_lst hs.p, fun σ H F ρ d Q r e k => ?_⟩
  obtain ⟨ds, e1, e⟩ := Option.bind_eq_some_iff.mp e
  cases e
  refine hs.q σ H F ρ ds _ r e1 fun vs H1 F1 x1 r1 => ⟨by rw [r1.length, hs.len ρ ds e1]; exact hz, fun p hp => ?_⟩
  have n0 : H p = none := none_of_sub x1.h hp
  exact k p _ F1 (x1.trans (ext_new x1.s hp)) n0 (none_of_sub x1.s hp) ⟨vs, upd_same, r1⟩
theorem de_tup {fs : Reg → Option (List D)} {j : Nat} {ts : TA} (hs : DA X es ts fs) (hz : es.length ≤ sizeLine := by decide) : DE X (.Tuple es j pos) (tTup ts) (tupV fs) := by
  refine ⟨pe_tup hs.p, fun σ H F ρ d Q r e k => ?_⟩
  obtain ⟨ds, e1, e⟩ := Option.bind_eq_some_iff.mp e
  cases e
  refine hs.q σ H F ρ ds _ r e1 fun vs H1 F1 x1 r1 => ⟨by rw [r1.length, hs.len ρ ds e1]; exact hz, fun p hp => ?_⟩
  have x2 := ext_newF (o := .tup vs) x1.s hp
  exact k (.ref p) _ _ (x1.trans x2) (.tup (.inl (.inl upd_same)) (r1.mono x2.f))

/-! ### operators -/
/-- two borrowed operands -/
theorem two {r : R2} (qa : EvB (kn X) ta f) (qb : EvB (kn X) tb g) {σ : L2.St} {H F : Hp} {ρ : Reg} {da db : D} {Q : VK} (r0 : R0 (kn X) H F σ ρ) (ea : f ρ = some da) (eb : g ρ = some db)
    (k : ∀ x y H' F', Ext H F H' F' → RepT (kn X) H' F' x da → RepT (kn X) H' F' y db → r x y H' Q) : tOp r ta tb σ H Q := by
  refine qa σ H F ρ da _ r0 ea fun x H1 F1 x1 r1 => ?_
  exact qb σ H1 F1 ρ db _ (r0.ext x1) eb fun y H2 F2 x2 r2 => k x y H2 F2 (x1.trans x2) (r1.ext x2) r2
/-- what a two-place rule gives on data: frozen -/
def RdE (Y : Kn) (r : R2) (g : D → D → Option D) : Prop := ∀ (H F : Hp) (x y : V) (da db d : D) (Q : VK), Sub F H → RepT Y H F x da → RepT Y H F y db → g da db = some d → (∀ v H' F', Ext H F H' F' → Rep Y F' v d → Q v H') → r x y H Q
def RdN (Y : Kn) (r : R2) (g : D → D → Option D) : Prop := ∀ (H F : Hp) (x y : V) (da db d : D) (Q : VK), Sub F H → RepT Y H F x da → RepT Y H F y db → g da db = some d →
  (∀ a H' F', Ext H F H' F' → H a = none → F' a = none → Own Y H' F' a d → Q (.ref a) H') → r x y H Q
def bin2 (f g : Reg → Option D) (h : D → D → Option D) : Reg → Option D := fun ρ => (f ρ).bind fun x => (g ρ).bind fun y => h x y
theorem bin2_some {f g : Reg → Option D} {h : D → D → Option D} {ρ : Reg} {d : D} (e : bin2 f g h ρ = some d) : ∃ x y, f ρ = some x ∧ g ρ = some y ∧ h x y = some d := by
  obtain ⟨x, e1, e⟩ := Option.bind_eq_some_iff.mp e
  obtain ⟨y, e2, e⟩ := Option.bind_eq_some_iff.mp e
  exact ⟨x, y, e1, e2, e⟩
theorem de_op {op : Operator} {r : R2} {h : D → D → Option D} (ho : OpR X (binaryOp op) r) (hr : RdE (kn X) r h) (ha : DB X a ta f) (hb : DB X b tb g) : DE X (.BinOp a op b pos) (tOp r ta tb) (bin2 f g h) := by
  refine ⟨pe_op ho ha.p hb.p, fun σ H F ρ d Q r0 e k => ?_⟩
  obtain ⟨x, y, e1, e2, e3⟩ := bin2_some e
  exact two (r := r) ha.q hb.q r0 e1 e2 fun v w H' F' x' r1 r2 => hr H' F' v w x y d Q x'.s r1 r2 e3 fun u H2 F2 x2 r3 => k u H2 F2 (x'.trans x2) r3
theorem dn_op {op : Operator} {r : R2} {h : D → D → Option D} (ho : OpR X (binaryOp op) r) (hr : RdN (kn X) r h) (ha : DB X a ta f) (hb : DB X b tb g) : DN X (.BinOp a op b pos) (tOp r ta tb) (bin2 f g h) := by
  refine ⟨pe_op ho ha.p hb.p, fun σ H F ρ d Q r0 e k => ?_⟩
  obtain ⟨x, y, e1, e2, e3⟩ := bin2_some e
  exact two (r := r) ha.q hb.q r0 e1 e2 fun v w H' F' x' r1 r2 => hr H' F' v w x y d Q x'.s r1 r2 e3 fun u H2 F2 x2 n0 n1 o => k u H2 F2 (x'.trans x2) (none_of_sub x'.h n0) n1 o
/-- what a two-place rule gives on data: a bool -/
def RdT (Y : Kn) (r : R2) (g : D → D → Option Bool) : Prop := ∀ (H F : Hp) (x y : V) (da db : D) (c : Bool) (Q : VK), Sub F H → RepT Y H F x da → RepT Y H F y db → g da db = some c → Q (.bl c) H → r x y H Q
def cmp2 (f g : Reg → Option D) (h : D → D → Option Bool) : Reg → Option Bool := fun ρ => (f ρ).bind fun x => (g ρ).bind fun y => h x y
theorem cmp2_some {f g : Reg → Option D} {h : D → D → Option Bool} {ρ : Reg} {d : Bool} (e : cmp2 f g h ρ = some d) : ∃ x y, f ρ = some x ∧ g ρ = some y ∧ h x y = some d := by
  obtain ⟨x, e1, e⟩ := Option.bind_eq_some_iff.mp e
  obtain ⟨y, e2, e⟩ := Option.bind_eq_some_iff.mp e
  exact ⟨x, y, e1, e2, e⟩
def bV (f : Reg → Option Bool) : Reg → Option D := fun ρ => (f ρ).bind fun c => some (.bl c)
theorem dt_cmp {op : CmpOp} {r : R2} {h : D → D → Option Bool} (ho : OpR X (compareOp op) r) (hr : RdT (kn X) r h) (hm : behindInMarks op b = false) (ha : DB X a ta f) (hb : DB X b tb g) : DT X (.Compare a [op] [b] pos) (tTest (tOp r ta tb)) (cmp2 f g h) := by
  refine ⟨pt_cmpR ho ha.p hb.p hm, fun σ H F ρ c Q r0 e k => ?_⟩
  obtain ⟨x, y, e1, e2, e3⟩ := cmp2_some e
  exact two (r := r) ha.q hb.q r0 e1 e2 fun v w H' F' x' r1 r2 => hr H' F' v w x y c _ x'.s r1 r2 e3 ⟨c, rfl, k H' F' x'⟩
theorem de_cmp {op : CmpOp} {r : R2} {h : D → D → Option Bool} (ho : OpR X (compareOp op) r) (hr : RdT (kn X) r h) (hm : behindInMarks op b = false) (ha : DB X a ta f) (hb : DB X b tb g) : DE X (.Compare a [op] [b] pos) (tOp r ta tb) (bV (cmp2 f g h)) := by
  refine ⟨pe_cmpR ho ha.p hb.p hm, fun σ H F ρ d Q r0 e k => ?_⟩
  obtain ⟨c, e0, e'⟩ := Option.bind_eq_some_iff.mp e
  cases e'
  obtain ⟨x, y, e1, e2, e3⟩ := cmp2_some e0
  exact two (r := r) ha.q hb.q r0 e1 e2 fun v w H' F' x' r1 r2 => hr H' F' v w x y c _ x'.s r1 r2 e3 (k _ H' F' x' (.bl c))
end
end DL

/-! DL, statements: outcomes, blocks, assignments, loops, comprehensions, a def's promise. -/
namespace DL
open PySem PySem.Spec PyProof.Rows L2
open TL (tl len_tl ext_tl tl_append tl_mk mk_tl map_tl_inj tl_ofString)
section
/-- how a statement ends -/
inductive Out where
  | nx (ρ : Reg) | rt (d : D) | bk (ρ : Reg) | ct (ρ : Reg) | bad
/-- the slots, beside the entry's heap -/
structure RS (Y : Kn) (H0 F0 H F : Hp) (σ : L2.St) (ρ : Reg) : Prop where
  r : R0 Y H F σ ρ
  x : Ext H0 F0 H F
  own : ∀ (i : Nat) (d : D) (a : Addr), ρ[i]? = some (.ow d) → σ[i]? = some (some (.ref a)) → H0 a = none
section
variable {Y : Kn} {H0 F0 H F H' F' : Hp} {σ σ' : L2.St} {ρ ρ' : Reg}
theorem RS.ext (s : RS Y H0 F0 H F σ ρ) (x : Ext H F H' F') : RS Y H0 F0 H' F' σ ρ := ⟨s.r.ext x, s.x.trans x, s.own⟩
def ownedAt (σ : L2.St) (ρ : Reg) (a : Addr) : Prop := ∃ (i : Nat) (d : D), ρ[i]? = some (Sl.ow d) ∧ σ[i]? = some (some (V.ref a))
open Classical in
/-- the heap without what is one's own -/
noncomputable def bare (H : Hp) (σ : L2.St) (ρ : Reg) : Hp := fun a => if ownedAt σ ρ a then none else H a
theorem R0.free (r : R0 Y H F σ ρ) {a : Addr} (o : ownedAt σ ρ a) : F a = none := by
  obtain ⟨i, d, h1, h2⟩ := o
  obtain ⟨v, e, b, h3, h4, h5⟩ := r.at_ i _ h1
  rw [h2] at e
  cases e
  cases h3
  exact h4
theorem R0.rebase (r : R0 Y H F σ ρ) : RS Y (bare H σ ρ) F H F σ ρ := by
  refine ⟨r, ⟨fun a o e => ?_, Sub.refl _, r.sub, fun a o e n => n⟩, fun i d a h1 h2 => if_pos ⟨i, d, h1, h2⟩⟩
  unfold bare at e
  by_cases h : ownedAt σ ρ a
  · rw [if_pos h] at e; cases e
  · rw [if_neg h] at e; exact e
theorem RS.over (s : RS Y H0 F0 H F σ ρ) : Ext H0 F0 (bare H σ ρ) F := by
  have no : ∀ a o, H0 a = some o → ¬ ownedAt σ ρ a := fun a o e h => by
    obtain ⟨i, d, h1, h2⟩ := h
    rw [s.own i d a h1 h2] at e; cases e
  refine ⟨fun a o e => ?_, s.x.f, fun a o e => ?_, s.x.n⟩
  · unfold bare; rw [if_neg (no a o e)]; exact s.x.h a o e
  · unfold bare
    by_cases h : ownedAt σ ρ a
    · rw [s.r.free h] at e; cases e
    · rw [if_neg h]; exact s.r.sub a o e
theorem RS.back {Hb : Hp} (o : Ext H0 F0 Hb F) (s : RS Y Hb F H' F' σ' ρ') : RS Y H0 F0 H' F' σ' ρ' :=
  ⟨s.r, o.trans s.x, fun i d a h1 h2 => none_of_sub o.h (s.own i d a h1 h2)⟩
end
/-- what is wanted behind, on data -/
def Post (Y : Kn) (H0 F0 : Hp) (D : Ends) : Out → Prop
  | .nx ρ => ∀ σ H F, RS Y H0 F0 H F σ ρ → D.nx σ H
  | .rt d => ∀ v H F, Ext H0 F0 H F → Rep Y F v d → D.rt v H
  | .bk ρ => ∀ σ H F, RS Y H0 F0 H F σ ρ → D.bk σ H
  | .ct ρ => ∀ σ H F, RS Y H0 F0 H F σ ρ → D.ct σ H
  | .bad => False
def EvS (Y : Kn) (t : TS) (B : Reg → Out) : Prop := ∀ (σ : L2.St) (H F : Hp) (ρ : Reg) (H0 F0 : Hp) (D : Ends), RS Y H0 F0 H F σ ρ → Post Y H0 F0 D (B ρ) → t D σ H
structure DS (X : Cx) (st : Stmt) (t : TS) (B : Reg → Out) : Prop where
  p : PS X st t
  q : EvS (kn X) t B
structure DSs (X : Cx) (sts : List Stmt) (t : TS) (B : Reg → Out) : Prop where
  p : PSs X sts t
  q : EvS (kn X) t B
/-- one behind the other -/
def sq (A B : Reg → Out) : Reg → Out := fun ρ => match A ρ with
  | .nx ρ' => B ρ'
  | o => o
def skip : Reg → Out := fun ρ => .nx ρ
section
variable {X : Cx} {st : Stmt} {rest : List Stmt} {t u : TS} {A B : Reg → Out} {e : Expr} {f : Reg → Option D} {te : TE} {pos : Pos}
theorem dss_nil : DSs X [] tNext skip := ⟨pss_nil, fun σ H F ρ H0 F0 D s h => h σ H F s⟩
theorem dss_cons (h1 : DS X st t A) (h2 : DSs X rest u B) : DSs X (st :: rest) (tSeq t u) (sq A B) := by
  refine ⟨pss_cons h1.p h2.p, fun σ H F ρ H0 F0 D s h => h1.q σ H F ρ H0 F0 _ s ?_⟩
  unfold sq at h
  cases e : A ρ with
  | nx ρ' => rw [e] at h; exact fun σ' H' F' s' => h2.q σ' H' F' ρ' H0 F0 D s' h
  | rt d => rw [e] at h; exact h
  | bk ρ' => rw [e] at h; exact h
  | ct ρ' => rw [e] at h; exact h
  | bad => rw [e] at h; exact h.elim
theorem dss_one (h1 : DS X st t A) : DSs X [st] t A := ⟨pss_one h1.p, h1.q⟩
theorem ds_pass : DS X (.Pass pos) tNext skip := ⟨ps_pass, fun σ H F ρ H0 F0 D s h => h σ H F s⟩
theorem ds_break : DS X (.Break pos) tBreak (fun ρ => .bk ρ) := ⟨ps_break, fun σ H F ρ H0 F0 D s h => h σ H F s⟩
theorem ds_continue : DS X (.Continue pos) tCont (fun ρ => .ct ρ) := ⟨ps_continue, fun σ H F ρ H0 F0 D s h => h σ H F s⟩
/-- a statement that is never reached -/
theorem ds_never : DS X st tNever (fun _ => .bad) := ⟨ps_never, fun σ H F ρ H0 F0 D s h => h⟩
theorem dss_never : DSs X rest tNever (fun _ => .bad) := ⟨pss_never, fun σ H F ρ H0 F0 D s h => h⟩
def retS (f : Reg → Option D) : Reg → Out := fun ρ => match f ρ with
  | some d => .rt d
  | none => .bad
theorem ds_ret (h : DE X e te f) : DS X (.Return (some e) pos) (tRet te) (retS f) := by
  refine ⟨ps_ret h.p, fun σ H F ρ H0 F0 D s k => ?_⟩
  unfold retS at k
  cases q : f ρ with
  | none => rw [q] at k; exact k.elim
  | some d =>
    rw [q] at k
    exact h.q σ H F ρ d _ s.r q fun v H' F' x r => k v H' F' (s.x.trans x) r
theorem ds_retN : DS X (.Return none pos) tRetN (fun _ => .rt .non) := ⟨ps_retN, fun σ H F ρ H0 F0 D s h => h .non H F s.x .non⟩
def iteS (c : Reg → Option Bool) (A B : Reg → Out) : Reg → Out := fun ρ => match c ρ with
  | some true => A ρ
  | some false => B ρ
  | none => .bad
theorem ds_if {c : Expr} {a b : List Stmt} {tc : TT} {fc : Reg → Option Bool} (hc : DT X c tc fc) (ha : DSs X a t A) (hb : DSs X b u B) : DS X (.If c a b pos) (tIfS tc t u) (iteS fc A B) := by
  refine ⟨ps_if hc.p ha.p hb.p, fun σ H F ρ H0 F0 D s k => ?_⟩
  unfold iteS at k
  cases q : fc ρ with
  | none => rw [q] at k; exact k.elim
  | some c =>
    rw [q] at k
    refine hc.q σ H F ρ c _ s.r q fun H' F' x => ?_
    cases c with
    | true => exact iteT (ha.q σ H' F' ρ H0 F0 D (s.ext x) k)
    | false => exact iteF (hb.q σ H' F' ρ H0 F0 D (s.ext x) k)
def dropS (f : Reg → Option D) : Reg → Out := fun ρ => match f ρ with
  | some _ => .nx ρ
  | none => .bad
theorem ds_expr (h : DE X e te f) (hs : swapsWith e none pos.line X.env = pure false := by rfl) : DS X (.Expr e pos) (tDrop te) (dropS f) := by
  refine ⟨ps_expr h.p hs, fun σ H F ρ H0 F0 D s k => ?_⟩
  unfold dropS at k
  cases q : f ρ with
  | none => rw [q] at k; exact k.elim
  | some d =>
    rw [q] at k
    exact h.q σ H F ρ d _ s.r q fun v H' F' x r => k σ H' F' (s.ext x)
/-- freeze a slot that is one's own -/
def freeze (ρ : Reg) (i : Nat) : Reg := match ρ[i]? with
  | some (.ow d) => ρ.set i (.fz d)
  | _ => ρ
theorem Own.rep2 {Y : Kn} {H F : Hp} {a : Addr} {d : D} (o : Own Y H F a d) (n : F a = none) : Rep Y (frz1 H F a) (.ref a) d := o.rep (frz1_sub n) (if_pos rfl)
theorem RS.freeze {Y : Kn} {H0 F0 H F : Hp} {σ : L2.St} {ρ : Reg} (s : RS Y H0 F0 H F σ ρ) (i : Nat) : ∃ F', Sub F F' ∧ RS Y H0 F0 H F' σ (freeze ρ i) := by
  unfold DL.freeze
  cases q : ρ[i]? with
  | none => exact ⟨F, Sub.refl _, s⟩
  | some sl =>
    cases sl with
    | no => exact ⟨F, Sub.refl _, s⟩
    | fz _ => exact ⟨F, Sub.refl _, s⟩
    | ow d =>
      obtain ⟨v, h1, a, h2, h3, h4⟩ := s.r.at_ i _ q
      subst h2
      have hs := frz1_sub (H := H) h3
      have hi : i < ρ.length := (List.getElem?_eq_some_iff.mp q).1
      refine ⟨frz1 H F a, hs, ⟨frz1_in s.r.sub, by rw [List.length_set]; exact s.r.len, fun j sl e => ?_, fun j k d1 d2 b e1 e2 e3 e4 => ?_⟩, ⟨s.x.h, s.x.f.trans hs, frz1_in s.r.sub, fun b o hb nb => ?_⟩, fun j d1 b e1 e2 => ?_⟩
      · by_cases hj : i = j
        · subst hj
          rw [List.getElem?_set_self hi] at e
          cases e
          exact ⟨_, h1, .ref a, rfl, h4.rep2 h3⟩
        · rw [List.getElem?_set_ne hj] at e
          obtain ⟨v', g1, g2⟩ := s.r.at_ j sl e
          refine ⟨v', g1, ?_⟩
          cases sl with
          | no => trivial
          | fz d1 => obtain ⟨y, g3, g4⟩ := g2; exact ⟨y, g3, g4.mono hs⟩
          | ow d1 =>
            obtain ⟨b, g3, g4, g5⟩ := g2
            subst g3
            refine ⟨b, rfl, ?_, g5.mono rfl hs⟩
            have nb : b ≠ a := fun z => hj (s.r.sep i j d d1 a q e h1 (by rw [← z]; exact g1))
            unfold frz1
            rw [if_neg nb]; exact g4
      · by_cases hj : i = j
        · subst hj; rw [List.getElem?_set_self hi] at e1; cases e1
        · by_cases hk : i = k
          · subst hk; rw [List.getElem?_set_self hi] at e2; cases e2
          · rw [List.getElem?_set_ne hj] at e1
            rw [List.getElem?_set_ne hk] at e2
            exact s.r.sep j k d1 d2 b e1 e2 e3 e4
      · unfold frz1
        by_cases hba : b = a
        · subst hba
          have n0 : H0 b = none := s.own i d b q h1
          rw [n0] at hb; cases hb
        · rw [if_neg hba]; exact s.x.n b o hb nb
      · by_cases hj : i = j
        · subst hj; rw [List.getElem?_set_self hi] at e1; cases e1
        · rw [List.getElem?_set_ne hj] at e1
          exact s.own j d1 b e1 e2
/-- ahead of a statement a slot is frozen -/
def frzS (i : Nat) (B : Reg → Out) : Reg → Out := fun ρ => B (freeze ρ i)
theorem ds_frz (i : Nat) (h : DS X st t B) : DS X st t (frzS i B) :=
  ⟨h.p, fun σ H F ρ H0 F0 D s k => let ⟨F', _, s'⟩ := s.freeze i; h.q σ H F' (freeze ρ i) H0 F0 D s' k⟩
/-- a slot gets frozen data -/
theorem R0.setF {Y : Kn} {H F : Hp} {σ : L2.St} {ρ : Reg} (r : R0 Y H F σ ρ) (i : Nat) {v : V} {d : D} (h : Rep Y F v d) : R0 Y H F (σ.set i (some v)) (ρ.set i (.fz d)) := by
  refine ⟨r.sub, by rw [List.length_set, List.length_set]; exact r.len, fun j sl e => ?_, fun j k d1 d2 b e1 e2 e3 e4 => ?_⟩
  · by_cases hj : i = j
    · subst hj
      have hi : i < ρ.length := by have := (List.getElem?_eq_some_iff.mp e).1; rw [List.length_set] at this; exact this
      rw [List.getElem?_set_self hi] at e
      cases e
      exact ⟨some v, List.getElem?_set_self (by rw [r.len]; exact hi), v, rfl, h⟩
    · rw [List.getElem?_set_ne hj] at e ⊢
      exact r.at_ j sl e
  · by_cases hj : i = j
    · subst hj
      have hi : i < ρ.length := by have := (List.getElem?_eq_some_iff.mp e1).1; rw [List.length_set] at this; exact this
      rw [List.getElem?_set_self hi] at e1; cases e1
    · by_cases hk : i = k
      · subst hk
        have hi : i < ρ.length := by have := (List.getElem?_eq_some_iff.mp e2).1; rw [List.length_set] at this; exact this
        rw [List.getElem?_set_self hi] at e2; cases e2
      · rw [List.getElem?_set_ne hj] at e1 e3
        rw [List.getElem?_set_ne hk] at e2 e4
        exact r.sep j k d1 d2 b e1 e2 e3 e4
theorem RS.setF {Y : Kn} {H0 F0 H F : Hp} {σ : L2.St} {ρ : Reg} (s : RS Y H0 F0 H F σ ρ) (i : Nat) {v : V} {d : D} (h : Rep Y F v d) : RS Y H0 F0 H F (σ.set i (some v)) (ρ.set i (.fz d)) := by
  refine ⟨s.r.setF i h, s.x, fun j d1 b e1 e2 => ?_⟩
  by_cases hj : i = j
  · subst hj
    have hi : i < ρ.length := by have := (List.getElem?_eq_some_iff.mp e1).1; rw [List.length_set] at this; exact this
    rw [List.getElem?_set_self hi] at e1; cases e1
  · rw [List.getElem?_set_ne hj] at e1 e2
    exact s.own j d1 b e1 e2
/-- a slot gets a new list or dict -/
theorem RS.setO {Y : Kn} {H0 F0 H F H' F' : Hp} {σ : L2.St} {ρ : Reg} (s : RS Y H0 F0 H F σ ρ) (x : Ext H F H' F') (i : Nat) {a : Addr} {d : D} (n0 : H a = none) (n1 : F' a = none) (o : Own Y H' F' a d) : RS Y H0 F0 H' F' (σ.set i (some (.ref a))) (ρ.set i (.ow d)) := by
  have s' := s.ext x
  have ap : ∀ (j : Nat) (d1 : D) (b : Addr), ρ[j]? = some (.ow d1) → σ[j]? = some (some (.ref b)) → b ≠ a := fun j d1 b e1 e2 z => by
    obtain ⟨v, h1, c, h2, h3, h4⟩ := s.r.at_ j _ e1
    rw [e2] at h1
    cases h1
    cases h2
    obtain ⟨u, hu⟩ := h4.some_
    rw [z, n0] at hu; cases hu
  refine ⟨⟨s'.r.sub, by rw [List.length_set, List.length_set]; exact s.r.len, fun j sl e => ?_, fun j k d1 d2 b e1 e2 e3 e4 => ?_⟩, s'.x, fun j d1 b e1 e2 => ?_⟩
  · by_cases hj : i = j
    · subst hj
      have hi : i < ρ.length := by have := (List.getElem?_eq_some_iff.mp e).1; rw [List.length_set] at this; exact this
      rw [List.getElem?_set_self hi] at e
      cases e
      exact ⟨some (.ref a), List.getElem?_set_self (by rw [s.r.len]; exact hi), a, rfl, n1, o⟩
    · rw [List.getElem?_set_ne hj] at e ⊢
      exact s'.r.at_ j sl e
  · by_cases hj : i = j
    · subst hj
      by_cases hk : i = k
      · exact hk
      · have hi : i < σ.length := by have := (List.getElem?_eq_some_iff.mp e3).1; rw [List.length_set] at this; exact this
        rw [List.getElem?_set_self hi] at e3
        cases e3
        rw [List.getElem?_set_ne hk] at e2 e4
        exact absurd rfl (ap k d2 a e2 e4)
    · by_cases hk : i = k
      · subst hk
        have hi : i < σ.length := by have := (List.getElem?_eq_some_iff.mp e4).1; rw [List.length_set] at this; exact this
        rw [List.getElem?_set_self hi] at e4
        cases e4
        rw [List.getElem?_set_ne hj] at e1 e3
        exact absurd rfl (ap j d1 a e1 e3)
      · rw [List.getElem?_set_ne hj] at e1 e3
        rw [List.getElem?_set_ne hk] at e2 e4
        exact s.r.sep j k d1 d2 b e1 e2 e3 e4
  · by_cases hj : i = j
    · subst hj
      have hi : i < σ.length := by have := (List.getElem?_eq_some_iff.mp e2).1; rw [List.length_set] at this; exact this
      rw [List.getElem?_set_self hi] at e2
      cases e2
      exact none_of_sub s.x.h n0
    · rw [List.getElem?_set_ne hj] at e1 e2
      exact s.own j d1 b e1 e2
def setS (i : Nat) (f : Reg → Option D) : Reg → Out := fun ρ => match f ρ with
  | some d => .nx (ρ.set i (.fz d))
  | none => .bad
def setN (i : Nat) (f : Reg → Option D) : Reg → Out := fun ρ => match f ρ with
  | some d => .nx (ρ.set i (.ow d))
  | none => .bad
theorem ds_set (i : Nat) {x : Str} {pos' : Pos} (hN : X.N.Nodup) (h : DE X e te f) (hi : X.N[i]? = some x := by rfl) (hx : Loc X.env.scope x := by first | exact Or.inl rfl | exact Or.inr rfl) (hs : swapsWith e (some (.Name x pos')) pos.line X.env = pure false := by rfl)
    (hf : X.fn x = true ∨ X.env.scope.names.lookup x = some .local := by first | exact .inl rfl | exact .inr rfl) : DS X (.Assign [.Name x pos'] e pos) (tAsg te (gName i)) (setS i f) := by
  refine ⟨ps_set hN hi hx h.p hs hf, fun σ H F ρ H0 F0 D s k => ?_⟩
  unfold setS at k
  cases q : f ρ with
  | none => rw [q] at k; exact k.elim
  | some d =>
    rw [q] at k
    exact h.q σ H F ρ d _ s.r q fun v H' F' x r => k _ H' F' ((s.ext x).setF i r)
theorem ds_setN (i : Nat) {x : Str} {pos' : Pos} (hN : X.N.Nodup) (h : DN X e te f) (hi : X.N[i]? = some x := by rfl) (hx : Loc X.env.scope x := by first | exact Or.inl rfl | exact Or.inr rfl) (hs : swapsWith e (some (.Name x pos')) pos.line X.env = pure false := by rfl)
    (hf : X.fn x = true ∨ X.env.scope.names.lookup x = some .local := by first | exact .inl rfl | exact .inr rfl) : DS X (.Assign [.Name x pos'] e pos) (tAsg te (gName i)) (setN i f) := by
  refine ⟨ps_set hN hi hx h.p hs hf, fun σ H F ρ H0 F0 D s k => ?_⟩
  unfold setN at k
  cases q : f ρ with
  | none => rw [q] at k; exact k.elim
  | some d =>
    rw [q] at k
    exact h.q σ H F ρ d _ s.r q fun a H' F' x n0 n1 o => k _ H' F' (s.setO x i n0 n1 o)
/-! ### targets -/
/-- a target takes data apart; it stores in the slots is alone -/
structure DG (X : Cx) (tg : Expr) (g : TG) (h : D → Reg → Option Reg) (is : List Nat) : Prop where
  p : PG X tg g
  q : ∀ (v : V) (d : D) (σ : L2.St) (H F : Hp) (ρ ρ' : Reg) (Q : L2.St → Hp → Prop), R0 (kn X) H F σ ρ → Rep (kn X) F v d → h d ρ = some ρ' →
    (∀ σ', R0 (kn X) H F σ' ρ' → σ'.length = σ.length → (∀ j, j ∉ is → σ'[j]? = σ[j]? ∧ ρ'[j]? = ρ[j]?) → (∀ j d', ρ'[j]? = some (.ow d') → j ∉ is) → Q σ' H) → g v σ H Q
structure DGs (X : Cx) (tgs : List Expr) (g : TGs) (h : List D → Reg → Option Reg) (is : List Nat) : Prop where
  p : PGs X tgs g
  q : ∀ (vs : List V) (ds : List D) (σ : L2.St) (H F : Hp) (ρ ρ' : Reg) (Q : L2.St → Hp → Prop), R0 (kn X) H F σ ρ → Reps (kn X) F vs ds → h ds ρ = some ρ' →
    (∀ σ', R0 (kn X) H F σ' ρ' → σ'.length = σ.length → (∀ j, j ∉ is → σ'[j]? = σ[j]? ∧ ρ'[j]? = ρ[j]?) → (∀ j d', ρ'[j]? = some (.ow d') → j ∉ is) → Q σ' H) → g vs σ H Q
@[simp] def gN (i : Nat) : D → Reg → Option Reg := fun d ρ => some (ρ.set i (.fz d))
theorem dg_name (i : Nat) {x : Str} (hN : X.N.Nodup) (hi : X.N[i]? = some x := by rfl) (hx : Loc X.env.scope x := by first | exact Or.inl rfl | exact Or.inr rfl)
    (hf : X.fn x = true ∨ X.env.scope.names.lookup x = some .local := by first | exact .inl rfl | exact .inr rfl) : DG X (.Name x pos) (gName i) (gN i) [i] := by
  refine ⟨pg_name hN hi hx hf, fun v d σ H F ρ ρ' Q r h e k => ?_⟩
  cases e
  refine k _ (r.setF i h) (List.length_set ..) (fun j hj => ?_) fun j d' e hj => ?_
  · have hj : i ≠ j := fun z => hj (by simp [z])
    rw [List.getElem?_set_ne hj, List.getElem?_set_ne hj]
    exact ⟨rfl, rfl⟩
  · have hj : j = i := by simpa using hj
    subst hj
    have hi : j < ρ.length := by have := (List.getElem?_eq_some_iff.mp e).1; rw [List.length_set] at this; exact this
    rw [List.getElem?_set_self hi] at e; cases e
def gsN : List D → Reg → Option Reg
  | [], ρ => some ρ
  | _, _ => none
def gsC (g : D → Reg → Option Reg) (gs : List D → Reg → Option Reg) : List D → Reg → Option Reg
  | d :: ds, ρ => (g d ρ).bind fun ρ' => gs ds ρ'
  | [], _ => none
def gT (gs : List D → Reg → Option Reg) : D → Reg → Option Reg
  | .tup ds, ρ => gs ds ρ
  | .lst ds, ρ => gs ds ρ
  | _, _ => none
theorem dgs_nil : DGs X [] gNil gsN [] := by
  refine ⟨pgs_nil, fun vs ds σ H F ρ ρ' Q r h e k => ?_⟩
  cases ds with
  | nil => cases h; cases e; exact ⟨rfl, k σ r rfl (fun j _ => ⟨rfl, rfl⟩) fun j d' _ => by simp⟩
  | cons d ds => cases e
theorem dgs_cons {tg : Expr} {tgs : List Expr} {g : TG} {gs : TGs} {h : D → Reg → Option Reg} {hs : List D → Reg → Option Reg} {is js : List Nat} (a : DG X tg g h is) (b : DGs X tgs gs hs js)
    (he : (assignEach (tg :: tgs) X.env).map (·.2) = assign tg X.env :: (assignEach tgs X.env).map (·.2) := by rfl) : DGs X (tg :: tgs) (gCons g gs) (gsC h hs) (is ++ js) := by
  refine ⟨pgs_cons a.p b.p he, fun vs ds σ H F ρ ρ' Q r q e k => ?_⟩
  cases q with
  | nil => cases e
  | cons q1 q2 =>
    obtain ⟨ρ1, e1, e2⟩ := Option.bind_eq_some_iff.mp e
    refine ⟨_, _, rfl, a.q _ _ σ H F ρ ρ1 _ r q1 e1 fun σ1 r1 l1 k1 o1 => b.q _ _ σ1 H F ρ1 ρ' _ r1 q2 e2 fun σ2 r2 l2 k2 o2 => ?_⟩
    refine k σ2 r2 (l2.trans l1) (fun j hj => ?_) fun j d' e hj => ?_
    · simp only [List.mem_append, not_or] at hj
      exact ⟨(k2 j hj.2).1.trans (k1 j hj.1).1, (k2 j hj.2).2.trans (k1 j hj.1).2⟩
    · have nj := o2 j d' e
      rcases List.mem_append.mp hj with z | z
      · exact o1 j d' ((k2 j nj).2.symm.trans e) z
      · exact nj z
/-- (a, b, ..) = a tuple or a list of that length -/
def gTul (K : PySem.W.Frag) (n : Nat) (t : TGs) : TG := fun v σ H Q => gTup K n t v σ H Q ∨ gUnl K n t v σ H Q
theorem pg_tul {es : List Expr} {k : Nat} {t : TGs} {n : Nat} (hc : X.calm = true) (h : PGs X es t)
    (hn : (assignEach es X.env).length = n := by rfl) (hst : (assignEach es X.env).findIdx? (·.1) = none := by rfl) : PG X (.Tuple es k pos) (gTul X.K n t) :=
  ⟨fun pins s σ H v u Q I r hw => hw.elim (fun z => (pg_tup hc h hn hst).run pins s σ H v u Q I r z) fun z => (pg_unl hc h hn hst).run pins s σ H v u Q I r z⟩
theorem dgs_len {tgs : List Expr} {gs : TGs} {hs : List D → Reg → Option Reg} {js : List Nat} (b : DGs X tgs gs hs js) : True := trivial
theorem dg_tup {tgs : List Expr} {j : Nat} {gs : TGs} {hs : List D → Reg → Option Reg} {js : List Nat} (n : Nat) (hc : X.calm = true) (b : DGs X tgs gs hs js) (hl : ∀ ds ρ ρ', hs ds ρ = some ρ' → ds.length = n)
    (hn : (assignEach tgs X.env).length = n := by rfl) (hst : (assignEach tgs X.env).findIdx? (·.1) = none := by rfl) : DG X (.Tuple tgs j pos) (gTul X.K n gs) (gT hs) js := by
  refine ⟨pg_tul hc b.p hn hst, fun v d σ H F ρ ρ' Q r h e k => ?_⟩
  cases h with
  | tup q1 q2 => exact .inl ⟨_, _, rfl, sqT_sub r.sub q1, by rw [q2.length]; exact hl _ _ _ e, b.q _ _ σ H F ρ ρ' Q r q2 e k⟩
  | lst q1 q2 => exact .inr ⟨_, _, rfl, sqL_sub r.sub q1, by rw [q2.length]; exact hl _ _ _ e, b.q _ _ σ H F ρ ρ' Q r q2 e k⟩
  | _ => cases e
theorem gsN_len : ∀ ds ρ ρ', gsN ds ρ = some ρ' → ds.length = 0
  | [], _, _, _ => rfl
  | _ :: _, _, _, e => by cases e
theorem gsC_len {g : D → Reg → Option Reg} {gs : List D → Reg → Option Reg} {n : Nat} (h : ∀ ds ρ ρ', gs ds ρ = some ρ' → ds.length = n) : ∀ ds ρ ρ', gsC g gs ds ρ = some ρ' → ds.length = n + 1
  | [], _, _, e => by cases e
  | d :: ds, ρ, ρ', e => by
    obtain ⟨ρ1, e1, e2⟩ := Option.bind_eq_some_iff.mp e
    rw [List.length_cons, h ds ρ1 ρ' e2]
theorem DG.rs {tg : Expr} {g : TG} {h : D → Reg → Option Reg} {is : List Nat} (a : DG X tg g h is) {v : V} {d : D} {σ : L2.St} {H0 F0 H F : Hp} {ρ ρ' : Reg} {Q : L2.St → Hp → Prop} (s : RS (kn X) H0 F0 H F σ ρ) (r : Rep (kn X) F v d) (e : h d ρ = some ρ')
    (k : ∀ σ', RS (kn X) H0 F0 H F σ' ρ' → Q σ' H) : g v σ H Q := by
  refine a.q v d σ H F ρ ρ' Q s.r r e fun σ' r' l k' o => k σ' ⟨r', s.x, fun j d1 b e1 e2 => ?_⟩
  have nj := o j d1 e1
  rw [(k' j nj).1] at e2
  rw [(k' j nj).2] at e1
  exact s.own j d1 b e1 e2
/-- target = e, any target -/
def asgS (f : Reg → Option D) (h : D → Reg → Option Reg) : Reg → Out := fun ρ => match (f ρ).bind fun d => h d ρ with
  | some ρ' => .nx ρ'
  | none => .bad
theorem ds_asg {tg : Expr} {g : TG} {h : D → Reg → Option Reg} {is : List Nat} (he : DE X e te f) (hg : DG X tg g h is) (hs : swapsWithSole [tg] e pos.line X.env = pure false := by rfl) (hw : swappedStores [tg] e X.env = pure none := by rfl)
    (h1 : (assignEach [tg] X.env).map (·.2) = [assign tg X.env] := by rfl) : DS X (.Assign [tg] e pos) (tAsg te g) (asgS f h) := by
  refine ⟨ps_asg he.p hg.p hs hw h1, fun σ H F ρ H0 F0 D s k => ?_⟩
  unfold asgS at k
  cases q : (f ρ).bind fun d => h d ρ with
  | none => rw [q] at k; exact k.elim
  | some ρ' =>
    rw [q] at k
    obtain ⟨d, e1, e2⟩ := Option.bind_eq_some_iff.mp q
    exact he.q σ H F ρ d _ s.r e1 fun v H' F' x r => hg.rs (s.ext x) r e2 fun σ' s' => k σ' H' F' s'
end
end
end DL

/-! DL, loops: what is walked, for, while, comprehensions; calls and a def's promise. -/
namespace DL
open PySem PySem.Spec PyProof.Rows L2
open TL (tl len_tl ext_tl tl_append tl_mk mk_tl map_tl_inj tl_ofString)
section
/-- the iterator yields the data ds, while the frozen part F1 is kept -/
structure Wlk (Y : Kn) (J : It) (F1 : Hp) (ds : List D) : Prop where
  go : ∀ (i : Nat) (H F : Hp), i < ds.length → Sub F1 F → Sub F H → J.go i H
  stop : ∀ (H F : Hp), Sub F1 F → Sub F H → J.stop ds.length H
  yld : ∀ (i : Nat) (H F : Hp) (x : V) (H' : Hp) (d : D), ds[i]? = some d → Sub F1 F → Sub F H → J.yld i H x H' → ∃ F', Ext H F H' F' ∧ Rep Y F' x d
structure DI (X : Cx) (tg iter : Expr) (wi : TI) (f : Reg → Option (List D)) : Prop where
  p : PI X tg iter wi
  q : ∀ (σ : L2.St) (H F : Hp) (ρ : Reg) (ds : List D) (R : It → Hp → Prop), R0 (kn X) H F σ ρ → f ρ = some ds → (∀ J H' F', Ext H F H' F' → Wlk (kn X) J F' ds → R J H') → wi σ H R
/-- the rest of a for -/
def loopD (g : D → Reg → Option Reg) (B : Reg → Out) : List D → Reg → Out
  | [], ρ => .nx ρ
  | d :: ds, ρ => match g d ρ with
    | none => .bad
    | some ρ1 => match B ρ1 with
      | .nx ρ2 => loopD g B ds ρ2
      | .ct ρ2 => loopD g B ds ρ2
      | .bk ρ2 => .nx ρ2
      | .rt d => .rt d
      | .bad => .bad
def forS (f : Reg → Option (List D)) (g : D → Reg → Option Reg) (B : Reg → Out) : Reg → Out := fun ρ => match f ρ with
  | none => .bad
  | some ds => loopD g B ds ρ
section
variable {X : Cx} {st : Stmt} {t u : TS} {A B : Reg → Out} {tg iter e : Expr} {f : Reg → Option D} {te : TE} {pos : Pos} {body : List Stmt}
theorem ds_for {wi : TI} {fs : Reg → Option (List D)} {g : TG} {h : D → Reg → Option Reg} {is : List Nat} (hp : PassesOwn (model X.prog X.w) X.A X.env X.xe) (hc : X.calm = true) (hi : DI X tg iter wi fs) (hg : DG X tg g h is) (hb : DSs X body t B)
    (hs : ∀ x, foldedSetIterable iter X.env x = pure x := by intro _; rfl) : DS X (.For tg iter body [] pos) (tFor wi g t) (forS fs h B) := by
  refine ⟨ps_for hp hc hi.p hg.p hb.p hs, fun σ H F ρ H0 F0 D0 s k => ?_⟩
  unfold forS at k
  cases q : fs ρ with
  | none => rw [q] at k; exact k.elim
  | some ds =>
    rw [q] at k
    refine hi.q σ H F ρ ds _ s.r q fun J H1 F1 x1 wk => ?_
    refine ⟨fun i m σ H => m = ds.length - i ∧ i ≤ ds.length ∧ ∃ F ρ, RS (kn X) H0 F0 H F σ ρ ∧ Sub F1 F ∧ Post (kn X) H0 F0 D0 (loopD h B (ds.drop i) ρ), ⟨ds.length, by simp, Nat.zero_le _, F1, ρ, s.ext x1, Sub.refl _, k⟩, ?_⟩
    rintro i m σ H ⟨rfl, hil, F, ρ, s, hF, k⟩
    by_cases hlt : i < ds.length
    · refine .inr ⟨wk.go i H F hlt hF s.r.sub, fun σ' H' => ∃ F' ρ', RS (kn X) H0 F0 H' F' σ' ρ' ∧ Sub F1 F' ∧ Post (kn X) H0 F0 D0 (loopD h B (ds.drop (i + 1)) ρ'), ?_, ?_⟩
      · rintro σ' H' ⟨F', ρ', s', hF', k'⟩
        exact ⟨ds.length - (i + 1), by omega, rfl, hlt, F', ρ', s', hF', k'⟩
      · intro x H' y
        obtain ⟨F2, x2, r2⟩ := wk.yld i H F x H' ds[i] (List.getElem?_eq_getElem hlt) hF s.r.sub y
        rw [List.drop_eq_getElem_cons hlt] at k
        unfold loopD at k
        cases eg : h ds[i] ρ with
        | none => rw [eg] at k; exact k.elim
        | some ρ1 =>
          rw [eg] at k
          dsimp only at k
          refine hg.rs (s.ext x2) r2 eg fun σ3 s3 => ?_
          have o := s3.over
          refine hb.q σ3 H' F2 ρ1 (bare H' σ3 ρ1) F2 _ s3.r.rebase ?_
          cases eb : B ρ1 with
          | nx ρ2 =>
            rw [eb] at k
            exact fun σ4 H4 F4 s4 => ⟨F4, ρ2, s4.back o, (hF.trans x2.f).trans s4.x.f, k⟩
          | ct ρ2 =>
            rw [eb] at k
            exact fun σ4 H4 F4 s4 => ⟨F4, ρ2, s4.back o, (hF.trans x2.f).trans s4.x.f, k⟩
          | bk ρ2 =>
            rw [eb] at k
            exact fun σ4 H4 F4 s4 => k σ4 H4 F4 (s4.back o)
          | rt d =>
            rw [eb] at k
            exact fun v H4 F4 x4 r4 => k v H4 F4 (o.trans x4) r4
          | bad => rw [eb] at k; exact k.elim
    · have e : i = ds.length := by omega
      subst e
      refine .inl ⟨wk.stop H F hF s.r.sub, ?_⟩
      rw [List.drop_length] at k
      exact k σ H F s
/-! ### while -/
def whileD (c : Reg → Option Bool) (B : Reg → Out) : Nat → Reg → Out
  | 0, _ => .bad
  | n + 1, ρ => match c ρ with
    | none => .bad
    | some false => .nx ρ
    | some true => match B ρ with
      | .nx ρ2 => whileD c B n ρ2
      | .ct ρ2 => whileD c B n ρ2
      | .bk ρ2 => .nx ρ2
      | .rt d => .rt d
      | .bad => .bad
/-- turns enough -/
def manyN : Nat := 1000000000
theorem ds_while {c : Expr} {tc : TT} {fc : Reg → Option Bool} (hp : PassesOwn (model X.prog X.w) X.A X.env X.xe) (hc : DT X c tc fc) (hb : DSs X body t B) : DS X (.While c body [] pos) (tWhile tc t) (whileD fc B manyN) := by
  refine ⟨ps_while hp hc.p hb.p, fun σ H F ρ H0 F0 D0 s k => ?_⟩
  refine ⟨fun m σ H => ∃ F ρ, RS (kn X) H0 F0 H F σ ρ ∧ Post (kn X) H0 F0 D0 (whileD fc B m ρ), ⟨manyN, F, ρ, s, k⟩, ?_⟩
  rintro m σ H ⟨F, ρ, s, k⟩
  cases m with
  | zero => exact k.elim
  | succ m =>
    unfold whileD at k
    cases q : fc ρ with
    | none => rw [q] at k; exact k.elim
    | some c =>
      rw [q] at k
      refine hc.q σ H F ρ c _ s.r q fun H1 F1 x1 => ?_
      have s1 := s.ext x1
      cases c with
      | false => exact iteF (k σ H1 F1 s1)
      | true =>
        refine iteT ⟨fun σ' H' => ∃ F' ρ', RS (kn X) H0 F0 H' F' σ' ρ' ∧ Post (kn X) H0 F0 D0 (whileD fc B m ρ'), fun σ' H' w => ⟨m, Nat.lt_succ_self _, w⟩, ?_⟩
        refine hb.q σ H1 F1 ρ H0 F0 _ s1 ?_
        cases eb : B ρ with
        | nx ρ2 => rw [eb] at k; exact fun σ4 H4 F4 s4 => ⟨F4, ρ2, s4, k⟩
        | ct ρ2 => rw [eb] at k; exact fun σ4 H4 F4 s4 => ⟨F4, ρ2, s4, k⟩
        | bk ρ2 => rw [eb] at k; exact fun σ4 H4 F4 s4 => k σ4 H4 F4 s4
        | rt d => rw [eb] at k; exact fun v H4 F4 x4 r4 => k v H4 F4 x4 r4
        | bad => rw [eb] at k; exact k.elim
/-! ### what is walked -/
def seqD : D → Option (List D)
  | .lst ds => some ds
  | .tup ds => some ds
  | _ => none
def lstD : D → Option (List D)
  | .lst ds => some ds
  | _ => none
def tupD : D → Option (List D)
  | .tup ds => some ds
  | _ => none
theorem wlk_list {Y : Kn} {a : Addr} {F1 : Hp} {vs : List V} {ds : List D} (h : SqL Y.K F1 a vs) (r : Reps Y F1 vs ds) : Wlk Y (Itl Y.K a) F1 ds := by
  refine ⟨fun i H F hi h1 h2 => ?_, fun H F h1 h2 => ⟨vs, sqL_sub (h1.trans h2) h, by rw [r.length]; exact Nat.le_refl _⟩, fun i H F x H' d e h1 h2 y => ?_⟩
  · have hv : i < vs.length := by rw [r.length]; exact hi
    exact ⟨vs, vs[i], sqL_sub (h1.trans h2) h, List.getElem?_eq_getElem hv⟩
  · obtain ⟨e1, e2⟩ := y
    subst e1
    obtain ⟨v, g1, g2⟩ := r.get e
    have g3 := e2 vs (sqL_sub (h1.trans h2) h)
    rw [g1] at g3
    cases g3
    exact ⟨F, .refl h2, g2.mono h1⟩
theorem wlk_tup {Y : Kn} {a : Addr} {F1 : Hp} {vs : List V} {ds : List D} (h : SqT Y.K F1 a vs) (r : Reps Y F1 vs ds) : Wlk Y (Itt Y.K a) F1 ds := by
  refine ⟨fun i H F hi h1 h2 => ?_, fun H F h1 h2 => ⟨vs, sqT_sub (h1.trans h2) h, by rw [r.length]; exact Nat.le_refl _⟩, fun i H F x H' d e h1 h2 y => ?_⟩
  · have hv : i < vs.length := by rw [r.length]; exact hi
    exact ⟨vs, vs[i], sqT_sub (h1.trans h2) h, List.getElem?_eq_getElem hv⟩
  · obtain ⟨e1, e2⟩ := y
    subst e1
    obtain ⟨v, g1, g2⟩ := r.get e
    have g3 := e2 vs (sqT_sub (h1.trans h2) h)
    rw [g1] at g3
    cases g3
    exact ⟨F, .refl h2, g2.mono h1⟩
/-- a frozen list -/
theorem di_list (h : DE X e te f) : DI X tg e (iList X.K te) (fun ρ => (f ρ).bind lstD) := by
  refine ⟨pi_list h.p, fun σ H F ρ ds R r q k => ?_⟩
  obtain ⟨d, e1, e2⟩ := Option.bind_eq_some_iff.mp q
  refine h.q σ H F ρ d _ r e1 fun v H' F' x rv => ?_
  cases d with
  | lst ds' =>
    cases e2
    cases rv with
    | lst g1 g2 => exact ⟨_, rfl, ⟨_, sqL_sub x.s g1⟩, k _ H' F' x (wlk_list g1 g2)⟩
  | _ => cases e2
theorem di_tup (h : DE X e te f) : DI X tg e (iTup X.K te) (fun ρ => (f ρ).bind tupD) := by
  refine ⟨pi_tup h.p, fun σ H F ρ ds R r q k => ?_⟩
  obtain ⟨d, e1, e2⟩ := Option.bind_eq_some_iff.mp q
  refine h.q σ H F ρ d _ r e1 fun v H' F' x rv => ?_
  cases d with
  | tup ds' =>
    cases e2
    cases rv with
    | tup g1 g2 => exact ⟨_, rfl, ⟨_, sqT_sub x.s g1⟩, k _ H' F' x (wlk_tup g1 g2)⟩
  | _ => cases e2
/-- a list or a tuple: two readings of one expression -/
theorem di_seq {iter : Expr} {wi1 wi2 : TI} {f1 f2 : Reg → Option (List D)} (h1 : DI X tg iter wi1 f1) (h2 : DI X tg iter wi2 f2) : DI X tg iter (fun σ H R => wi1 σ H R ∨ wi2 σ H R) (fun ρ => (f1 ρ).or (f2 ρ)) := by
  refine ⟨⟨fun pins s σ H R I h => h.elim (h1.p.run pins s σ H R I) (h2.p.run pins s σ H R I)⟩, fun σ H F ρ ds R r q k => ?_⟩
  cases e : f1 ρ with
  | some d1 =>
    rw [e] at q
    cases q
    exact .inl (h1.q σ H F ρ _ R r e k)
  | none =>
    rw [e] at q
    exact .inr (h2.q σ H F ρ ds R r q k)
/-- a text, sign by sign -/
def strD : D → Option (List D)
  | .str l => some (l.map fun c => .str [c])
  | _ => none
theorem di_str (h : DE X e te f) : DI X tg e (iStr te) (fun ρ => (f ρ).bind strD) := by
  refine ⟨pi_str h.p, fun σ H F ρ ds R r q k => ?_⟩
  obtain ⟨d, e1, e2⟩ := Option.bind_eq_some_iff.mp q
  refine h.q σ H F ρ d _ r e1 fun v H' F' x rv => ?_
  cases d with
  | str l =>
    cases e2
    cases rv with
    | str z =>
      refine ⟨_, rfl, k _ H' F' x ⟨fun i H F hi h1 h2 => ?_, fun H F h1 h2 => ?_, fun i H F x H' d e h1 h2 y => ?_⟩⟩
      · show i < z.cps.size
        simpa using hi
      · show z.cps.size ≤ _
        simp
      · obtain ⟨rfl, c, h3, rfl⟩ := y
        refine ⟨F, .refl h2, ?_⟩
        have e' : (tl z)[i]? = some c := by simpa [tl] using h3
        rw [List.getElem?_map, e'] at e
        cases e
        exact .str ⟨#[c]⟩
  | _ => cases e2
@[irreducible] def rng1 (f : Reg → Option (List D)) : Reg → Option (List D) := fun ρ => (f ρ).bind fun
  | [.int j] => if -(2 ^ 62) ≤ j ∧ j < 2 ^ 62 then some ((List.range j.toNat).map fun k => .int (k : Nat)) else none
  | _ => none
@[irreducible] def rng2 (f : Reg → Option (List D)) : Reg → Option (List D) := fun ρ => (f ρ).bind fun
  | [.int i, .int j] => if -(2 ^ 62) ≤ i ∧ i < 2 ^ 62 ∧ -(2 ^ 62) ≤ j ∧ j < 2 ^ 62 then some ((List.range (j - i).toNat).map fun k => .int (i + (k : Nat))) else none
  | _ => none
theorem wlk_range {Y : Kn} {F1 : Hp} {lo : Int} {n : Nat} {ds : List D} (h : ds = (List.range n).map fun k => .int (lo + (k : Nat))) : Wlk Y (Itr lo n) F1 ds := by
  subst h
  refine ⟨fun i H F hi h1 h2 => ?_, fun H F h1 h2 => ?_, fun i H F x H' d e h1 h2 y => ?_⟩
  · show i < n
    simpa using hi
  · show n ≤ _
    simp
  · obtain ⟨rfl, rfl⟩ := y
    refine ⟨F, .refl h2, ?_⟩
    rw [List.getElem?_map] at e
    obtain ⟨k, h3, h4⟩ := Option.map_eq_some_iff.mp e
    have h5 : k = i := by
      have := List.getElem?_eq_some_iff.mp h3
      obtain ⟨a, b⟩ := this
      simpa using b.symm
    subst h5
    rw [← h4]
    exact .int _
theorem di_range1 {a : Expr} {ta : TA} {fs : Reg → Option (List D)} {p : Pos} (hm : X.mg "range" = none) (ha : DA X [a] ta fs) (hg : Gl X "range" := by rfl) (hs : starEach [a] X.env = [(false, eval a X.env)] := by rfl) : DI X tg (.Call (.Name "range" p) [a] [] pos) (iRng1 ta) (rng1 fs) := by
  refine ⟨pi_range1 hg hm ha.p hs, fun σ H F ρ ds R r q k => ?_⟩
  unfold rng1 at q
  obtain ⟨es, e1, e2⟩ := Option.bind_eq_some_iff.mp q
  refine ha.q σ H F ρ es _ r e1 fun vs H' F' x rv => ?_
  split at e2
  · rename_i j
    split at e2
    · rename_i hb
      cases e2
      cases rv with
      | cons a b =>
        cases b
        cases a
        refine ⟨j, rfl, hb.1, hb.2, k _ H' F' x (wlk_range ?_)⟩
        simp
    · cases e2
  · cases e2
theorem di_range2 {a b : Expr} {ta : TA} {fs : Reg → Option (List D)} {p : Pos} (hm : X.mg "range" = none) (ha : DA X [a, b] ta fs) (hg : Gl X "range" := by rfl) (hs : starEach [a, b] X.env = [(false, eval a X.env), (false, eval b X.env)] := by rfl) (hs2 : starEach [b] X.env = [(false, eval b X.env)] := by rfl) :
    DI X tg (.Call (.Name "range" p) [a, b] [] pos) (iRng2 ta) (rng2 fs) := by
  refine ⟨pi_range2 hg hm ha.p hs hs2, fun σ H F ρ ds R r q k => ?_⟩
  unfold rng2 at q
  obtain ⟨es, e1, e2⟩ := Option.bind_eq_some_iff.mp q
  refine ha.q σ H F ρ es _ r e1 fun vs H' F' x rv => ?_
  split at e2
  · rename_i i j
    split at e2
    · rename_i hb
      cases e2
      cases rv with
      | cons a b =>
        cases b with
        | cons c d =>
          cases d
          cases a
          cases c
          exact ⟨i, j, rfl, hb, k _ H' F' x (wlk_range rfl)⟩
    · cases e2
  · cases e2
/-! ### comprehensions -/
/-- the slots of a block's own names, forgotten -/
def wipeR (ρ : Reg) : List Nat → Reg
  | [] => ρ
  | v :: vs => (wipeR ρ vs).set v .no
theorem R0.wipe {Y : Kn} {H F : Hp} {σ : L2.St} {ρ : Reg} (r : R0 Y H F σ ρ) : ∀ vs : List Nat, R0 Y H F (L2.wipe σ vs) (wipeR ρ vs)
  | [] => r
  | v :: vs => by
    have r' := R0.wipe r vs
    unfold L2.wipe wipeR
    refine ⟨r'.sub, by rw [List.length_set, List.length_set]; exact r'.len, fun j sl e => ?_, fun j k d1 d2 b e1 e2 e3 e4 => ?_⟩
    · by_cases hj : v = j
      · subst hj
        have hi : v < (wipeR ρ vs).length := by have := (List.getElem?_eq_some_iff.mp e).1; rw [List.length_set] at this; exact this
        rw [List.getElem?_set_self hi] at e
        cases e
        exact ⟨none, List.getElem?_set_self (by rw [r'.len]; exact hi), trivial⟩
      · rw [List.getElem?_set_ne hj] at e ⊢
        exact r'.at_ j sl e
    · by_cases hj : v = j
      · subst hj
        have hi : v < (wipeR ρ vs).length := by have := (List.getElem?_eq_some_iff.mp e1).1; rw [List.length_set] at this; exact this
        rw [List.getElem?_set_self hi] at e1; cases e1
      · by_cases hk : v = k
        · subst hk
          have hi : v < (wipeR ρ vs).length := by have := (List.getElem?_eq_some_iff.mp e2).1; rw [List.length_set] at this; exact this
          rw [List.getElem?_set_self hi] at e2; cases e2
        · rw [List.getElem?_set_ne hj] at e1 e3
          rw [List.getElem?_set_ne hk] at e2 e4
          exact r'.sep j k d1 d2 b e1 e2 e3 e4
theorem wipe_in {σ : L2.St} {j : Nat} : ∀ {vs : List Nat}, j ∈ vs → j < σ.length → (L2.wipe σ vs)[j]? = some none
  | v :: vs, h, hl => by
    unfold L2.wipe
    by_cases hj : v = j
    · subst hj
      exact List.getElem?_set_self (by rw [wipe_length]; exact hl)
    · rw [List.getElem?_set_ne hj]
      exact wipe_in ((List.mem_cons.mp h).resolve_left fun z => hj z.symm) hl
theorem wipe_eq {σ σ2 : L2.St} {vs : List Nat} (hl : σ2.length = (L2.wipe σ vs).length) (h : ∀ j, j ∉ vs → σ2[j]? = (L2.wipe σ vs)[j]?) : L2.wipe σ2 vs = L2.wipe σ vs := by
  have hl2 : σ2.length = σ.length := by rw [hl, wipe_length]
  apply List.ext_getElem?
  intro j
  by_cases hj : j ∈ vs
  · by_cases hlt : j < σ.length
    · rw [wipe_in hj (by rw [hl2]; exact hlt), wipe_in hj hlt]
    · rw [List.getElem?_eq_none (by rw [wipe_length, hl2]; omega), List.getElem?_eq_none (by rw [wipe_length]; omega)]
  · rw [wipe_out hj, h j hj]
def lcD (g : D → Reg → Option Reg) (c : Reg → Option Bool) (f : Reg → Option D) (ρ : Reg) : List D → Option (List D)
  | [] => some []
  | d :: ds => (g d ρ).bind fun ρ1 => (c ρ1).bind fun b => if b then (f ρ1).bind fun y => (lcD g c f ρ ds).bind fun ys => some (y :: ys) else lcD g c f ρ ds
def lcV (fs : Reg → Option (List D)) (g : D → Reg → Option Reg) (c : Reg → Option Bool) (f : Reg → Option D) (vs : List Nat) : Reg → Option D := fun ρ => (fs ρ).bind fun ds => if ds.length ≤ sizeLine then (lcD g c f (wipeR ρ vs) ds).bind fun ys => some (.lst ys) else none
structure DTs (X : Cx) (ifs : List Expr) (t : TT) (f : Reg → Option Bool) : Prop where
  p : PTs X ifs t
  q : EvT (kn X) t f
theorem dts_nil : DTs X [] tYes (fun _ => some true) := ⟨pts_nil, fun σ H F ρ b Q r e k => by cases e; exact k H F (.refl r.sub)⟩
theorem dts_one {c : Expr} {tc : TT} {fc : Reg → Option Bool} (h : DT X c tc fc) : DTs X [c] tc fc := ⟨pts_one h.p, h.q⟩
/-- in every context of the block -/
abbrev Blk (X : Cx) (scope : Scope) (φ : Cx → Prop) : Prop := ∀ (s : Shared) (H : Hp) (C : Addr) (cl : List (Str × Addr)) (fp : List Addr), φ (X.blk s H scope (compEnvC scope cl C X.env) fp)
theorem lcD_len {g : D → Reg → Option Reg} {c : Reg → Option Bool} {f : Reg → Option D} {ρ : Reg} : ∀ {ds ys : List D}, lcD g c f ρ ds = some ys → ys.length ≤ ds.length
  | [], _, e => by cases e; exact Nat.le_refl _
  | d :: ds, ys, e => by
    obtain ⟨ρ1, e1, e⟩ := Option.bind_eq_some_iff.mp e
    obtain ⟨b, e2, e⟩ := Option.bind_eq_some_iff.mp e
    cases b with
    | false => exact Nat.le_trans (lcD_len (show lcD g c f ρ ds = some ys from e)) (Nat.le_succ _)
    | true =>
      have e : ((f ρ1).bind fun y => (lcD g c f ρ ds).bind fun ys => some (y :: ys)) = some ys := e
      obtain ⟨y, e3, e⟩ := Option.bind_eq_some_iff.mp e
      obtain ⟨zs, e4, e⟩ := Option.bind_eq_some_iff.mp e
      cases e
      exact Nat.succ_le_succ (lcD_len e4)
/-- the reading of a comprehension, whatever is done with the new list -/
theorem lc_ev {Y : Kn} {wi : TI} {fs : Reg → Option (List D)} {g : TG} {h : D → Reg → Option Reg} {is : List Nat} {tt : TT} {fc : Reg → Option Bool} {te : TE} {f : Reg → Option D} {vs : List Nat}
    (qi : ∀ (σ : L2.St) (H F : Hp) (ρ : Reg) (ds : List D) (R : It → Hp → Prop), R0 Y H F σ ρ → fs ρ = some ds → (∀ J H' F', Ext H F H' F' → Wlk Y J F' ds → R J H') → wi σ H R)
    (qg : ∀ (v : V) (d : D) (σ : L2.St) (H F : Hp) (ρ ρ' : Reg) (Q : L2.St → Hp → Prop), R0 Y H F σ ρ → Rep Y F v d → h d ρ = some ρ' →
      (∀ σ', R0 Y H F σ' ρ' → σ'.length = σ.length → (∀ j, j ∉ is → σ'[j]? = σ[j]? ∧ ρ'[j]? = ρ[j]?) → (∀ j d', ρ'[j]? = some (.ow d') → j ∉ is) → Q σ' H) → g v σ H Q)
    (qt : EvT Y tt fc) (qe : EvE Y te f) (hv : ∀ j, j ∈ is → j ∈ vs) : EvN Y (tLc wi g tt te vs) (lcV fs h fc f vs) := by
  intro σ H F ρ d Q r e k
  obtain ⟨ds, e1, e⟩ := Option.bind_eq_some_iff.mp e
  by_cases hz : ds.length ≤ sizeLine
  case neg => rw [if_neg hz] at e; cases e
  rw [if_pos hz] at e
  obtain ⟨ys, e2, e⟩ := Option.bind_eq_some_iff.mp e
  cases e
  refine qi σ H F ρ ds _ r e1 fun J H1 F1 x1 wk L nL => ?_
  have nLF : F1 L = none := none_of_sub x1.s nL
  have x2 := ext_new (o := .lst []) x1.s nL
  refine ⟨fun i m H2 => m = ds.length - i ∧ i ≤ ds.length ∧ ∃ F2 acc dacc zs, Ext H1 F1 (fun a => if a = L then none else H2 a) F2 ∧ F2 L = none ∧ H2 L = some (.lst acc) ∧ Reps Y F2 acc dacc ∧ acc.length ≤ i ∧
      lcD h fc f (wipeR ρ vs) (ds.drop i) = some zs ∧ dacc ++ zs = ys, ⟨ds.length, by simp, Nat.zero_le _, F1, [], [], ys, ?_, nLF, upd_same, .nil, Nat.zero_le _, e2, rfl⟩, ?_⟩
  · refine ⟨fun a o q => ?_, Sub.refl _, fun a o q => ?_, fun _ _ _ n => n⟩
    · have ne := ne_of_none q nL
      rw [if_neg ne, upd_ne ne]; exact q
    · have ne : a ≠ L := fun z => by rw [z, nLF] at q; cases q
      rw [if_neg ne, upd_ne ne]; exact x1.s a o q
  · rintro i m H2 ⟨rfl, hil, F2, acc, dacc, zs, x3, n3, hL, ra, hal, ez, ey⟩
    have sub2 : Sub F2 H2 := fun a o q => by
      have ne : a ≠ L := fun z => by rw [z, n3] at q; cases q
      have := x3.s a o q
      rw [if_neg ne] at this; exact this
    have full : ∀ {H3 F3 : Hp}, Ext H2 F2 H3 F3 → Ext H1 F1 H3 F3 := fun {H3 F3} x => by
      refine ⟨fun a o q => ?_, x3.f.trans x.f, x.s, fun a o q n => ?_⟩
      · have ne := ne_of_none q nL
        have := x3.h a o q
        rw [if_neg ne] at this
        exact x.h a o this
      · have ne := ne_of_none q nL
        have := x3.h a o q
        rw [if_neg ne] at this
        exact x.n a o this (x3.n a o q n)
    by_cases hlt : i < ds.length
    · refine .inr ⟨wk.go i H2 F2 hlt x3.f sub2, fun H' => i + 1 ≤ ds.length ∧ ∃ F2 acc dacc zs, Ext H1 F1 (fun a => if a = L then none else H' a) F2 ∧ F2 L = none ∧ H' L = some (.lst acc) ∧ Reps Y F2 acc dacc ∧ acc.length ≤ i + 1 ∧
        lcD h fc f (wipeR ρ vs) (ds.drop (i + 1)) = some zs ∧ dacc ++ zs = ys, fun H' w => ⟨ds.length - (i + 1), by omega, rfl, w⟩, fun x H' y => ?_⟩
      obtain ⟨F3, x4, r4⟩ := wk.yld i H2 F2 x H' ds[i] (List.getElem?_eq_getElem hlt) x3.f sub2 y
      rw [List.drop_eq_getElem_cons hlt] at ez
      obtain ⟨ρ1, g1, ez⟩ := Option.bind_eq_some_iff.mp ez
      obtain ⟨b, g2, ez⟩ := Option.bind_eq_some_iff.mp ez
      have rw1 : R0 Y H' F3 (L2.wipe σ vs) (wipeR ρ vs) := (r.ext (x1.trans (full x4))).wipe vs
      refine qg x ds[i] _ H' F3 _ ρ1 _ rw1 r4 g1 fun σ5 r5 l5 k5 _ => ⟨wipe_eq l5 fun j hj => (k5 j fun z => hj (hv j z)).1, ?_⟩
      refine qt σ5 H' F3 ρ1 b _ r5 g2 fun H6 F6 x6 => ?_
      have hL' : H' L = some (.lst acc) := x4.h _ _ hL
      have nL4 : F3 L = none := x4.n _ _ hL n3
      have hL6 : H6 L = some (.lst acc) := x6.h _ _ hL'
      have n6 : F6 L = none := x6.n _ _ hL' nL4
      have fin : ∀ {H7 F7 : Hp}, Ext H2 F2 H7 F7 → F7 L = none → Ext H1 F1 (fun a => if a = L then none else H7 a) F7 := fun {H7 F7} x7 n7 => by
        have xx := full x7
        refine ⟨fun a o q => ?_, xx.f, fun a o q => ?_, xx.n⟩
        · rw [if_neg (ne_of_none q nL)]; exact xx.h a o q
        · have ne : a ≠ L := fun z => by rw [z, n7] at q; cases q
          rw [if_neg ne]; exact xx.s a o q
      have x46 := x4.trans x6
      cases b with
      | false =>
        refine iteF ⟨hlt, F6, acc, dacc, zs, fin x46 n6, n6, hL6, ra.mono x46.f, Nat.le_succ_of_le hal, ez, ey⟩
      | true =>
        have ez : ((f ρ1).bind fun y => (lcD h fc f (wipeR ρ vs) (ds.drop (i + 1))).bind fun ys => some (y :: ys)) = some zs := ez
        obtain ⟨dy, g3, ez⟩ := Option.bind_eq_some_iff.mp ez
        obtain ⟨zs', g4, ez⟩ := Option.bind_eq_some_iff.mp ez
        cases ez
        refine iteT (qe σ5 H6 F6 ρ1 dy _ (r5.ext x6) g3 fun vy H7 F7 x7 r7 => ?_)
        have x47 := x46.trans x7
        have hL7 : H7 L = some (.lst acc) := x7.h _ _ hL6
        have n7 : F7 L = none := x7.n _ _ hL6 n6
        refine ⟨acc, hL7, by omega, hlt, F7, acc ++ [vy], dacc ++ [dy], zs', ?_, n7, upd_same, (ra.mono x47.f).append (.cons r7 .nil), ?_, g4, ?_⟩
        · have e8 : (fun a => if a = L then none else (upd H7 L (.lst (acc ++ [vy]))) a) = fun a => if a = L then none else H7 a := by
            funext a
            by_cases ha : a = L
            · rw [if_pos ha, if_pos ha]
            · rw [if_neg ha, if_neg ha, upd_ne ha]
          rw [e8]
          exact fin x47 n7
        · rw [List.length_append]
          exact Nat.succ_le_succ hal
        · rw [List.append_assoc]; exact ey
    · have ei : i = ds.length := by omega
      subst ei
      refine .inl ⟨wk.stop H2 F2 x3.f sub2, ?_⟩
      rw [List.drop_length] at ez
      cases ez
      rw [List.append_nil] at ey
      subst ey
      have xx := full (Ext.refl sub2)
      have n0 : H L = none := none_of_sub x1.h nL
      exact k L H2 F2 (x1.trans xx) n0 n3 ⟨acc, hL, ra⟩
/-! readings that hang on the data alone: the same in every context of a block -/
def tEc (Y : Kn) (f : Reg → Option D) : TE := fun σ H Q => ∃ F ρ d, R0 Y H F σ ρ ∧ f ρ = some d ∧ ∀ v H' F', Ext H F H' F' → Rep Y F' v d → Q v H'
def tTc (Y : Kn) (f : Reg → Option Bool) : TT := fun σ H Q => ∃ F ρ b, R0 Y H F σ ρ ∧ f ρ = some b ∧ ∀ H' F', Ext H F H' F' → Q b H'
def tGc (Y : Kn) (h : D → Reg → Option Reg) (is : List Nat) : TG := fun v σ H Q => ∃ F ρ ρ' d, R0 Y H F σ ρ ∧ Rep Y F v d ∧ h d ρ = some ρ' ∧
  ∀ σ', R0 Y H F σ' ρ' → σ'.length = σ.length → (∀ j, j ∉ is → σ'[j]? = σ[j]? ∧ ρ'[j]? = ρ[j]?) → (∀ j d', ρ'[j]? = some (Sl.ow d') → j ∉ is) → Q σ' H
theorem DE.can {t : TE} (h : DE X e t f) : PE X e (tEc (kn X) f) := ⟨fun pins s σ H Q I ⟨F, ρ, d, r, q, k⟩ => h.p.run pins s σ H Q I (h.q σ H F ρ d Q r q k)⟩
theorem DTs.can {ifs : List Expr} {t : TT} {fc : Reg → Option Bool} (h : DTs X ifs t fc) : PTs X ifs (tTc (kn X) fc) := ⟨fun pins s σ H Q I ⟨F, ρ, d, r, q, k⟩ => h.p.run pins s σ H Q I (h.q σ H F ρ d Q r q k)⟩
theorem DG.can {g : TG} {h : D → Reg → Option Reg} {is : List Nat} (a : DG X tg g h is) : PG X tg (tGc (kn X) h is) := ⟨fun pins s σ H v u Q I rv ⟨F, ρ, ρ', d, r, r1, q, k⟩ => a.p.run pins s σ H v u Q I rv (a.q v d σ H F ρ ρ' Q r r1 q k)⟩
theorem tEc_ev {Y : Kn} : EvE Y (tEc Y f) f := fun σ H F ρ d Q r e k => ⟨F, ρ, d, r, e, k⟩
theorem tTc_ev {Y : Kn} {fc : Reg → Option Bool} : EvT Y (tTc Y fc) fc := fun σ H F ρ d Q r e k => ⟨F, ρ, d, r, e, k⟩
theorem dn_lc {elt : Expr} {ifs : List Expr} {scope : Scope} (own : List (Str × Nat)) {wi : TI} {fs : Reg → Option (List D)} {h : D → Reg → Option Reg} {is : List Nat} {fc : Reg → Option Bool} {f : Reg → Option D} (hc : X.calm = true) (hN : X.N.Nodup)
    (hi : DI X tg iter wi fs) (hg : ∀ (s : Shared) (H : Hp) (C : Addr) (cl : List (Str × Addr)) (fp : List Addr), ∃ g, DG (X.blk s H scope (compEnvC scope cl C X.env) fp) tg g h is) (ht : ∀ (s : Shared) (H : Hp) (C : Addr) (cl : List (Str × Addr)) (fp : List Addr), ∃ tt, DTs (X.blk s H scope (compEnvC scope cl C X.env) fp) ifs tt fc) (he : ∀ (s : Shared) (H : Hp) (C : Addr) (cl : List (Str × Addr)) (fp : List Addr), ∃ te, DE (X.blk s H scope (compEnvC scope cl C X.env) fp) elt te f)
    (ok : BlkOk X.N X.env.scope scope own) (hv : ∀ j, j ∈ is → j ∈ own.map (·.2) := by simp) (hs : ∀ x, foldedSetIterable iter X.env x = pure x := by intro _; rfl) :
    DN X (.ListComp elt [⟨tg, iter, ifs, 0⟩] scope pos) (tLc wi (tGc (kn X) h is) (tTc (kn X) fc) (tEc (kn X) f) (own.map (·.2))) (lcV fs h fc f (own.map (·.2))) :=
  ⟨pe_lc hc hN hi.p ok (fun s H C cl fp => (hg s H C cl fp).elim fun _ z => z.can) (fun s H C cl fp => (ht s H C cl fp).elim fun _ z => z.can) (fun s H C cl fp => (he s H C cl fp).elim fun _ z => z.can) hs,
    lc_ev hi.q (fun v d σ H F ρ ρ' Q r r1 q k => ⟨F, ρ, ρ', d, r, r1, q, k⟩) tTc_ev tEc_ev hv⟩
/-! ### a def's promise, a call -/
def spD (Y : Kn) (n : Nat) (m : List D → Option D) : Sp := fun vs H Q _ => ∃ (F : Hp) (ds : List D) (d : D), Sub F H ∧ Reps Y F vs ds ∧ ds.length = n ∧ m ds = some d ∧ ∀ v H' F', Ext H F H' F' → Rep Y F' v d → Q v H'
def startR (n : Nat) (ds : List D) : Reg := ds.map Sl.fz ++ List.replicate (n - ds.length) Sl.no
def fin : Out → Option D
  | .rt d => some d
  | .nx _ => some .non
  | _ => none
theorem start_r0 {Y : Kn} {H F : Hp} {N : List Str} {vs : List V} {ds : List D} (s : Sub F H) (r : Reps Y F vs ds) : R0 Y H F (L2.start N vs) (startR N.length ds) := by
  have hl := r.length
  have noow : ∀ (i : Nat) (d : D), (startR N.length ds)[i]? ≠ some (Sl.ow d) := fun i d e => by
    unfold startR at e
    by_cases hi : i < ds.length
    · rw [List.getElem?_append_left (by simpa using hi), List.getElem?_map, List.getElem?_eq_getElem hi] at e
      cases e
    · rw [List.getElem?_append_right (by simpa using hi), List.getElem?_replicate] at e
      split at e <;> cases e
  refine ⟨s, ?_, fun i sl e => ?_, fun i j d e a h => absurd h (noow i d)⟩
  · unfold L2.start startR
    simp [hl]
  · unfold startR at e
    unfold L2.start
    by_cases hi : i < ds.length
    · rw [List.getElem?_append_left (by simpa using hi), List.getElem?_map, List.getElem?_eq_getElem hi] at e
      cases e
      obtain ⟨v, g1, g2⟩ := r.get (List.getElem?_eq_getElem hi)
      refine ⟨some v, ?_, v, rfl, g2⟩
      rw [List.getElem?_append_left (by rw [List.length_map, hl]; exact hi), List.getElem?_map, g1]
      rfl
    · rw [List.getElem?_append_right (by simpa using hi), List.getElem?_replicate] at e
      split at e
      · rename_i hk
        cases e
        refine ⟨none, ?_, trivial⟩
        rw [List.length_map] at hk
        rw [List.getElem?_append_right (by rw [List.length_map, hl]; omega), List.getElem?_replicate, List.length_map, hl, if_pos hk]
      · cases e
theorem fn_data {P : Program} {w : World} {K : PySem.W.Frag} {mg : Str → Option Value} {base : Heap} {x qual : Str} {st : Stmt} {f : Addr} {fd : FuncData} {N ps : List Str} {k : Nat} {B : Reg → Out} {m : List D → Option D} (F : Fun K x qual st f fd) (sc : FnScope N ps (defScope st))
    (hm : ∀ ds d, ds.length = ps.length → m ds = some d → fin (B (startR N.length ds)) = some d)
    (hB : ∀ (cdv : Value) (A : Around) (outer : List PySem.Env) (s : Shared) (H : Hp) (E : XK), Room k (A.deeper (envOfC qual (defScope st) s.heap.objs.size f cdv)) → ∃ t, DSs (cxOf CX0 P w K mg base N qual (defScope st) f cdv A outer s H E).nox (defBody st) t B) :
    FnOk P w K mg base CX0 (k + 1) f fd ps (spD ⟨K, mg⟩ ps.length m) := by
  refine F.ok sc (fun vs H Q E h => ?_) (fun cdv A outer s H vs Q E hr h => ?_)
  · obtain ⟨F0, ds, d, _, r, hl, _⟩ := h
    rw [r.length, hl]
  · obtain ⟨F0, ds, d, s0, r, hl, e, kq⟩ := h
    obtain ⟨t, ht⟩ := hB cdv A outer s H E hr
    have e := hm ds d hl e
    refine ⟨t, ht.p, ht.q _ H F0 (startR N.length ds) H F0 _ ⟨start_r0 s0 r, .refl s0, fun i d a h => ?_⟩ ?_⟩
    · exact absurd h (fun q => by
        have r0 := (start_r0 (N := N) s0 r).at_ i _ q
        unfold startR at q
        by_cases hi : i < ds.length
        · rw [List.getElem?_append_left (by simpa using hi), List.getElem?_map, List.getElem?_eq_getElem hi] at q
          cases q
        · rw [List.getElem?_append_right (by simpa using hi), List.getElem?_replicate] at q
          split at q <;> cases q)
    · cases q : B (startR N.length ds) with
      | rt d' => rw [q] at e; cases e; exact fun v H' F' x r' => kq v H' F' x r'
      | nx ρ => rw [q] at e; cases e; exact fun σ' H' F' s' => kq .non H' F' s'.x .non
      | bk ρ => rw [q] at e; cases e
      | ct ρ => rw [q] at e; cases e
      | bad => rw [q] at e; cases e
/-- nothing is promised -/
theorem fn_nil {P : Program} {w : World} {K : PySem.W.Frag} {mg : Str → Option Value} {base : Heap} {f : Addr} {fd : FuncData} {ps : List Str} {k n : Nat} : FnOk P w K mg base CX0 k f fd ps (spD ⟨K, mg⟩ n fun _ => none) :=
  ⟨fun vs H Q E h => (by obtain ⟨_, _, _, _, _, _, e, _⟩ := h; cases e), fun A outer s H args us vs Q E hr he hb hv h => (by obtain ⟨_, _, _, _, _, _, e, _⟩ := h; cases e)⟩
def callV (m : List D → Option D) (fs : Reg → Option (List D)) : Reg → Option D := fun ρ => (fs ρ).bind m
theorem de_call {k n : Nat} {fa : Addr} {fd : FuncData} {ps : List Str} {m : List D → Option D} {x : Str} {p : Pos} {es : List Expr} {ta : TA} {fs : Reg → Option (List D)} (G : FnOk X.prog X.w X.K X.mg X.base CX0 k fa fd ps (spD (kn X) n m)) (hr : Room k X.A) (hm : X.mg x = some (.ref fa))
    (hk : PySem.W.keepIn X.K (.ref fa) = true) (hb : Binds X.K fd ps []) (ha : DA X (e :: es) ta fs) (hn : (e :: es).length = n := by rfl) (hg : Gl X x := by rfl) (hdb : (x == ("__debug__" : Str)) = false := by decide)
    (he : starEach (e :: es) X.env = (false, eval e X.env) :: starEach es X.env := by rfl) (hpl : (backTo pos (starEach es X.env)).any (·.1) = false := by rfl) : DE X (.Call (.Name x p) (e :: es) [] pos) (tCall (spD (kn X) n m) [] E0 ta) (callV m fs) := by
  refine ⟨pe_call G hr hg hm hk hb .nil pass0 ha.p hdb he hpl, fun σ H F ρ d Q r q kq => ?_⟩
  obtain ⟨ds, e1, e2⟩ := Option.bind_eq_some_iff.mp q
  refine ha.q σ H F ρ ds _ r e1 fun vs H' F' x' r' => ?_
  rw [List.append_nil]
  exact ⟨F', ds, d, x'.s, r', (ha.len ρ ds e1).trans hn, e2, fun v H2 F2 x2 r2 => kq v H2 F2 (x'.trans x2) r2⟩
end
end
end DL

/-! DL, operations on data: numbers, texts, lists, tuples; tests; builtins; methods. -/
namespace DL
open PySem PySem.Spec PyProof.Rows L2
open TL (tl len_tl ext_tl tl_append tl_mk mk_tl map_tl_inj tl_ofString)
section
/-! ### + - * // % ** -/
theorem op_catL {X : Cx} : OpR X (binaryOp .Add) (fun x y H Q => ∃ l b xs zs, x = .ref l ∧ y = .ref b ∧ SqL X.K H l xs ∧ SqL X.K H b zs ∧ xs.length + zs.length ≤ sizeLine ∧ ∀ p, H p = none → Q (.ref p) (upd H p (.lst (xs ++ zs)))) := by
  intro pins s σ H x y v u Q I rx ry h
  obtain ⟨l, b, xs, zs, rfl, rfl, hH, hB, hz, q⟩ := h
  cases rx
  cases ry
  obtain ⟨its, r, ⟨⟨cls, dd, data, sl⟩, n, e, hc, hd, ht⟩, z⟩ := I.list hH
  obtain ⟨its2, r2, ⟨⟨cls2, dd2, data2, sl2⟩, n2, e2, hc2, hd2, ht2⟩, z2⟩ := I.list hB
  have hl := r.length
  have hl2 := r2.length
  simp only at hc hd ht hc2 hd2 ht2
  subst hc hd ht hc2 hd2 ht2
  have hsz : its.toArray.size + its2.toArray.size ≤ sizeLine := by rw [List.size_toArray, List.size_toArray]; omega
  refine concat_meets ⟨_, e, rfl⟩ ⟨_, e2, rfl⟩ noFill_list_add seq_list_add PySem.F.slot_list_add PySem.F.entry_list_add (PySem.F.args_list_add_2 _ _) (list_addW l b its.toArray its2.toArray n n2 none none sl sl2 hsz) ⟨e, e2, ?_⟩
  rw [show its.toArray ++ its2.toArray = (its ++ its2).toArray by simp]
  exact ⟨.ref _, _, I.lnew (t' := s.toks) (r.append r2) (by rw [List.length_append]; omega), rfl, q _ I.fresh⟩
/-! the two-place operations on data -/
def dAdd : D → D → Option D
  | .int a, .int b => some (.int (a + b))
  | .str a, .str b => if a.length + b.length ≤ sizeLine then some (.str (a ++ b)) else none
  | _, _ => none
def dCat : D → D → Option D
  | .lst a, .lst b => if a.length + b.length ≤ sizeLine then some (.lst (a ++ b)) else none
  | _, _ => none
def dCatT : D → D → Option D
  | .tup a, .tup b => if a ≠ [] ∧ a.length + b.length ≤ sizeLine then some (.tup (a ++ b)) else none
  | _, _ => none
def dSub : D → D → Option D
  | .int a, .int b => some (.int (a - b))
  | _, _ => none
def dMul : D → D → Option D
  | .int a, .int b => if (-(2 ^ 64) < a ∧ a < 2 ^ 64) ∨ (-(2 ^ 64) < b ∧ b < 2 ^ 64) then some (.int (a * b)) else none
  | _, _ => none
def dMod : D → D → Option D
  | .int a, .int b => if 0 < b then some (.int (a % b)) else none
  | _, _ => none
def dDiv : D → D → Option D
  | .int a, .int b => if 0 < b ∧ b < 1073741824 then some (.int (a / b)) else none
  | _, _ => none
def dPow : D → D → Option D
  | .int a, .int b => if 0 ≤ b ∧ b ≤ 1000000 ∧ a.natAbs < 2 ^ 64 then some (.int (a ^ b.toNat)) else none
  | _, _ => none
section
variable {Y : Kn}
theorem rd_add : RdE Y (fun x y H Q => (∃ i j, x = .int i ∧ y = .int j ∧ Q (.int (i + j)) H) ∨ (∃ i j, x = .str i ∧ y = .str j ∧ i.length + j.length ≤ sizeLine ∧ Q (.str (i ++ j)) H)) dAdd := by
  intro H F x y da db d Q s rx ry e k
  unfold dAdd at e
  split at e
  · cases e
    exact .inl ⟨_, _, rx.int, ry.int, k _ H F (.refl s) (.int _)⟩
  · split at e
    · rename_i a b hz
      cases e
      obtain ⟨z, rfl, ez⟩ := rx.str
      obtain ⟨z', rfl, ez'⟩ := ry.str
      refine .inr ⟨z, z', rfl, rfl, by rw [len_tl, len_tl, ez, ez']; exact hz, k _ H F (.refl s) ?_⟩
      rw [← ez, ← ez', ← tl_append]
      exact .str _
    · cases e
  · cases e
theorem rd_sub : RdE Y (rI0 fun i j => .int (i - j)) dSub := by
  intro H F x y da db d Q s rx ry e k
  unfold dSub at e
  split at e
  · cases e
    exact ⟨_, _, rx.int, ry.int, k _ H F (.refl s) (.int _)⟩
  · cases e
theorem rd_mul : RdE Y (rI CMul fun i j => .int (i * j)) dMul := by
  intro H F x y da db d Q s rx ry e k
  unfold dMul at e
  split at e
  · split at e
    · rename_i hc
      cases e
      exact ⟨_, _, rx.int, ry.int, hc, k _ H F (.refl s) (.int _)⟩
    · cases e
  · cases e
theorem rd_mod : RdE Y (rI (fun _ j => 0 < j) fun i j => .int (i % j)) dMod := by
  intro H F x y da db d Q s rx ry e k
  unfold dMod at e
  split at e
  · split at e
    · rename_i hc
      cases e
      exact ⟨_, _, rx.int, ry.int, hc, k _ H F (.refl s) (.int _)⟩
    · cases e
  · cases e
theorem rd_div : RdE Y (rI CDiv fun i j => .int (i / j)) dDiv := by
  intro H F x y da db d Q s rx ry e k
  unfold dDiv at e
  split at e
  · split at e
    · rename_i hc
      cases e
      exact ⟨_, _, rx.int, ry.int, hc, k _ H F (.refl s) (.int _)⟩
    · cases e
  · cases e
theorem rd_pow : RdE Y (rI CPow fun i j => .int (i ^ j.toNat)) dPow := by
  intro H F x y da db d Q s rx ry e k
  unfold dPow at e
  split at e
  · split at e
    · rename_i hc
      cases e
      exact ⟨_, _, rx.int, ry.int, hc, k _ H F (.refl s) (.int _)⟩
    · cases e
  · cases e
theorem rd_cat : RdN Y (fun x y H Q => ∃ l b xs zs, x = .ref l ∧ y = .ref b ∧ SqL Y.K H l xs ∧ SqL Y.K H b zs ∧ xs.length + zs.length ≤ sizeLine ∧ ∀ p, H p = none → Q (.ref p) (upd H p (.lst (xs ++ zs)))) dCat := by
  intro H F x y da db d Q s rx ry e k
  unfold dCat at e
  split at e
  · split at e
    · rename_i a b hz
      cases e
      obtain ⟨p, vs, rfl, h1, r1⟩ := rx.lst s
      obtain ⟨p', ws, rfl, h2, r2⟩ := ry.lst s
      refine ⟨p, p', vs, ws, rfl, rfl, h1, h2, by rw [r1.length, r2.length]; exact hz, fun q hq => ?_⟩
      exact k q _ F (ext_new s hq) hq (none_of_sub s hq) ⟨_, upd_same, r1.append r2⟩
    · cases e
  · cases e
theorem rd_catT : RdE Y (rCatT Y.K) dCatT := by
  intro H F x y da db d Q s rx ry e k
  unfold dCatT at e
  split at e
  · split at e
    · rename_i a b hz
      cases e
      obtain ⟨p, vs, rfl, h1, r1⟩ := rx.tup s
      obtain ⟨p', ws, rfl, h2, r2⟩ := ry.tup s
      have hv : vs ≠ [] := fun z => hz.1 (by cases r1 with | nil => rfl | cons _ _ => cases z)
      refine ⟨p, p', vs, ws, rfl, rfl, h1, h2, hv, by rw [r1.length, r2.length]; exact hz.2, fun z => ?_, fun _ q hq => ?_⟩
      · have hb : b = [] := by subst z; cases r2; rfl
        subst hb
        rw [List.append_nil] at k
        rcases rx with rx | ⟨q, _, o⟩
        · exact k _ H F (.refl s) rx
        · exact o.elim
      · have x2 := ext_newF (o := .tup (vs ++ ws)) s hq
        exact k (.ref q) _ _ x2 (.tup (.inl (.inl upd_same)) ((r1.append r2).mono x2.f))
    · cases e
  · cases e
end

section
variable {X : Cx} {a b e : Expr} {f g : Reg → Option D} {ta tb t : TE} {pos : Pos}
def de_add (ha : DB X a ta f) (hb : DB X b tb g) := (de_op (op_add.or op_add_str) rd_add ha hb : DE X (.BinOp a .Add b pos) (tOp _ ta tb) (bin2 f g dAdd))
def dn_cat (ha : DB X a ta f) (hb : DB X b tb g) := (dn_op op_catL rd_cat ha hb : DN X (.BinOp a .Add b pos) (tOp _ ta tb) (bin2 f g dCat))
def de_catT (ha : DB X a ta f) (hb : DB X b tb g) := (de_op op_catT rd_catT ha hb : DE X (.BinOp a .Add b pos) (tOp _ ta tb) (bin2 f g dCatT))
def de_sub (ha : DB X a ta f) (hb : DB X b tb g) := (de_op op_sub rd_sub ha hb : DE X (.BinOp a .Sub b pos) (tOp _ ta tb) (bin2 f g dSub))
def de_mul (ha : DB X a ta f) (hb : DB X b tb g) := (de_op op_mul rd_mul ha hb : DE X (.BinOp a .Mult b pos) (tOp _ ta tb) (bin2 f g dMul))
def de_mod (ha : DB X a ta f) (hb : DB X b tb g) := (de_op op_mod rd_mod ha hb : DE X (.BinOp a .Mod b pos) (tOp _ ta tb) (bin2 f g dMod))
def de_div (ha : DB X a ta f) (hb : DB X b tb g) := (de_op op_fdiv rd_div ha hb : DE X (.BinOp a .FloorDiv b pos) (tOp _ ta tb) (bin2 f g dDiv))
def de_pow (ha : DB X a ta f) (hb : DB X b tb g) := (de_op op_pow rd_pow ha hb : DE X (.BinOp a .Pow b pos) (tOp _ ta tb) (bin2 f g dPow))
def dNeg : D → Option D
  | .int a => some (.int (-a))
  | _ => none
def un1 (f : Reg → Option D) (h : D → Option D) : Reg → Option D := fun ρ => (f ρ).bind h
theorem de_neg (ha : DB X a ta f) : DE X (.UnaryOp .USub a pos) (tUn (rU fun i => .int (-i)) ta) (un1 f dNeg) := by
  refine ⟨pe_un un_neg ha.p, fun σ H F ρ d Q r e k => ?_⟩
  obtain ⟨x, e1, e2⟩ := Option.bind_eq_some_iff.mp e
  refine ha.q σ H F ρ x _ r e1 fun v H' F' x' rv => ?_
  unfold dNeg at e2
  split at e2
  · cases e2
    exact ⟨_, rv.int, k _ H' F' x' (.int _)⟩
  · cases e2
end
/-! ### comparisons -/
section
variable {Y : Kn}
def dLt : D → D → Option Bool
  | .int a, .int b => some (decide (a < b))
  | _, _ => none
def dLe : D → D → Option Bool
  | .int a, .int b => some (decide (a ≤ b))
  | _, _ => none
def dGt : D → D → Option Bool
  | .int a, .int b => some (decide (b < a))
  | _, _ => none
def dGe : D → D → Option Bool
  | .int a, .int b => some (decide (b ≤ a))
  | _, _ => none
/-- == of scalars -/
def dEq : D → D → Option Bool
  | .non, .non => some true
  | .int a, .int b => some (decide (a = b))
  | .str a, .str b => some (decide (a = b))
  | .bl a, .bl b => some (decide (a = b))
  | .non, .int _ => some false | .int _, .non => some false | .non, .str _ => some false | .str _, .non => some false | .int _, .str _ => some false | .str _, .int _ => some false
  | _, _ => none
def dNe (x y : D) : Option Bool := (dEq x y).map not
theorem rd_lt : RdT Y (rI0 fun i j => .bl (decide (i < j))) dLt := by
  intro H F x y da db c Q s rx ry e k
  unfold dLt at e
  split at e
  · cases e; exact ⟨_, _, rx.int, ry.int, k⟩
  · cases e
theorem rd_le : RdT Y (rI0 fun i j => .bl (decide (i ≤ j))) dLe := by
  intro H F x y da db c Q s rx ry e k
  unfold dLe at e
  split at e
  · cases e; exact ⟨_, _, rx.int, ry.int, k⟩
  · cases e
theorem rd_gt : RdT Y (rI0 fun i j => .bl (decide (j < i))) dGt := by
  intro H F x y da db c Q s rx ry e k
  unfold dGt at e
  split at e
  · cases e; exact ⟨_, _, rx.int, ry.int, k⟩
  · cases e
theorem rd_ge : RdT Y (rI0 fun i j => .bl (decide (j ≤ i))) dGe := by
  intro H F x y da db c Q s rx ry e k
  unfold dGe at e
  split at e
  · cases e; exact ⟨_, _, rx.int, ry.int, k⟩
  · cases e
theorem scal_eq {H F : Hp} {x y : V} {da db : D} {c : Bool} (rx : RepT Y H F x da) (ry : RepT Y H F y db) (e : dEq da db = some c) : scal x y = true ∧ decide (x = y) = c := by
  unfold dEq at e
  split at e
  · cases e; rw [rx.non, ry.non]; exact ⟨rfl, by simp⟩
  · cases e; rw [rx.int, ry.int]; exact ⟨rfl, by simp⟩
  · cases e
    obtain ⟨z, rfl, ez⟩ := rx.str
    obtain ⟨z', rfl, ez'⟩ := ry.str
    refine ⟨rfl, ?_⟩
    rw [← ez, ← ez', Bool.eq_iff_iff]
    simp only [decide_eq_true_eq, V.str.injEq]
    exact ⟨fun h => by rw [h], fun h => ext_tl h⟩
  · cases e; rw [rx.bl, ry.bl]; exact ⟨rfl, by simp⟩
  · cases e; rw [rx.non, ry.int]; exact ⟨rfl, by simp⟩
  · cases e; rw [rx.int, ry.non]; exact ⟨rfl, by simp⟩
  · cases e; obtain ⟨z', rfl, ez'⟩ := ry.str; rw [rx.non]; exact ⟨rfl, by simp⟩
  · cases e; obtain ⟨z', rfl, ez'⟩ := rx.str; rw [ry.non]; exact ⟨rfl, by simp⟩
  · cases e; obtain ⟨z', rfl, ez'⟩ := ry.str; rw [rx.int]; exact ⟨rfl, by simp⟩
  · cases e; obtain ⟨z', rfl, ez'⟩ := rx.str; rw [ry.int]; exact ⟨rfl, by simp⟩
  · cases e
theorem rd_eq : RdT Y rEq dEq := by
  intro H F x y da db c Q s rx ry e k
  obtain ⟨h1, h2⟩ := scal_eq rx ry e
  exact ⟨h1, by rw [h2]; exact k⟩
theorem rd_ne : RdT Y rNe dNe := by
  intro H F x y da db c Q s rx ry e k
  obtain ⟨c', e1, e2⟩ := Option.map_eq_some_iff.mp e
  obtain ⟨h1, h2⟩ := scal_eq rx ry e1
  exact ⟨h1, by rw [h2, e2]; exact k⟩
/-- flat items, as == sees them -/
def flatD : D → Bool
  | .non => true | .bl _ => true | .int _ => true | .str _ => true
  | _ => false
def eqvD : D → D → Bool
  | .non, .non => true
  | .bl a, .bl b => a == b
  | .bl a, .int b => (if a then 1 else 0) == b
  | .int a, .bl b => a == (if b then 1 else 0)
  | .int a, .int b => a == b
  | .str a, .str b => a == b
  | _, _ => false
theorem flat_rep {F : Hp} {v : V} {d : D} (r : Rep Y F v d) (h : flatD d = true) : flatV v = true := by
  cases r <;> first | rfl | exact absurd h Bool.false_ne_true
theorem flat_reps {F : Hp} : ∀ {vs : List V} {ds : List D}, Reps Y F vs ds → ds.all flatD = true → vs.all flatV = true
  | _, _, .nil, _ => rfl
  | _, _, .cons h t, e => by
    rw [List.all_cons, Bool.and_eq_true] at e ⊢
    exact ⟨flat_rep h e.1, flat_reps t e.2⟩
theorem eqv_rep {F F' : Hp} {v w : V} {d e : D} (r : Rep Y F v d) (q : Rep Y F' w e) : flatD d = true → flatD e = true → eqV v w = eqvD d e := by
  intro h1 h2
  cases r <;> first | exact absurd h1 Bool.false_ne_true | (cases q <;> first | exact absurd h2 Bool.false_ne_true | rfl | skip)
  rename_i z z'
  show (z == z') = (tl z == tl z')
  rw [Bool.eq_iff_iff]
  simp only [beq_iff_eq]
  exact ⟨fun h => by rw [h], fun h => ext_tl h⟩
def inD (x : D) (ds : List D) : Bool := ds.any fun y => eqvD y x
theorem in_reps {F F' : Hp} {v : V} {d : D} (r : Rep Y F v d) (h : flatD d = true) : ∀ {vs : List V} {ds : List D}, Reps Y F' vs ds → ds.all flatD = true → inV v vs = inD d ds
  | _, _, .nil, _ => rfl
  | _, _, .cons q t, e => by
    rw [List.all_cons, Bool.and_eq_true] at e
    show (eqV _ _ || inV _ _) = (eqvD _ _ || inD _ _)
    rw [eqv_rep q r e.1 h, in_reps r h t e.2]
def dIn (x y : D) : Option Bool := match seqD y with
  | some ds => if flatD x = true ∧ ds.all flatD = true then some (inD x ds) else none
  | none => none
def dNotIn (x y : D) : Option Bool := (dIn x y).map not
theorem in_core {H F : Hp} {x y : V} {da db : D} {c : Bool} (s : Sub F H) (rx : RepT Y H F x da) (ry : RepT Y H F y db) (e : dIn da db = some c) : ∃ p xs, y = .ref p ∧ (SqL Y.K H p xs ∨ SqT Y.K H p xs) ∧ flatV x = true ∧ xs.all flatV = true ∧ inV x xs = c := by
  unfold dIn at e
  split at e
  · rename_i ds hs
    split at e
    · rename_i hf
      cases e
      have rx' : Rep Y F x da := by
        rcases rx with rx | ⟨q, _, o⟩
        · exact rx
        · exact absurd hf.1 (by cases da <;> first | exact o.elim | exact Bool.false_ne_true)
      cases db with
      | lst ds' =>
        cases hs
        obtain ⟨p, vs, rfl, h1, r1⟩ := ry.lst s
        exact ⟨p, vs, rfl, .inl h1, flat_rep rx' hf.1, flat_reps r1 hf.2, in_reps rx' hf.1 r1 hf.2⟩
      | tup ds' =>
        cases hs
        obtain ⟨p, vs, rfl, h1, r1⟩ := ry.tup s
        exact ⟨p, vs, rfl, .inr h1, flat_rep rx' hf.1, flat_reps r1 hf.2, in_reps rx' hf.1 r1 hf.2⟩
      | _ => cases hs
    · cases e
  · cases e
theorem rd_in : RdT Y (rIn Y.K false) dIn := by
  intro H F x y da db c Q s rx ry e k
  obtain ⟨p, xs, h1, h2, h3, h4, h5⟩ := in_core s rx ry e
  exact ⟨p, xs, h1, h2, h3, h4, by rw [h5]; exact k⟩
theorem rd_notIn : RdT Y (rIn Y.K true) dNotIn := by
  intro H F x y da db c Q s rx ry e k
  obtain ⟨c', e1, e2⟩ := Option.map_eq_some_iff.mp e
  obtain ⟨p, xs, h1, h2, h3, h4, h5⟩ := in_core s rx ry e1
  exact ⟨p, xs, h1, h2, h3, h4, by rw [h5, e2]; exact k⟩
/-- a sign in a text -/
def dInS : D → D → Option Bool
  | .str [c], .str z => some (decide (c ∈ z))
  | _, _ => none
def dNotInS (x y : D) : Option Bool := (dInS x y).map not
theorem ins_core {H F : Hp} {x y : V} {da db : D} {c : Bool} (rx : RepT Y H F x da) (ry : RepT Y H F y db) (e : dInS da db = some c) : ∃ (k : Nat) (z : Str), x = .str ⟨#[k]⟩ ∧ y = .str z ∧ decide (k ∈ z.cps.toList) = c := by
  unfold dInS at e
  split at e
  · rename_i k z
    cases e
    obtain ⟨w, rfl, ew⟩ := rx.str
    obtain ⟨z', rfl, ez'⟩ := ry.str
    subst ez'
    refine ⟨k, z', ?_, rfl, rfl⟩
    congr 1
    exact ext_tl ew
  · cases e
theorem rd_inS : RdT Y (fun x y H Q => ∃ (c : Nat) (z : Str), x = .str ⟨#[c]⟩ ∧ y = .str z ∧ Q (.bl (decide (c ∈ z.cps.toList))) H) dInS := by
  intro H F x y da db c Q s rx ry e k
  obtain ⟨n, z, h1, h2, h3⟩ := ins_core rx ry e
  exact ⟨n, z, h1, h2, by rw [h3]; exact k⟩
theorem rd_notInS : RdT Y (fun x y H Q => ∃ (c : Nat) (z : Str), x = .str ⟨#[c]⟩ ∧ y = .str z ∧ Q (.bl (!decide (c ∈ z.cps.toList))) H) dNotInS := by
  intro H F x y da db c Q s rx ry e k
  obtain ⟨c', e1, e2⟩ := Option.map_eq_some_iff.mp e
  obtain ⟨n, z, h1, h2, h3⟩ := ins_core rx ry e1
  exact ⟨n, z, h1, h2, by rw [h3, e2]; exact k⟩
def dIsN : D → D → Option Bool
  | .non, .non => some true
  | _, .non => some false
  | _, _ => none
def dNotN (x y : D) : Option Bool := (dIsN x y).map not
theorem isn_core {H F : Hp} {x y : V} {da db : D} {c : Bool} (rx : RepT Y H F x da) (ry : RepT Y H F y db) (e : dIsN da db = some c) : y = .non ∧ decide (x = V.non) = c := by
  have h := rx.isNon
  unfold dIsN at e
  split at e
  · cases e; exact ⟨ry.non, h⟩
  · rename_i hne
    cases e
    refine ⟨ry.non, h.trans ?_⟩
    cases da <;> first | rfl | exact (hne rfl).elim | exact (hne rfl rfl).elim
  · cases e
theorem rd_isN : RdT Y (fun x y H Q => y = .non ∧ Q (.bl (decide (x = .non))) H) dIsN := by
  intro H F x y da db c Q s rx ry e k
  obtain ⟨h1, h2⟩ := isn_core rx ry e
  exact ⟨h1, by rw [h2]; exact k⟩
theorem rd_notN : RdT Y (fun x y H Q => y = .non ∧ Q (.bl (!decide (x = .non))) H) dNotN := by
  intro H F x y da db c Q s rx ry e k
  obtain ⟨c', e1, e2⟩ := Option.map_eq_some_iff.mp e
  obtain ⟨h1, h2⟩ := isn_core rx ry e1
  exact ⟨h1, by rw [h2, e2]; exact k⟩
end
section
variable {X : Cx} {a b c e : Expr} {f g h : Reg → Option D} {ta tb tc t : TE} {pos : Pos} {tA tB' : TT} {p q : Reg → Option Bool} {rest : List Expr}
/-! ### tests -/
def dTru : D → Option Bool
  | .non => some false
  | .bl b => some b
  | .int i => some (i != 0)
  | .str l => if l.length ≤ sizeLine then some (!l.isEmpty) else none
  | .lst ds => some (!ds.isEmpty)
  | .tup ds => some (!ds.isEmpty)
  | .dic kvs => some (!kvs.isEmpty)
  | .obj _ _ => none
theorem tru_of {Y : Kn} {H F : Hp} {v : V} {d : D} {k : Bool} (s : Sub F H) (r : RepT Y H F v d) (e : dTru d = some k) : TruV Y.K v H k := by
  cases d with
  | non => cases e; rw [r.non]; exact rfl
  | bl b => cases e; rw [r.bl]; exact rfl
  | int i => cases e; rw [r.int]; exact rfl
  | str l =>
    obtain ⟨z, rfl, ez⟩ := r.str
    unfold dTru at e
    dsimp only at e
    split at e
    · rename_i hz
      cases e
      refine ⟨by rw [len_tl, ez]; exact hz, ?_⟩
      rw [len_tl, ez]
      cases l with
      | nil => rfl
      | cons x xs => simp; omega
    · cases e
  | lst ds =>
    cases e
    obtain ⟨p, vs, rfl, h1, r1⟩ := r.lst s
    refine .inl ⟨vs, h1, ?_⟩
    cases r1 <;> rfl
  | tup ds =>
    cases e
    obtain ⟨p, vs, rfl, h1, r1⟩ := r.tup s
    refine .inr (.inl ⟨vs, h1, ?_⟩)
    cases r1 <;> rfl
  | dic kvs =>
    cases e
    rcases r with r | ⟨p, rfl, kvs', h1, r1⟩
    · cases r with
      | dic h1 r1 => refine .inr (.inr ⟨_, s _ _ h1, ?_⟩); cases r1 <;> rfl
    · refine .inr (.inr ⟨_, h1, ?_⟩); cases r1 <;> rfl
  | obj _ _ => cases e
def truT (f : Reg → Option D) : Reg → Option Bool := fun ρ => (f ρ).bind dTru
theorem dt_tru (ha : DB X a ta f) (he : ∀ whole, isTrue a X.env whole = (do let v ← whole; standAt a.pos; holding [v] (truthy v)) := by intro _; rfl) : DT X a (fun σ H Q => ta σ H fun x H' => ∃ k, TruV X.K x H' k ∧ Q k H') (truT f) := by
  refine ⟨pt_truth ha.p he, fun σ H F ρ b Q r e k => ?_⟩
  obtain ⟨d, e1, e2⟩ := Option.bind_eq_some_iff.mp e
  exact ha.q σ H F ρ d _ r e1 fun v H' F' x rv => ⟨b, tru_of x.s rv e2, k H' F' x⟩
def notT (p : Reg → Option Bool) : Reg → Option Bool := fun ρ => (p ρ).map not
def andT (p q : Reg → Option Bool) : Reg → Option Bool := fun ρ => (p ρ).bind fun c => if c then q ρ else some false
def orT (p q : Reg → Option Bool) : Reg → Option Bool := fun ρ => (p ρ).bind fun c => if c then some true else q ρ
theorem dt_not (ha : DT X a tA p) : DT X (.UnaryOp .Not a pos) (tNot tA) (notT p) := by
  refine ⟨pt_not ha.p, fun σ H F ρ b Q r e k => ?_⟩
  obtain ⟨c, e1, e2⟩ := Option.map_eq_some_iff.mp e
  exact ha.q σ H F ρ c _ r e1 fun H' F' x => by rw [e2]; exact k H' F' x
/-- a chain of and, or: any 'whole' -/
structure DW (X : Cx) (e : Expr) (t : TT) (f : Reg → Option Bool) : Prop where
  p : PW X e t
  q : EvT (kn X) t f
theorem DW.toT (h : DW X e tA p) : DT X e tA p := ⟨h.p.pt, h.q⟩
theorem dw_and1 (ha : DT X a tA p) : DW X (.BoolOp .And [a] pos) tA p := ⟨pw_and1 ha.p, ha.q⟩
theorem dw_or1 (ha : DT X a tA p) : DW X (.BoolOp .Or [a] pos) tA p := ⟨pw_or1 ha.p, ha.q⟩
theorem dw_and (ha : DT X a tA p) (hb : DW X (.BoolOp .And (b :: rest) pos) tB' q) : DW X (.BoolOp .And (a :: b :: rest) pos) (tAnd tA tB') (andT p q) := by
  refine ⟨pw_and ha.p hb.p, fun σ H F ρ c Q r e k => ?_⟩
  obtain ⟨c1, e1, e2⟩ := Option.bind_eq_some_iff.mp e
  refine ha.q σ H F ρ c1 _ r e1 fun H' F' x => ?_
  cases c1 with
  | true => exact iteT (hb.q σ H' F' ρ c _ (r.ext x) e2 fun H2 F2 x2 => k H2 F2 (x.trans x2))
  | false => cases e2; exact iteF (k H' F' x)
theorem dw_or (ha : DT X a tA p) (hb : DW X (.BoolOp .Or (b :: rest) pos) tB' q) : DW X (.BoolOp .Or (a :: b :: rest) pos) (tOr tA tB') (orT p q) := by
  refine ⟨pw_or ha.p hb.p, fun σ H F ρ c Q r e k => ?_⟩
  obtain ⟨c1, e1, e2⟩ := Option.bind_eq_some_iff.mp e
  refine ha.q σ H F ρ c1 _ r e1 fun H' F' x => ?_
  cases c1 with
  | true => cases e2; exact iteT (k H' F' x)
  | false => exact iteF (hb.q σ H' F' ρ c _ (r.ext x) e2 fun H2 F2 x2 => k H2 F2 (x.trans x2))
/-- a if t else b -/
def ifV (p : Reg → Option Bool) (f g : Reg → Option D) : Reg → Option D := fun ρ => (p ρ).bind fun c => if c then f ρ else g ρ
theorem de_if (hc : DT X c tA p) (ha : DE X a ta f) (hb : DE X b tb g) : DE X (.IfExp c a b pos) (tIf tA ta tb) (ifV p f g) := by
  refine ⟨pe_ifExp hc.p ha.p hb.p, fun σ H F ρ d Q r e k => ?_⟩
  obtain ⟨c1, e1, e2⟩ := Option.bind_eq_some_iff.mp e
  refine hc.q σ H F ρ c1 _ r e1 fun H' F' x => ?_
  cases c1 with
  | true => exact iteT (ha.q σ H' F' ρ d _ (r.ext x) e2 fun v H2 F2 x2 r2 => k v H2 F2 (x.trans x2) r2)
  | false => exact iteF (hb.q σ H' F' ρ d _ (r.ext x) e2 fun v H2 F2 x2 r2 => k v H2 F2 (x.trans x2) r2)
/-- x and y, x or y as values -/
def andV (f g : Reg → Option D) : Reg → Option D := fun ρ => (f ρ).bind fun d => (dTru d).bind fun c => if c then g ρ else some d
def orV (f g : Reg → Option D) : Reg → Option D := fun ρ => (f ρ).bind fun d => (dTru d).bind fun c => if c then some d else g ρ
theorem de_one {op : BoolOp} (h : DE X a t f) : DE X (.BoolOp op [a] pos) t f := ⟨pe_one h.p, h.q⟩
theorem de_and (ha : DE X a ta f) (hb : DE X (.BoolOp .And (b :: rest) pos) tb g) : DE X (.BoolOp .And (a :: b :: rest) pos) (tAndT X.K ta tb) (andV f g) := by
  refine ⟨pe_andT ha.p hb.p, fun σ H F ρ d Q r e k => ?_⟩
  obtain ⟨d1, e1, e⟩ := Option.bind_eq_some_iff.mp e
  obtain ⟨c1, e2, e3⟩ := Option.bind_eq_some_iff.mp e
  refine ha.q σ H F ρ d1 _ r e1 fun v H' F' x rv => ⟨c1, tru_of x.s (.inl rv) e2, ?_⟩
  cases c1 with
  | true => exact iteT (hb.q σ H' F' ρ d _ (r.ext x) e3 fun v H2 F2 x2 r2 => k v H2 F2 (x.trans x2) r2)
  | false => cases e3; exact iteF (k v H' F' x rv)
theorem de_or (ha : DE X a ta f) (hb : DE X (.BoolOp .Or (b :: rest) pos) tb g) : DE X (.BoolOp .Or (a :: b :: rest) pos) (tOrT X.K ta tb) (orV f g) := by
  refine ⟨pe_orT ha.p hb.p, fun σ H F ρ d Q r e k => ?_⟩
  obtain ⟨d1, e1, e⟩ := Option.bind_eq_some_iff.mp e
  obtain ⟨c1, e2, e3⟩ := Option.bind_eq_some_iff.mp e
  refine ha.q σ H F ρ d1 _ r e1 fun v H' F' x rv => ⟨c1, tru_of x.s (.inl rv) e2, ?_⟩
  cases c1 with
  | false => exact iteF (hb.q σ H' F' ρ d _ (r.ext x) e3 fun v H2 F2 x2 r2 => k v H2 F2 (x.trans x2) r2)
  | true => cases e3; exact iteT (k v H' F' x rv)
theorem de_not (ha : DB X a ta f) : DE X (.UnaryOp .Not a pos) (tNotT X.K ta) (bV (notT (truT f))) := by
  refine ⟨pe_notT ha.p, fun σ H F ρ d Q r e k => ?_⟩
  obtain ⟨c, e0, e'⟩ := Option.bind_eq_some_iff.mp e
  cases e'
  obtain ⟨c1, e1, e2⟩ := Option.map_eq_some_iff.mp e0
  obtain ⟨d, e3, e4⟩ := Option.bind_eq_some_iff.mp e1
  refine ha.q σ H F ρ d _ r e3 fun v H' F' x rv => ⟨c1, tru_of x.s rv e4, ?_⟩
  rw [e2]
  exact k _ H' F' x (.bl _)
/-! the comparisons by their names -/
def dt_lt (ha : DB X a ta f) (hb : DB X b tb g) := (dt_cmp op_lt rd_lt (nomark _) ha hb : DT X (.Compare a [.Lt] [b] pos) (tTest (tOp _ ta tb)) (cmp2 f g dLt))
def dt_le (ha : DB X a ta f) (hb : DB X b tb g) := (dt_cmp op_le rd_le (nomark _) ha hb : DT X (.Compare a [.LtE] [b] pos) (tTest (tOp _ ta tb)) (cmp2 f g dLe))
def dt_gt (ha : DB X a ta f) (hb : DB X b tb g) := (dt_cmp op_gt rd_gt (nomark _) ha hb : DT X (.Compare a [.Gt] [b] pos) (tTest (tOp _ ta tb)) (cmp2 f g dGt))
def dt_ge (ha : DB X a ta f) (hb : DB X b tb g) := (dt_cmp op_ge rd_ge (nomark _) ha hb : DT X (.Compare a [.GtE] [b] pos) (tTest (tOp _ ta tb)) (cmp2 f g dGe))
def dt_eq (ha : DB X a ta f) (hb : DB X b tb g) := (dt_cmp op_eq rd_eq (nomark _) ha hb : DT X (.Compare a [.Eq] [b] pos) (tTest (tOp _ ta tb)) (cmp2 f g dEq))
def dt_ne (ha : DB X a ta f) (hb : DB X b tb g) := (dt_cmp op_ne rd_ne (nomark _) ha hb : DT X (.Compare a [.NotEq] [b] pos) (tTest (tOp _ ta tb)) (cmp2 f g dNe))
def dt_in (ha : DB X a ta f) (hb : DB X b tb g) (hm : behindInMarks .In b = false := by rfl) := (dt_cmp op_in_seq rd_in hm ha hb : DT X (.Compare a [.In] [b] pos) (tTest (tOp _ ta tb)) (cmp2 f g dIn))
def dt_notIn (ha : DB X a ta f) (hb : DB X b tb g) (hm : behindInMarks .NotIn b = false := by rfl) := (dt_cmp op_notIn_seq rd_notIn hm ha hb : DT X (.Compare a [.NotIn] [b] pos) (tTest (tOp _ ta tb)) (cmp2 f g dNotIn))
def dt_inS (ha : DB X a ta f) (hb : DB X b tb g) (hm : behindInMarks .In b = false := by rfl) := (dt_cmp op_in_sign rd_inS hm ha hb : DT X (.Compare a [.In] [b] pos) (tTest (tOp _ ta tb)) (cmp2 f g dInS))
def dt_notInS (ha : DB X a ta f) (hb : DB X b tb g) (hm : behindInMarks .NotIn b = false := by rfl) := (dt_cmp op_notIn_sign rd_notInS hm ha hb : DT X (.Compare a [.NotIn] [b] pos) (tTest (tOp _ ta tb)) (cmp2 f g dNotInS))
def dt_isN (ha : DB X a ta f) (hb : DB X b tb g) := (dt_cmp op_isN rd_isN (nomark _) ha hb : DT X (.Compare a [.Is] [b] pos) (tTest (tOp _ ta tb)) (cmp2 f g dIsN))
def dt_notN (ha : DB X a ta f) (hb : DB X b tb g) := (dt_cmp op_notN rd_notN (nomark _) ha hb : DT X (.Compare a [.IsNot] [b] pos) (tTest (tOp _ ta tb)) (cmp2 f g dNotN))
def de_lt (ha : DB X a ta f) (hb : DB X b tb g) := (de_cmp op_lt rd_lt (nomark _) ha hb : DE X (.Compare a [.Lt] [b] pos) (tOp _ ta tb) (bV (cmp2 f g dLt)))
def de_le (ha : DB X a ta f) (hb : DB X b tb g) := (de_cmp op_le rd_le (nomark _) ha hb : DE X (.Compare a [.LtE] [b] pos) (tOp _ ta tb) (bV (cmp2 f g dLe)))
def de_gt (ha : DB X a ta f) (hb : DB X b tb g) := (de_cmp op_gt rd_gt (nomark _) ha hb : DE X (.Compare a [.Gt] [b] pos) (tOp _ ta tb) (bV (cmp2 f g dGt)))
def de_ge (ha : DB X a ta f) (hb : DB X b tb g) := (de_cmp op_ge rd_ge (nomark _) ha hb : DE X (.Compare a [.GtE] [b] pos) (tOp _ ta tb) (bV (cmp2 f g dGe)))
def de_eq (ha : DB X a ta f) (hb : DB X b tb g) := (de_cmp op_eq rd_eq (nomark _) ha hb : DE X (.Compare a [.Eq] [b] pos) (tOp _ ta tb) (bV (cmp2 f g dEq)))
def de_ne (ha : DB X a ta f) (hb : DB X b tb g) := (de_cmp op_ne rd_ne (nomark _) ha hb : DE X (.Compare a [.NotEq] [b] pos) (tOp _ ta tb) (bV (cmp2 f g dNe)))
def de_in (ha : DB X a ta f) (hb : DB X b tb g) (hm : behindInMarks .In b = false := by rfl) := (de_cmp op_in_seq rd_in hm ha hb : DE X (.Compare a [.In] [b] pos) (tOp _ ta tb) (bV (cmp2 f g dIn)))
def de_notIn (ha : DB X a ta f) (hb : DB X b tb g) (hm : behindInMarks .NotIn b = false := by rfl) := (de_cmp op_notIn_seq rd_notIn hm ha hb : DE X (.Compare a [.NotIn] [b] pos) (tOp _ ta tb) (bV (cmp2 f g dNotIn)))
def de_inS (ha : DB X a ta f) (hb : DB X b tb g) (hm : behindInMarks .In b = false := by rfl) := (de_cmp op_in_sign rd_inS hm ha hb : DE X (.Compare a [.In] [b] pos) (tOp _ ta tb) (bV (cmp2 f g dInS)))
def de_isN (ha : DB X a ta f) (hb : DB X b tb g) := (de_cmp op_isN rd_isN (nomark _) ha hb : DE X (.Compare a [.Is] [b] pos) (tOp _ ta tb) (bV (cmp2 f g dIsN)))
def de_notN (ha : DB X a ta f) (hb : DB X b tb g) := (de_cmp op_notN rd_notN (nomark _) ha hb : DE X (.Compare a [.IsNot] [b] pos) (tOp _ ta tb) (bV (cmp2 f g dNotN)))
/-! ### items, slices -/
def dIxL : D → D → Option D
  | .lst ds, .int i => atI ds i
  | .tup ds, .int i => atI ds i
  | .str l, .int i => if l.length ≤ sizeLine then (atI l i).map fun c => .str [c] else none
  | _, _ => none
theorem atI_reps {Y : Kn} {F : Hp} {vs : List V} {ds : List D} {i : Int} {d : D} (r : Reps Y F vs ds) (h : atI ds i = some d) : ∃ v, atI vs i = some v ∧ Rep Y F v d := by
  unfold atI at h ⊢
  rw [r.length]
  obtain ⟨j, h1, h2⟩ := Option.bind_eq_some_iff.mp h
  obtain ⟨v, g1, g2⟩ := r.get h2
  exact ⟨v, by rw [h1]; exact g1, g2⟩
theorem rd_ix {Y : Kn} : RdE Y (rIx Y.K) dIxL := by
  intro H F x y da db d Q s rx ry e k
  unfold dIxL at e
  split at e
  · obtain ⟨p, vs, rfl, h1, r1⟩ := rx.lst s
    obtain ⟨v, g1, g2⟩ := atI_reps r1 e
    exact .inl ⟨p, vs, _, v, rfl, ry.int, h1, g1, k v H F (.refl s) g2⟩
  · obtain ⟨p, vs, rfl, h1, r1⟩ := rx.tup s
    obtain ⟨v, g1, g2⟩ := atI_reps r1 e
    exact .inr (.inl ⟨p, vs, _, v, rfl, ry.int, h1, g1, k v H F (.refl s) g2⟩)
  · split at e
    · rename_i hz
      obtain ⟨z, rfl, ez⟩ := rx.str
      subst ez
      obtain ⟨c, h1, h2⟩ := Option.map_eq_some_iff.mp e
      refine .inr (.inr ⟨z, _, c, rfl, ry.int, by rw [len_tl]; exact hz, h1, k _ H F (.refl s) ?_⟩)
      rw [← h2]
      exact .str ⟨#[c]⟩
    · cases e
  · cases e
theorem de_ix (ha : DB X a ta f) (hb : DB X b tb g) (hs : PlainIx b := by exact fun _ _ => rfl) : DE X (.Subscript a b pos) (tOp (rIx X.K) ta tb) (bin2 f g dIxL) := by
  refine ⟨pe_ix ix_seq ha.p hb.p hs, fun σ H F ρ d Q r0 e k => ?_⟩
  obtain ⟨x, y, e1, e2, e3⟩ := bin2_some e
  exact two (r := rIx X.K) ha.q hb.q r0 e1 e2 fun v w H' F' x' r1 r2 => rd_ix H' F' v w x y d Q x'.s r1 r2 e3 fun u H2 F2 x2 r3 => k u H2 F2 (x'.trans x2) r3
/-- a slice's part -/
structure DO (X : Cx) (e : Option Expr) (t : TO) (f : Reg → Option (Option Int)) : Prop where
  p : PO X e t
  q : ∀ (σ : L2.St) (H F : Hp) (ρ : Reg) (d : Option Int) (Q : Option Int → Hp → Prop), R0 (kn X) H F σ ρ → f ρ = some d → (∀ H' F', Ext H F H' F' → Q d H') → t σ H Q
def parV (f : Reg → Option D) : Reg → Option (Option Int) := fun ρ => (f ρ).bind fun
  | .int i => some (some i)
  | _ => none
theorem do_none : DO X none tNoPart (fun _ => some none) := ⟨po_none, fun σ H F ρ d Q r e k => by cases e; exact k H F (.refl r.sub)⟩
theorem do_some (h : DB X e t f) : DO X (some e) (tPart t) (parV f) := by
  refine ⟨po_some h.p, fun σ H F ρ d Q r e k => ?_⟩
  obtain ⟨d1, e1, e2⟩ := Option.bind_eq_some_iff.mp e
  split at e2
  · cases e2
    exact h.q σ H F ρ _ _ r e1 fun v H' F' x rv => ⟨_, rv.int, k H' F' x⟩
  · cases e2
/-- the place of a slice's end -/
def cutG {α : Type} (xs : List α) (lo hi : Option Int) : List α := (xs.drop (HT.sIx xs.length 0 lo)).take (HT.sIx xs.length xs.length hi - HT.sIx xs.length 0 lo)
def slV (f : Reg → Option D) (lo hi : Reg → Option (Option Int)) (h : D → Option Int → Option Int → Option D) : Reg → Option D := fun ρ => (f ρ).bind fun d => (lo ρ).bind fun l => (hi ρ).bind fun u => h d l u
def dSlL : D → Option Int → Option Int → Option D
  | .lst ds, l, u => some (.lst (cutG ds l u))
  | _, _, _ => none
def dSlS : D → Option Int → Option Int → Option D
  | .str z, l, u => if z.length ≤ sizeLine then some (.str (cutG z l u)) else none
  | _, _, _ => none
def dSlT : D → Option Int → Option Int → Option D
  | .tup ds, l, u => if ¬ (HT.sIx ds.length 0 l = 0 ∧ HT.sIx ds.length ds.length u = ds.length) then some (.tup (cutG ds l u)) else none
  | _, _, _ => none
theorem sl_run {r : V → Option Int → Option Int → Hp → VK → Prop} {tl th : TO} {lo hi : Option Expr} {fl fh : Reg → Option (Option Int)} {hh : D → Option Int → Option Int → Option D} (ha : DB X a ta f) (hl : DO X lo tl fl) (hu : DO X hi th fh) {σ : L2.St} {H F : Hp} {ρ : Reg} {d : D} {Q : VK}
    (r0 : R0 (kn X) H F σ ρ) (e : slV f fl fh hh ρ = some d) (k : ∀ v H' F' x l u, Ext H F H' F' → RepT (kn X) H' F' v x → hh x l u = some d → r v l u H' Q) : tSl r ta tl th σ H Q := by
  obtain ⟨x, e1, e⟩ := Option.bind_eq_some_iff.mp e
  obtain ⟨l, e2, e⟩ := Option.bind_eq_some_iff.mp e
  obtain ⟨u, e3, e⟩ := Option.bind_eq_some_iff.mp e
  refine ha.q σ H F ρ x _ r0 e1 fun v H1 F1 x1 r1 => hl.q σ H1 F1 ρ l _ (r0.ext x1) e2 fun H2 F2 x2 => hu.q σ H2 F2 ρ u _ (r0.ext (x1.trans x2)) e3 fun H3 F3 x3 => ?_
  exact k v H3 F3 x l u (x1.trans (x2.trans x3)) (r1.ext (x2.trans x3)) e
theorem cutG_reps {Y : Kn} {F : Hp} {vs : List V} {ds : List D} (r : Reps Y F vs ds) (l u : Option Int) : Reps Y F (cutV vs l u) (cutG ds l u) := by
  unfold cutV cutG
  rw [r.length]
  exact (r.drop _).take _
theorem dn_sl {lo hi : Option Expr} {tl th : TO} {fl fh : Reg → Option (Option Int)} {p2 : Pos} (ha : DB X a ta f) (hl : DO X lo tl fl) (hu : DO X hi th fh) : DN X (.Subscript a (.Slice lo hi none p2) pos) (tSl (rSlL X.K) ta tl th) (slV f fl fh dSlL) := by
  refine ⟨pe_slice sl_list ha.p hl.p hu.p, fun σ H F ρ d Q r e k => sl_run ha hl hu r e fun v H' F' x l u x' rv e' => ?_⟩
  unfold dSlL at e'
  split at e'
  · cases e'
    obtain ⟨p, vs, rfl, h1, r1⟩ := rv.lst x'.s
    refine ⟨p, vs, rfl, h1, fun q hq => ?_⟩
    exact k q _ F' (x'.trans (ext_new x'.s hq)) (none_of_sub x'.h hq) (none_of_sub x'.s hq) ⟨_, upd_same, cutG_reps r1 l u⟩
  · cases e'
theorem de_slS {lo hi : Option Expr} {tl' th : TO} {fl fh : Reg → Option (Option Int)} {p2 : Pos} (ha : DB X a ta f) (hl : DO X lo tl' fl) (hu : DO X hi th fh) : DE X (.Subscript a (.Slice lo hi none p2) pos) (tSl rSlS ta tl' th) (slV f fl fh dSlS) := by
  refine ⟨pe_slice sl_str ha.p hl.p hu.p, fun σ H F ρ d Q r e k => sl_run ha hl hu r e fun v H' F' x l u x' rv e' => ?_⟩
  unfold dSlS at e'
  split at e'
  · split at e'
    · rename_i hz
      cases e'
      obtain ⟨z, rfl, ez⟩ := rv.str
      subst ez
      refine ⟨z, rfl, by rw [len_tl]; exact hz, k _ H' F' x' ?_⟩
      have h := Rep.str (Y := kn X) (F := F') (cutS z l u)
      have e2 : tl (cutS z l u) = cutG (tl z) l u := by
        unfold cutS cutG
        rw [tl_mk, len_tl]
      rw [e2] at h
      exact h
    · cases e'
  · cases e'
theorem de_slT {lo hi : Option Expr} {tl th : TO} {fl fh : Reg → Option (Option Int)} {p2 : Pos} (ha : DB X a ta f) (hl : DO X lo tl fl) (hu : DO X hi th fh) : DE X (.Subscript a (.Slice lo hi none p2) pos) (tSl (rSlT X.K) ta tl th) (slV f fl fh dSlT) := by
  refine ⟨pe_slice sl_tup ha.p hl.p hu.p, fun σ H F ρ d Q r e k => sl_run ha hl hu r e fun v H' F' x l u x' rv e' => ?_⟩
  unfold dSlT at e'
  split at e'
  · split at e'
    · rename_i hz
      cases e'
      obtain ⟨p, vs, rfl, h1, r1⟩ := rv.tup x'.s
      refine ⟨p, vs, rfl, h1, by rw [r1.length]; exact hz, fun q hq => ?_⟩
      have x2 := ext_newF (o := .tup (cutV vs l u)) x'.s hq
      exact k (.ref q) _ _ (x'.trans x2) (.tup (.inl (.inl upd_same)) ((cutG_reps r1 l u).mono x2.f))
    · cases e'
  · cases e'
/-! ### builtins by their names: one borrowed argument -/
/-- what a call of one value gives, frozen -/
def RcE (Y : Kn) (r : List V → Hp → VK → Prop) (g : D → Option D) : Prop := ∀ (H F : Hp) (x : V) (da d : D) (Q : VK), Sub F H → RepT Y H F x da → g da = some d → (∀ v H' F', Ext H F H' F' → Rep Y F' v d → Q v H') → r [x] H Q
def RcN (Y : Kn) (r : List V → Hp → VK → Prop) (g : D → Option D) : Prop := ∀ (H F : Hp) (x : V) (da d : D) (Q : VK), Sub F H → RepT Y H F x da → g da = some d → (∀ a H' F', Ext H F H' F' → H a = none → F' a = none → Own Y H' F' a d → Q (.ref a) H') → r [x] H Q
theorem de_callB {id : String} {x : Str} {r : List V → Hp → VK → Prop} {g : D → Option D} {p : Pos} (hc : CallR X (.builtin id) r) (hr : RcE (kn X) r g) (hm : X.mg x = none) (hv : bootBuiltins x = some (.builtin id)) (ha : DB X a ta f) (hg : Gl X x := by rfl) (hn : x ≠ "__name__" := by decide) (hdb : (x == ("__debug__" : Str)) = false := by decide)
    (hs : starEach [a] X.env = (false, eval a X.env) :: starEach [] X.env := by rfl) (hpl : (backTo pos (starEach [] X.env)).any (·.1) = false := by rfl) : DE X (.Call (.Name x p) [a] [] pos) (tCB r (tCons ta tNil)) (un1 f g) := by
  refine ⟨pe_callB hc hg hm hv (pa_cons ha.p pa_nil hs) hn hdb hs hpl, fun σ H F ρ d Q r0 e k => ?_⟩
  obtain ⟨d1, e1, e2⟩ := Option.bind_eq_some_iff.mp e
  exact ha.q σ H F ρ d1 _ r0 e1 fun v H' F' x' rv => hr H' F' v d1 d Q x'.s rv e2 fun u H2 F2 x2 r2 => k u H2 F2 (x'.trans x2) r2
theorem de_callT {id : String} {x : Str} {r : List V → Hp → VK → Prop} {g : D → Option D} {p : Pos} (hc : CallR X (.type id) r) (hr : RcE (kn X) r g) (hm : X.mg x = none) (hv : bootBuiltins x = some (.type id)) (ha : DB X a ta f) (hg : Gl X x := by rfl) (hn : x ≠ "__name__" := by decide) (hdb : (x == ("__debug__" : Str)) = false := by decide)
    (hs : starEach [a] X.env = (false, eval a X.env) :: starEach [] X.env := by rfl) (hpl : (backTo pos (starEach [] X.env)).any (·.1) = false := by rfl) : DE X (.Call (.Name x p) [a] [] pos) (tCB r (tCons ta tNil)) (un1 f g) := by
  refine ⟨pe_callTy hc hg hm hv (pa_cons ha.p pa_nil hs) hn hdb hs hpl, fun σ H F ρ d Q r0 e k => ?_⟩
  obtain ⟨d1, e1, e2⟩ := Option.bind_eq_some_iff.mp e
  exact ha.q σ H F ρ d1 _ r0 e1 fun v H' F' x' rv => hr H' F' v d1 d Q x'.s rv e2 fun u H2 F2 x2 r2 => k u H2 F2 (x'.trans x2) r2
theorem dn_callT {id : String} {x : Str} {r : List V → Hp → VK → Prop} {g : D → Option D} {p : Pos} (hc : CallR X (.type id) r) (hr : RcN (kn X) r g) (hm : X.mg x = none) (hv : bootBuiltins x = some (.type id)) (ha : DB X a ta f) (hg : Gl X x := by rfl) (hn : x ≠ "__name__" := by decide) (hdb : (x == ("__debug__" : Str)) = false := by decide)
    (hs : starEach [a] X.env = (false, eval a X.env) :: starEach [] X.env := by rfl) (hpl : (backTo pos (starEach [] X.env)).any (·.1) = false := by rfl) : DN X (.Call (.Name x p) [a] [] pos) (tCB r (tCons ta tNil)) (un1 f g) := by
  refine ⟨pe_callTy hc hg hm hv (pa_cons ha.p pa_nil hs) hn hdb hs hpl, fun σ H F ρ d Q r0 e k => ?_⟩
  obtain ⟨d1, e1, e2⟩ := Option.bind_eq_some_iff.mp e
  exact ha.q σ H F ρ d1 _ r0 e1 fun v H' F' x' rv => hr H' F' v d1 d Q x'.s rv e2 fun u H2 F2 x2 n0 n1 o => k u H2 F2 (x'.trans x2) (none_of_sub x'.h n0) n1 o
def dLen : D → Option D
  | .lst ds => some (.int ds.length)
  | .tup ds => some (.int ds.length)
  | .str l => if l.length ≤ sizeLine then some (.int l.length) else none
  | _ => none
theorem rc_len {Y : Kn} : RcE Y (fun xs H Q => ∃ x n, xs = [x] ∧ LenV Y.K x H n ∧ Q (.int n) H) dLen := by
  intro H F x da d Q s rx e k
  unfold dLen at e
  split at e
  · cases e
    obtain ⟨p, vs, rfl, h1, r1⟩ := rx.lst s
    exact ⟨_, _, rfl, .inl ⟨vs, h1, r1.length.symm⟩, k _ H F (.refl s) (.int _)⟩
  · cases e
    obtain ⟨p, vs, rfl, h1, r1⟩ := rx.tup s
    exact ⟨_, _, rfl, .inr ⟨vs, h1, r1.length.symm⟩, k _ H F (.refl s) (.int _)⟩
  · split at e
    · rename_i hz
      cases e
      obtain ⟨z, rfl, ez⟩ := rx.str
      subst ez
      exact ⟨_, _, rfl, ⟨by rw [len_tl]; exact hz, (len_tl z).symm⟩, k _ H F (.refl s) (.int _)⟩
    · cases e
  · cases e
def de_len {p : Pos} (hm : X.mg "len" = none) (ha : DB X a ta f) (hg : Gl X "len" := by rfl) (hs : starEach [a] X.env = (false, eval a X.env) :: starEach [] X.env := by rfl) (hpl : (backTo pos (starEach [] X.env)).any (·.1) = false := by rfl) := (de_callB call_len rc_len hm PySem.boot_len ha hg (by decide) (by decide) hs hpl : DE X (.Call (.Name "len" p) [a] [] pos) (tCB _ (tCons ta tNil)) (un1 f dLen))
def dInt : D → Option D
  | .int i => some (.int i)
  | .bl b => some (.int (if b then 1 else 0))
  | _ => none
theorem rc_int {Y : Kn} : RcE Y (fun xs H Q => (∃ i, xs = [.int i] ∧ Q (.int i) H) ∨ ∃ k, xs = [.bl k] ∧ Q (.int (if k then 1 else 0)) H) dInt := by
  intro H F x da d Q s rx e k
  unfold dInt at e
  split at e
  · cases e
    exact .inl ⟨_, by rw [rx.int], k _ H F (.refl s) (.int _)⟩
  · cases e
    exact .inr ⟨_, by rw [rx.bl], k _ H F (.refl s) (.int _)⟩
  · cases e
def de_toInt {p : Pos} (hm : X.mg "int" = none) (ha : DB X a ta f) (hg : Gl X "int" := by rfl) (hs : starEach [a] X.env = (false, eval a X.env) :: starEach [] X.env := by rfl) (hpl : (backTo pos (starEach [] X.env)).any (·.1) = false := by rfl) := (de_callT call_int1 rc_int hm (by decide +kernel) ha hg (by decide) (by decide) hs hpl : DE X (.Call (.Name "int" p) [a] [] pos) (tCB _ (tCons ta tNil)) (un1 f dInt))
def dList : D → Option D
  | .lst ds => some (.lst ds)
  | .tup ds => some (.lst ds)
  | _ => none
theorem rc_list {Y : Kn} : RcN Y (fun xs H Q => ∃ p ys, xs = [.ref p] ∧ (SqL Y.K H p ys ∨ SqT Y.K H p ys) ∧ ∀ l, H l = none → Q (.ref l) (upd H l (.lst ys))) dList := by
  intro H F x da d Q s rx e k
  unfold dList at e
  split at e
  · cases e
    obtain ⟨p, vs, rfl, h1, r1⟩ := rx.lst s
    exact ⟨p, vs, rfl, .inl h1, fun q hq => k q _ F (ext_new s hq) hq (none_of_sub s hq) ⟨_, upd_same, r1⟩⟩
  · cases e
    obtain ⟨p, vs, rfl, h1, r1⟩ := rx.tup s
    exact ⟨p, vs, rfl, .inr h1, fun q hq => k q _ F (ext_new s hq) hq (none_of_sub s hq) ⟨_, upd_same, r1⟩⟩
  · cases e
def dn_list {p : Pos} (hm : X.mg "list" = none) (ha : DB X a ta f) (hg : Gl X "list" := by rfl) (hs : starEach [a] X.env = (false, eval a X.env) :: starEach [] X.env := by rfl) (hpl : (backTo pos (starEach [] X.env)).any (·.1) = false := by rfl) := (dn_callT call_list_of rc_list hm (by decide +kernel) ha hg (by decide) (by decide) hs hpl : DN X (.Call (.Name "list" p) [a] [] pos) (tCB _ (tCons ta tNil)) (un1 f dList))
def dTup : D → Option D
  | .lst ds => some (.tup ds)
  | .tup ds => some (.tup ds)
  | _ => none
theorem rc_tup {Y : Kn} : RcE Y (fun xs H Q => ∃ p ys, xs = [.ref p] ∧ ((SqL Y.K H p ys ∧ ∀ l, H l = none → Q (.ref l) (upd H l (.tup ys))) ∨ (SqT Y.K H p ys ∧ Q (.ref p) H))) dTup := by
  intro H F x da d Q s rx e k
  unfold dTup at e
  split at e
  · cases e
    obtain ⟨p, vs, rfl, h1, r1⟩ := rx.lst s
    refine ⟨p, vs, rfl, .inl ⟨h1, fun q hq => ?_⟩⟩
    have x2 := ext_newF (o := .tup vs) s hq
    exact k (.ref q) _ _ x2 (.tup (.inl (.inl upd_same)) (r1.mono x2.f))
  · cases e
    have r' : Rep Y F x (.tup _) := rx.elim (fun r => r) fun ⟨_, _, o⟩ => o.elim
    cases r' with
    | tup h1 r1 => exact ⟨_, _, rfl, .inr ⟨sqT_sub s h1, k _ H F (.refl s) (.tup h1 r1)⟩⟩
  · cases e
def de_tuple {p : Pos} (hm : X.mg "tuple" = none) (ha : DB X a ta f) (hg : Gl X "tuple" := by rfl) (hs : starEach [a] X.env = (false, eval a X.env) :: starEach [] X.env := by rfl) (hpl : (backTo pos (starEach [] X.env)).any (·.1) = false := by rfl) := (de_callT call_tuple_of rc_tup hm (by decide +kernel) ha hg (by decide) (by decide) hs hpl : DE X (.Call (.Name "tuple" p) [a] [] pos) (tCB _ (tCons ta tNil)) (un1 f dTup))
end
end
end DL

/-! DL, changes of what is one's own (append, items, pops), methods of texts, isinstance, dicts. -/
namespace DL
open PySem PySem.Spec PyProof.Rows L2
open TL (tl len_tl ext_tl tl_append tl_mk mk_tl map_tl_inj tl_ofString)
section
variable {Y : Kn}
/-- one's own object at slot i is changed -/
theorem RS.mutO {H0 F0 H F : Hp} {σ : L2.St} {ρ : Reg} (s : RS Y H0 F0 H F σ ρ) {i : Nat} {d d' : D} {a : Addr} {u : HO} (hi : ρ[i]? = some (Sl.ow d)) (ha : σ[i]? = some (some (V.ref a))) (n : F a = none) (o : Own Y (upd H a u) F a d') :
    RS Y H0 F0 (upd H a u) F σ (ρ.set i (.ow d')) := by
  have hl : i < ρ.length := (List.getElem?_eq_some_iff.mp hi).1
  have n0 : H0 a = none := s.own i d a hi ha
  refine ⟨⟨fun b w e => ?_, by rw [List.length_set]; exact s.r.len, fun j sl e => ?_, fun j k d1 d2 b e1 e2 e3 e4 => ?_⟩, ⟨fun b w e => ?_, s.x.f, fun b w e => ?_, fun b w hb nb => s.x.n b w hb nb⟩, fun j d1 b e1 e2 => ?_⟩
  · have ne : b ≠ a := fun z => by rw [z, n] at e; cases e
    rw [upd_ne ne]; exact s.r.sub b w e
  · by_cases hj : i = j
    · subst hj
      rw [List.getElem?_set_self hl] at e
      cases e
      exact ⟨_, ha, a, rfl, n, o⟩
    · rw [List.getElem?_set_ne hj] at e
      obtain ⟨v, g1, g2⟩ := s.r.at_ j sl e
      refine ⟨v, g1, ?_⟩
      cases sl with
      | no => trivial
      | fz d1 => exact g2
      | ow d1 =>
        obtain ⟨b, g3, g4, g5⟩ := g2
        subst g3
        have ne : b ≠ a := fun z => hj (s.r.sep i j d d1 a hi e ha (by rw [← z]; exact g1))
        exact ⟨b, rfl, g4, g5.mono (upd_ne ne) (Sub.refl _)⟩
  · by_cases hj : i = j
    · subst hj
      by_cases hk : i = k
      · exact hk
      · rw [List.getElem?_set_ne hk] at e2
        exact s.r.sep i k d d2 b hi e2 e3 e4
    · by_cases hk : i = k
      · subst hk
        rw [List.getElem?_set_ne hj] at e1
        exact s.r.sep j i d1 d b e1 hi e3 e4
      · rw [List.getElem?_set_ne hj] at e1
        rw [List.getElem?_set_ne hk] at e2
        exact s.r.sep j k d1 d2 b e1 e2 e3 e4
  · have ne : b ≠ a := fun z => by rw [z, n0] at e; cases e
    rw [upd_ne ne]; exact s.x.h b w e
  · have ne : b ≠ a := fun z => by rw [z, n] at e; cases e
    rw [upd_ne ne]; exact s.r.sub b w e
  · by_cases hj : i = j
    · subst hj
      rw [ha] at e2
      cases e2
      exact n0
    · rw [List.getElem?_set_ne hj] at e1
      exact s.own j d1 b e1 e2
theorem own_ext {H F H1 F1 : Hp} {a : Addr} {d : D} (o : Own Y H F a d) (x : Ext H F H1 F1) : H1 a = H a := by
  obtain ⟨u, hu⟩ := o.some_
  rw [hu]; exact x.h _ _ hu
theorem owAt_slot {ρ : Reg} {i : Nat} {d : D} (e : owAt ρ i = some d) : ρ[i]? = some (Sl.ow d) := by
  unfold owAt at e
  split at e
  · cases e; assumption
  · cases e
end
section
variable {X : Cx} {a b c e : Expr} {f g h : Reg → Option D} {ta tb tc t te : TE} {pos : Pos} {tA tB' : TT} {p q : Reg → Option Bool} {rest : List Expr}
/-! ### x.append(e), x[i] = e, x[k] = e -/
def appS (i : Nat) (f : Reg → Option D) : Reg → Out := fun ρ => match owAt ρ i, f ρ with
  | some (.lst ds), some d => if ds.length < sizeLine then .nx (ρ.set i (.ow (.lst (ds ++ [d])))) else .bad
  | _, _ => .bad
theorem ds_append (i : Nat) {x : Str} {xp apos cpos : Pos} (he : DE X e te f) (hN : X.N[i]? = some x := by rfl) (hv : Vis X.env.scope x := by first | exact Or.inl rfl | exact Or.inr (Or.inl rfl) | exact Or.inr (Or.inr rfl))
    (hd : (x == ("__debug__" : Str)) = false := by decide) (hcd : (x == ("__classdict__" : Str)) = false := by decide)
    (hbase : attributeBase (.Name x xp) "append" X.env (eval (.Name x xp) X.env) = eval (.Name x xp) X.env := by rfl)
    (hfew : ((backTo cpos (starEach [e] X.env)).all (fun x => !x.1) && (backToKw cpos (keywordEach [] X.env)).all (fun x => x.1.isSome) && decide (([e] : List Expr).length + ([] : List Keyword).length + (if ([] : List Keyword).isEmpty then 0 else 1) < 30)) = true := by rfl)
    (hline : (apos.endLine == cpos.line) = true := by rfl) (hs : starEach [e] X.env = (false, eval e X.env) :: starEach [] X.env := by rfl) (hplain : (backTo cpos (starEach [] X.env)).any (·.1) = false := by rfl)
    (hsw : swapsWith (.Call (.Attribute (.Name x xp) "append" apos) [e] [] cpos) none pos.line X.env = pure false := by rfl) :
    DS X (.Expr (.Call (.Attribute (.Name x xp) "append" apos) [e] [] cpos) pos) (tDrop (tBM X.K "list" rAppend (tVar i) (tCons te tNil))) (appS i f) := by
  refine ⟨ps_expr (pe_bm PySem.F.plainAttrs_list PySem.F.slot_list_append PySem.F.type_list_append mt_append (pe_var hN hv hd hcd) (pa_cons he.p pa_nil hs) hbase hfew hline hs hplain) hsw, fun σ H F ρ H0 F0 D s k => ?_⟩
  unfold appS at k
  split at k
  · rename_i ds d e1 e2
    split at k
    · rename_i hz
      obtain ⟨a, g1, g2, g3, g4⟩ := s.r.ow e1
      obtain ⟨vs, h1, r1⟩ := _root_.id g3
      refine ⟨.ref a, g1, .inl ⟨rfl, vs, .inl (.inl h1)⟩, he.q σ H F ρ d _ s.r e2 fun v H' F' x' rv => ?_⟩
      have h2 : H' a = some (.lst vs) := x'.h _ _ h1
      have n2 : F' a = none := x'.n _ _ h1 g2
      exact ⟨a, vs, v, rfl, rfl, h2, by rw [r1.length]; exact hz, k σ _ F' ((s.ext x').mutO g4 g1 n2 ⟨vs ++ [v], upd_same, (r1.mono x'.f).append (.cons rv .nil)⟩)⟩
    · exact k.elim
  · exact k.elim
def setItS (i : Nat) (fe fi : Reg → Option D) : Reg → Out := fun ρ => match fe ρ, owAt ρ i, fi ρ with
  | some d, some (.lst ds), some (.int k) => match ixN ds.length k with
    | some j => .nx (ρ.set i (.ow (.lst (ds.set j d))))
    | none => .bad
  | _, _, _ => .bad
theorem ds_setItem (i : Nat) {x : Str} {xp sp : Pos} {ix : Expr} {ti : TE} {fi : Reg → Option D} (he : DE X e te f) (hi : DB X ix ti fi) (hN : X.N[i]? = some x := by rfl) (hv : Vis X.env.scope x := by first | exact Or.inl rfl | exact Or.inr (Or.inl rfl) | exact Or.inr (Or.inr rfl))
    (hd : (x == ("__debug__" : Str)) = false := by decide) (hcd : (x == ("__classdict__" : Str)) = false := by decide)
    (ha : ∀ v, assign (.Subscript (.Name x xp) ix sp) X.env v = (do
      let ov ← holding [v] (eval (.Name x xp) X.env)
      let iv ← holding [v, ov] (eval ix X.env)
      standAt sp
      holding [v, ov, iv] (setItem ov iv v)
      release [v, ov, iv] []) := by intro _; rfl)
    (hs : swapsWithSole [.Subscript (.Name x xp) ix sp] e pos.line X.env = pure false := by rfl) (hw : swappedStores [.Subscript (.Name x xp) ix sp] e X.env = pure none := by rfl)
    (h1 : (assignEach [.Subscript (.Name x xp) ix sp] X.env).map (·.2) = [assign (.Subscript (.Name x xp) ix sp) X.env] := by rfl) :
    DS X (.Assign [.Subscript (.Name x xp) ix sp] e pos) (tAsg te (gSub (tVar i) ti rSetL)) (setItS i f fi) := by
  refine ⟨ps_asg he.p (pg_sub (pe_var hN hv hd hcd) hi.p set_list ha) hs hw h1, fun σ H F ρ H0 F0 D s k => ?_⟩
  unfold setItS at k
  split at k
  · rename_i d ds kk e1 e2 e3
    split at k
    · rename_i j ej
      obtain ⟨a, g1, g2, g3, g4⟩ := s.r.ow e2
      obtain ⟨vs, h1, r1⟩ := _root_.id g3
      refine he.q σ H F ρ d _ s.r e1 fun v H' F' x' rv => ⟨.ref a, g1, hi.q σ H' F' ρ _ _ (s.r.ext x') e3 fun w H2 F2 x2 rw' => ?_⟩
      have xx := x'.trans x2
      have h2 : H2 a = some (.lst vs) := xx.h _ _ h1
      have n2 : F2 a = none := xx.n _ _ h1 g2
      exact ⟨a, vs, kk, j, rfl, rw'.int, h2, by rw [r1.length]; exact ej, k σ _ F2 ((s.ext xx).mutO g4 g1 n2 ⟨vs.set j v, upd_same, Reps.set (rv.mono x2.f) j (r1.mono xx.f)⟩)⟩
    · exact k.elim
  · exact k.elim
/-! ### methods of texts -/
def RmE (Y : Kn) (r : V → List V → Hp → VK → Prop) (g : List Nat → Option D) : Prop := ∀ (H F : Hp) (z : Str) (d : D) (Q : VK), Sub F H → g (tl z) = some d → (∀ v H' F', Ext H F H' F' → Rep Y F' v d → Q v H') → r (.str z) [] H Q
def strG (g : List Nat → Option D) : D → Option D
  | .str l => g l
  | _ => none
theorem de_m0 {id : String} {name : Str} {apos : Pos} {r : V → List V → Hp → VK → Prop} {g : List Nat → Option D} (slot : Slot "str" name id) (ty : typeOf (.builtin id) = pure (.type "method_descriptor")) (rule : MtR X id r) (hr : RmE (kn X) r g) (ha : DB X a ta f)
    (hbase : attributeBase a name X.env (eval a X.env) = eval a X.env := by rfl) (hline : (apos.endLine == pos.line) = true := by rfl) : DE X (.Call (.Attribute a name apos) [] [] pos) (tM0 r ta) (un1 f (strG g)) := by
  refine ⟨pe_m0 slot ty rule ha.p hbase hline, fun σ H F ρ d Q r0 e k => ?_⟩
  obtain ⟨x, e1, e2⟩ := Option.bind_eq_some_iff.mp e
  refine ha.q σ H F ρ x _ r0 e1 fun v H' F' x' rv => ?_
  unfold strG at e2
  split at e2
  · obtain ⟨z, rfl, ez⟩ := rv.str
    subst ez
    exact ⟨⟨z, rfl⟩, hr H' F' z d Q x'.s e2 fun u H2 F2 x2 r2 => k u H2 F2 (x'.trans x2) r2⟩
  · cases e2
def gDigit : List Nat → Option D := fun l => some (.bl (Txt.isdigit ⟨l.toArray⟩))
theorem de_isdigit {apos : Pos} (ha : DB X a ta f) (hbase : attributeBase a "isdigit" X.env (eval a X.env) = eval a X.env := by rfl) (hline : (apos.endLine == pos.line) = true := by rfl) :
    DE X (.Call (.Attribute a "isdigit" apos) [] [] pos) (tM0 (fun x xs H Q => ∃ a, x = .str a ∧ xs = [] ∧ True ∧ Q (.bl (Txt.isdigit a)) H) ta) (un1 f (strG gDigit)) :=
  de_m0 PySem.F.slot_str_isdigit PySem.F.type_str_isdigit mt_isdigit (fun H F z d Q s e k => by cases e; rw [mk_tl] at k; exact ⟨z, rfl, rfl, trivial, k _ H F (.refl s) (.bl _)⟩) ha hbase hline
/-- s.split() -/
def strsD (ls : List (List Nat)) : D := .lst (ls.map D.str)
def wordsL (l : List Nat) : List (List Nat) := TL.wfin (l.foldl TL.wstep ([], []))
def dWords : D → Option D
  | .str l => if l.length + 2 ≤ sizeLine then some (strsD (wordsL l)) else none
  | _ => none
theorem reps_strs {Y : Kn} {F : Hp} : ∀ {zs : List Str} {ls : List (List Nat)}, zs.map tl = ls → Reps Y F (zs.map V.str) (ls.map D.str)
  | [], _, e => by subst e; exact .nil
  | z :: zs, _, e => by subst e; exact .cons (.str z) (reps_strs rfl)
theorem dn_words {apos : Pos} (ha : DB X a ta f) (hbase : attributeBase a "split" X.env (eval a X.env) = eval a X.env := by rfl) (hline : (apos.endLine == pos.line) = true := by rfl) :
    DN X (.Call (.Attribute a "split" apos) [] [] pos) (tM0 (fun x xs H Q => ∃ a, x = .str a ∧ xs = [] ∧ a.length + 2 ≤ sizeLine ∧ rNewStrs (Txt.words a) H Q) ta) (un1 f dWords) := by
  refine ⟨pe_words ha.p hbase hline, fun σ H F ρ d Q r0 e k => ?_⟩
  obtain ⟨x, e1, e2⟩ := Option.bind_eq_some_iff.mp e
  refine ha.q σ H F ρ x _ r0 e1 fun v H' F' x' rv => ?_
  unfold dWords at e2
  split at e2
  · split at e2
    · rename_i hz
      cases e2
      obtain ⟨z, rfl, ez⟩ := rv.str
      subst ez
      refine ⟨⟨z, rfl⟩, z, rfl, rfl, by rw [len_tl]; exact hz, fun p hp => ?_⟩
      exact k p _ F' (x'.trans (ext_new x'.s hp)) (none_of_sub x'.h hp) (none_of_sub x'.s hp) ⟨_, upd_same, reps_strs (TL.words_tl z)⟩
    · cases e2
  · cases e2
/-- s.split(sep) -/
def dSplit : D → D → Option D
  | .str l, .str S => if S ≠ [] ∧ S.all (· < 256) = true ∧ l.length + 2 ≤ sizeLine then some (strsD (TL.spl S 0 [] l)) else none
  | _, _ => none
theorem dn_split {apos : Pos} (ha : DB X a ta f) (hb : DB X b tb g) (hs : starEach [b] X.env = [(false, eval b X.env)] := by rfl) (hbase : attributeBase a "split" X.env (eval a X.env) = eval a X.env := by rfl) (hline : (apos.endLine == pos.line) = true := by rfl) :
    DN X (.Call (.Attribute a "split" apos) [b] [] pos) (tM1 (fun x xs H Q => ∃ a b, x = .str a ∧ xs = [.str b] ∧ (b.length == 0) = false ∧ a.length + 2 ≤ sizeLine ∧ rNewStrs (Txt.split a b) H Q) ta tb) (bin2 f g dSplit) := by
  refine ⟨pe_split ha.p hb.p hs hbase hline, fun σ H F ρ d Q r0 e k => ?_⟩
  obtain ⟨x, y, e1, e2, e3⟩ := bin2_some e
  refine ha.q σ H F ρ x _ r0 e1 fun v H' F' x' rv => ?_
  unfold dSplit at e3
  split at e3
  · split at e3
    · rename_i hz
      cases e3
      obtain ⟨z, rfl, ez⟩ := rv.str
      subst ez
      refine ⟨⟨z, rfl⟩, hb.q σ H' F' ρ _ _ (r0.ext x') e2 fun w H2 F2 x2 rw' => ?_⟩
      obtain ⟨y', rfl, ey⟩ := rw'.str
      have xx := x'.trans x2
      have hk : y'.cps.all (· < 256) = true := by
        have := hz.2.1
        rw [← ey] at this
        simpa [tl] using this
      have hy : tl y' ≠ [] := by rw [ey]; exact hz.1
      refine ⟨z, y', rfl, rfl, ?_, by rw [len_tl]; exact hz.2.2, fun p hp => ?_⟩
      · rw [len_tl]
        cases h : tl y' with
        | nil => exact absurd h hy
        | cons _ _ => rfl
      · refine k p _ F2 (xx.trans (ext_new xx.s hp)) (none_of_sub xx.h hp) (none_of_sub xx.s hp) ⟨_, upd_same, reps_strs ?_⟩
        rw [TL.split_spl z y' hy (TL.kind_ok hk), ey]
    · cases e3
  · cases e3
/-- s.startswith(t), t not empty -/
def dStarts : D → D → Option D
  | .str l, .str S => if S ≠ [] then some (.bl (TL.pre S l)) else none
  | _, _ => none
theorem starts_tl {x y : Str} (hy : tl y ≠ []) : Txt.startswith x y = TL.pre (tl y) (tl x) := by
  have h := TL.at_iff (x := x) (y := y) hy 0
  rw [List.drop_zero] at h
  rw [Bool.eq_iff_iff, ← h]
  unfold Txt.startswith PySem.StrLaws.At
  simp
theorem de_starts {apos : Pos} (ha : DB X a ta f) (hb : DB X b tb g) (hs : starEach [b] X.env = [(false, eval b X.env)] := by rfl) (hbase : attributeBase a "startswith" X.env (eval a X.env) = eval a X.env := by rfl) (hline : (apos.endLine == pos.line) = true := by rfl) :
    DE X (.Call (.Attribute a "startswith" apos) [b] [] pos) (tM1 (fun x xs H Q => ∃ a b, x = .str a ∧ xs = [.str b] ∧ Q (.bl (Txt.startswith a b)) H) ta tb) (bin2 f g dStarts) := by
  refine ⟨pe_m1 PySem.F.slot_str_startswith PySem.F.type_str_startswith mt_startswith ha.p hb.p hs hbase hline, fun σ H F ρ d Q r0 e k => ?_⟩
  obtain ⟨x, y, e1, e2, e3⟩ := bin2_some e
  refine ha.q σ H F ρ x _ r0 e1 fun v H' F' x' rv => ?_
  unfold dStarts at e3
  split at e3
  · split at e3
    · rename_i hz
      cases e3
      obtain ⟨z, rfl, ez⟩ := rv.str
      subst ez
      refine ⟨⟨z, rfl⟩, hb.q σ H' F' ρ _ _ (r0.ext x') e2 fun w H2 F2 x2 rw' => ?_⟩
      obtain ⟨y', rfl, ey⟩ := rw'.str
      have hy : tl y' ≠ [] := by rw [ey]; exact hz
      refine ⟨z, y', rfl, rfl, ?_⟩
      rw [starts_tl hy, ey]
      exact k _ H2 F2 (x'.trans x2) (.bl _)
    · cases e3
  · cases e3
/-- sep.join(xs) -/
def strL : D → Option (List Nat)
  | .str l => some l
  | _ => none
def strsL : List D → Option (List (List Nat))
  | [] => some []
  | d :: ds => (strL d).bind fun l => (strsL ds).bind fun ls => some (l :: ls)
def dJoin : D → D → Option D
  | .str S, y => (seqD y).bind fun ds => (strsL ds).bind fun ls => if (ls.map List.length).sum + ls.length * S.length ≤ 16777216 then some (.str (TL.joinL S ls)) else none
  | _, _ => none
theorem strs_reps {Y : Kn} {F : Hp} : ∀ {vs : List V} {ds : List D} {ls : List (List Nat)}, Reps Y F vs ds → strsL ds = some ls → ∃ zs : List Str, vs = zs.map V.str ∧ zs.map tl = ls
  | _, _, _, .nil, e => by cases e; exact ⟨[], rfl, rfl⟩
  | _, _, _, .cons h t, e => by
    obtain ⟨l, e1, e⟩ := Option.bind_eq_some_iff.mp e
    obtain ⟨ls, e2, e⟩ := Option.bind_eq_some_iff.mp e
    cases e
    obtain ⟨zs, h1, h2⟩ := strs_reps t e2
    cases h with
    | str z => cases e1; exact ⟨z :: zs, by rw [h1]; rfl, by rw [← h2]; rfl⟩
    | _ => cases e1
theorem lens_tl : ∀ zs : List Str, (zs.map (·.length)).sum = ((zs.map tl).map List.length).sum
  | [] => rfl
  | z :: zs => by
    simp only [List.map_cons, List.sum_cons]
    rw [lens_tl zs, len_tl]
theorem de_join {apos : Pos} (ha : DB X a ta f) (hb : DB X b tb g) (hs : starEach [b] X.env = [(false, eval b X.env)] := by rfl) (hbase : attributeBase a "join" X.env (eval a X.env) = eval a X.env := by rfl) (hline : (apos.endLine == pos.line) = true := by rfl) :
    DE X (.Call (.Attribute a "join" apos) [b] [] pos) (tM1 (fun x xs H Q => ∃ a p, ∃ ys : List Str, x = .str a ∧ xs = [.ref p] ∧ (SqL X.K H p (ys.map V.str) ∨ SqT X.K H p (ys.map V.str)) ∧ (ys.map (·.length)).sum + ys.length * a.length ≤ 16777216 ∧ Q (.str (Txt.join a ys)) H) ta tb) (bin2 f g dJoin) := by
  refine ⟨pe_join ha.p hb.p hs hbase hline, fun σ H F ρ d Q r0 e k => ?_⟩
  obtain ⟨x, y, e1, e2, e3⟩ := bin2_some e
  refine ha.q σ H F ρ x _ r0 e1 fun v H' F' x' rv => ?_
  unfold dJoin at e3
  split at e3
  · obtain ⟨ds, e4, e3⟩ := Option.bind_eq_some_iff.mp e3
    obtain ⟨ls, e5, e3⟩ := Option.bind_eq_some_iff.mp e3
    split at e3
    · rename_i hz
      cases e3
      obtain ⟨z, rfl, ez⟩ := rv.str
      subst ez
      refine ⟨⟨z, rfl⟩, hb.q σ H' F' ρ _ _ (r0.ext x') e2 fun w H2 F2 x2 rw' => ?_⟩
      have xx := x'.trans x2
      have fin : ∀ zs : List Str, zs.map tl = ls → (zs.map (·.length)).sum + zs.length * z.length ≤ 16777216 ∧ Q (.str (Txt.join z zs)) H2 := fun zs h => by
        refine ⟨?_, ?_⟩
        · rw [lens_tl, h, len_tl, show zs.length = ls.length by rw [← h, List.length_map]]; exact hz
        · have h2 := Rep.str (Y := kn X) (F := F2) (Txt.join z zs)
          have e : tl (Txt.join z zs) = TL.joinL (tl z) ls := by rw [TL.join_eq, TL.tl_join, h]
          rw [e] at h2
          exact k _ H2 F2 xx h2
      cases y with
      | lst ds' =>
        cases e4
        obtain ⟨p, vs, rfl, h1, r1⟩ := rw'.lst xx.s
        obtain ⟨zs, rfl, h2⟩ := strs_reps r1 e5
        exact ⟨z, p, zs, rfl, rfl, .inl h1, fin zs h2⟩
      | tup ds' =>
        cases e4
        obtain ⟨p, vs, rfl, h1, r1⟩ := rw'.tup xx.s
        obtain ⟨zs, rfl, h2⟩ := strs_reps r1 e5
        exact ⟨z, p, zs, rfl, rfl, .inr h1, fin zs h2⟩
      | _ => cases e4
    · cases e3
  · cases e3
/-! ### isinstance(x, T), T a built-in class -/
def tyD : D → Option String
  | .non => some "NoneType"
  | .bl _ => some "bool"
  | .int _ => some "int"
  | .str _ => some "str"
  | .lst _ => some "list"
  | .tup _ => some "tuple"
  | .dic _ => some "dict"
  | .obj _ _ => none
theorem ty_rep {Y : Kn} {H F : Hp} {v : V} {d : D} {T : String} (s : Sub F H) (r : RepT Y H F v d) (e : tyD d = some T) : TyX Y.K H v (.type T) := by
  cases d with
  | non => cases e; rw [r.non]; exact .base .non
  | bl b => cases e; rw [r.bl]; exact .base (.bl b)
  | int b => cases e; rw [r.int]; exact .base (.int b)
  | str b => cases e; obtain ⟨z, rfl, _⟩ := r.str; exact .base (.str z)
  | lst ds =>
    cases e
    obtain ⟨p, vs, rfl, h1, r1⟩ := r.lst s
    rcases h1 with (h1 | ⟨o, h1⟩) | ⟨o, its, n, h1, h2, _⟩
    · exact .base (.lst h1)
    · exact .base (.frz h1)
    · exact .kList h1 h2
  | tup ds =>
    cases e
    obtain ⟨p, vs, rfl, h1, r1⟩ := r.tup s
    rcases h1 with (h1 | ⟨o, h1⟩) | ⟨o, its, n, h1, h2, _⟩
    · exact .base (.tup h1)
    · exact .fTuple h1
    · exact .kTuple h1 h2
  | dic kvs =>
    cases e
    rcases r with r | ⟨p, rfl, kvs', h1, r1⟩
    · cases r with
      | dic h1 r1 => exact .base (.dK (s _ _ h1))
    · exact .base (.dK h1)
  | obj _ _ => cases e
def dIsI (T : String) (d : D) : Option D := (tyD d).bind fun t => (kitB t T).map .bl
theorem de_isi {T : String} {x : Str} {p px : Pos} (hm : X.mg "isinstance" = none) (hmx : X.mg x = none) (hv : bootBuiltins x = some (.type T)) (ha : DB X a ta f) (hg : Gl X "isinstance" := by rfl) (hgx : Gl X x := by rfl) (hn : x ≠ "__name__" := by decide) (hdb : (x == ("__debug__" : Str)) = false := by decide)
    (hs : starEach [a, .Name x px] X.env = (false, eval a X.env) :: starEach [.Name x px] X.env := by rfl) (hs2 : starEach [.Name x px] X.env = (false, eval (.Name x px) X.env) :: starEach [] X.env := by rfl) (hpl : (backTo pos (starEach [.Name x px] X.env)).any (·.1) = false := by rfl) :
    DE X (.Call (.Name "isinstance" p) [a, .Name x px] [] pos) (tCB (rIsi X.K) (tCons ta (tCons (tC (.ty T)) tNil))) (un1 f (dIsI T)) := by
  refine ⟨pe_callB call_isi hg hm (by decide +kernel) (pa_cons ha.p (pa_cons (pe_bltn hgx hmx hv rfl hn hdb) pa_nil hs2) hs) (by decide) (by decide) hs hpl, fun σ H F ρ d Q r0 e k => ?_⟩
  obtain ⟨d1, e1, e2⟩ := Option.bind_eq_some_iff.mp e
  obtain ⟨t1, e3, e4⟩ := Option.bind_eq_some_iff.mp e2
  obtain ⟨b1, e5, e6⟩ := Option.map_eq_some_iff.mp e4
  subst e6
  exact ha.q σ H F ρ d1 _ r0 e1 fun v H' F' x' rv => ⟨v, _, _, _, b1, rfl, .ty T, ty_rep x'.s rv e3, kit_ty e5, k _ H' F' x' (.bl _)⟩
end
end DL

/-! DL, the rules that ask for no kind: +, items, slices, in, len, what is walked, of whatever the data are; names of defs. -/
namespace DL
open PySem PySem.Spec PyProof.Rows L2
open TL (tl len_tl ext_tl tl_append tl_mk mk_tl map_tl_inj tl_ofString)
section
variable {X : Cx} {a b c e : Expr} {f g h : Reg → Option D} {ta tb tc t te t' : TE} {pos : Pos} {tA tB' : TT} {p q : Reg → Option Bool} {rest : List Expr}
def eOr (t u : TE) : TE := fun σ H Q => t σ H Q ∨ u σ H Q
def oElse (f g : Reg → Option D) : Reg → Option D := fun ρ => (f ρ).or (g ρ)
theorem DE.or (h1 : DE X e t f) (h2 : DE X e t' g) : DE X e (eOr t t') (oElse f g) := by
  refine ⟨⟨fun pins s σ H Q I h => h.elim (h1.p.run pins s σ H Q I) (h2.p.run pins s σ H Q I)⟩, fun σ H F ρ d Q r q k => ?_⟩
  unfold oElse at q
  cases e1 : f ρ with
  | some d1 =>
    rw [e1] at q
    cases q
    exact .inl (h1.q σ H F ρ _ Q r e1 k)
  | none =>
    rw [e1] at q
    exact .inr (h2.q σ H F ρ d Q r q k)
/-- two ways by data: the one that is defined -/
theorem DE.alt {k1 k2 k : D → D → Option D} (h1 : DE X e t (bin2 f g k1)) (h2 : DE X e t' (bin2 f g k2)) (hk : ∀ x y, k x y = (k1 x y).or (k2 x y)) : DE X e (eOr t t') (bin2 f g k) := by
  have h := h1.or h2
  refine ⟨h.p, fun σ H F ρ d Q r q kk => h.q σ H F ρ d Q r ?_ kk⟩
  obtain ⟨x, y, e1, e2, e3⟩ := bin2_some q
  unfold oElse bin2
  rw [e1, e2]
  show (k1 x y).or (k2 x y) = some d
  rw [← hk]; exact e3
theorem DT.alt {r r' : TT} {k1 k2 k : D → D → Option Bool} (h1 : DT X e r (cmp2 f g k1)) (h2 : DT X e r' (cmp2 f g k2)) (hk : ∀ x y, k x y = (k1 x y).or (k2 x y)) : DT X e (fun σ H Q => r σ H Q ∨ r' σ H Q) (cmp2 f g k) := by
  refine ⟨⟨fun pins s σ H Q I h => h.elim (h1.p.run pins s σ H Q I) (h2.p.run pins s σ H Q I)⟩, fun σ H F ρ d Q r q kk => ?_⟩
  obtain ⟨x, y, e1, e2, e3⟩ := cmp2_some q
  rw [hk] at e3
  cases e4 : k1 x y with
  | some d1 =>
    rw [e4] at e3
    cases e3
    exact .inl (h1.q σ H F ρ d Q r (by unfold cmp2; rw [e1, e2]; exact e4) kk)
  | none =>
    rw [e4] at e3
    exact .inr (h2.q σ H F ρ d Q r (by unfold cmp2; rw [e1, e2]; exact e3) kk)
/-! + -/
def dPlus : D → D → Option D
  | .int a, .int b => some (.int (a + b))
  | .str a, .str b => if a.length + b.length ≤ sizeLine then some (.str (a ++ b)) else none
  | .lst a, .lst b => if a.length + b.length ≤ sizeLine then some (.lst (a ++ b)) else none
  | .tup a, .tup b => if a ≠ [] ∧ a.length + b.length ≤ sizeLine then some (.tup (a ++ b)) else none
  | _, _ => none
theorem dPlus_eq (x y : D) : dPlus x y = (dAdd x y).or (((dCat x y)).or (dCatT x y)) := by
  cases x <;> cases y <;> simp [dPlus, dAdd, dCat, dCatT] <;> (try split) <;> rfl
def de_plus (ha : DB X a ta f) (hb : DB X b tb g) := (DE.alt (de_add ha hb) (DE.alt (k := fun x y => (dCat x y).or (dCatT x y)) (dn_cat ha hb).toE (de_catT ha hb) fun _ _ => rfl) dPlus_eq : DE X (.BinOp a .Add b pos) (eOr (tOp _ ta tb) (eOr (tOp _ ta tb) (tOp _ ta tb))) (bin2 f g dPlus))
/-! dicts -/
def dkD : D → Option DK
  | .int i => some (.inl i)
  | .str l => some (.inr l)
  | _ => none
def lookD (k : DK) : List (DK × D) → Option D
  | [] => none
  | (j, d) :: r => if j = k then some d else lookD k r
theorem keyOf_inj {j k : DK} : keyOf j = keyOf k ↔ j = k := by
  constructor
  · intro h
    cases j <;> cases k <;> simp [keyOf] at h ⊢ <;> exact h
  · intro h; rw [h]
theorem val_repK {Y : Kn} {F : Hp} {k : DK} : ∀ {kvs : List (Key × V)} {ds : List (DK × D)}, RepK Y F kvs ds → (lookD k ds = none ∧ valV kvs (keyOf k) = none) ∨ ∃ d v, lookD k ds = some d ∧ valV kvs (keyOf k) = some v ∧ Rep Y F v d
  | _, _, .nil => .inl ⟨rfl, rfl⟩
  | _, _, .cons (k := j) h t => by
    by_cases hj : j = k
    · subst hj
      exact .inr ⟨_, _, by unfold lookD; rw [if_pos rfl], valV_pos rfl, h⟩
    · have hn : ¬ keyOf j = keyOf k := fun z => hj (keyOf_inj.mp z)
      rcases val_repK (k := k) t with ⟨h1, h2⟩ | ⟨d, v, h1, h2, h3⟩
      · exact .inl ⟨by unfold lookD; rw [if_neg hj]; exact h1, by rw [valV_neg hn]; exact h2⟩
      · exact .inr ⟨d, v, by unfold lookD; rw [if_neg hj]; exact h1, by rw [valV_neg hn]; exact h2, h3⟩
theorem RepT.dic {Y : Kn} {H F : Hp} {v : V} {ds : List (DK × D)} (r : RepT Y H F v (.dic ds)) (s : Sub F H) : ∃ a kvs, v = .ref a ∧ H a = some (.dK kvs) ∧ RepK Y F kvs ds := by
  rcases r with r | ⟨a, e, vs, h, r⟩
  · cases r with
    | dic h r => exact ⟨_, _, rfl, s _ _ h, r⟩
  · exact ⟨a, vs, e, h, r⟩
theorem dkD_rep {Y : Kn} {H F : Hp} {v : V} {d : D} {k : DK} (r : RepT Y H F v d) (e : dkD d = some k) : v = kV (keyOf k) := by
  unfold dkD at e
  split at e
  · cases e; exact r.int
  · cases e; obtain ⟨z, rfl, ez⟩ := r.str; subst ez; show V.str z = V.str ⟨(tl z).toArray⟩; rw [mk_tl]
  · cases e
def dGet : D → D → Option D
  | .dic kvs, y => (dkD y).bind fun k => lookD k kvs
  | _, _ => none
theorem de_dget {k : Nat} (hr : Room k X.A) (ha : DB X a ta f) (hb : DB X b tb g) (hs : NoSl b := by exact fun _ _ => rfl) : DE X (.Subscript a b pos) (tDGet ta tb) (bin2 f g dGet) := by
  refine ⟨pe_dget (hu_of hr) ha.p hb.p hs, fun σ H F ρ d Q r0 e kk => ?_⟩
  obtain ⟨x, y, e1, e2, e3⟩ := bin2_some e
  refine ha.q σ H F ρ x _ r0 e1 fun v H1 F1 x1 r1 => hb.q σ H1 F1 ρ y _ (r0.ext x1) e2 fun w H2 F2 x2 r2 => ?_
  unfold dGet at e3
  split at e3
  · obtain ⟨kk', e4, e5⟩ := Option.bind_eq_some_iff.mp e3
    obtain ⟨p, kvs, rfl, h1, rk⟩ := (r1.ext x2).dic x2.s
    have ew := dkD_rep r2 e4
    subst ew
    rcases val_repK (k := kk') rk with ⟨h2, _⟩ | ⟨d', v', h2, h3, h4⟩
    · rw [h2] at e5; cases e5
    · rw [h2] at e5
      cases e5
      exact ⟨p, v', rfl, by have := DGet.k (k := keyOf kk') h1; rw [h3] at this; exact this, kk v' H2 F2 (x1.trans x2) h4⟩
  · cases e3
def dItem (x y : D) : Option D := (dIxL x y).or (dGet x y)
def de_item {k : Nat} (hr : Room k X.A) (ha : DB X a ta f) (hb : DB X b tb g) (hs : PlainIx b := by exact fun _ _ => rfl) := (DE.alt (de_ix ha hb hs) (de_dget hr ha hb hs) (fun _ _ => rfl) : DE X (.Subscript a b pos) (eOr (tOp (rIx X.K) ta tb) (tDGet ta tb)) (bin2 f g dItem))
/-- k in d -/
def dInK : D → D → Option Bool
  | y, .dic kvs => (dkD y).map fun k => (lookD k kvs).isSome
  | _, _ => none
theorem inK_core {H F : Hp} {ρ : Reg} {σ : L2.St} {d : Bool} {k : Nat} {Q : VK} (ha : DB X a ta f) (hb : DB X b tb g) (r0 : R0 (kn X) H F σ ρ) (e : cmp2 f g dInK ρ = some d) (u : Bool → Bool)
    (kk : ∀ H' F', Ext H F H' F' → Q (.bl (u d)) H') : ta σ H fun y H1 => tb σ H1 fun x H2 => ∃ a o, x = .ref a ∧ DGet H2 a y o ∧ Q (.bl (u o.isSome)) H2 := by
  obtain ⟨x, y, e1, e2, e3⟩ := cmp2_some e
  refine ha.q σ H F ρ x _ r0 e1 fun v H1 F1 x1 r1 => hb.q σ H1 F1 ρ y _ (r0.ext x1) e2 fun w H2 F2 x2 r2 => ?_
  unfold dInK at e3
  split at e3
  · obtain ⟨kk', e4, e5⟩ := Option.map_eq_some_iff.mp e3
    obtain ⟨p, kvs, rfl, h1, rk⟩ := r2.dic x2.s
    have ew := dkD_rep r1 e4
    subst ew
    refine ⟨p, _, rfl, DGet.k (k := keyOf kk') h1, ?_⟩
    have e6 : (valV kvs (keyOf kk')).isSome = d := by
      rcases val_repK (k := kk') rk with ⟨h2, h3⟩ | ⟨d', v', h2, h3, h4⟩
      · rw [h3, ← e5, h2]; rfl
      · rw [h3, ← e5, h2]; rfl
    rw [e6]
    exact kk H2 F2 (x1.trans x2)
  · cases e3
theorem dt_inK {k : Nat} (hr : Room k X.A) (ha : DB X a ta f) (hb : DB X b tb g) (hm : behindInMarks .In b = false := by rfl) : DT X (.Compare a [.In] [b] pos) (tB (tDIn ta tb)) (cmp2 f g dInK) := by
  refine ⟨pt_cmp (pc_din (hu_of hr) ha.p hb.p) hm, fun σ H F ρ d Q r0 e kk => ?_⟩
  exact inK_core (k := 0) (Q := fun x H1 => ∃ c, x = .bl c ∧ Q c H1) ha hb r0 e id fun H' F' x => ⟨d, rfl, kk H' F' x⟩
theorem dt_notInK {k : Nat} (hr : Room k X.A) (ha : DB X a ta f) (hb : DB X b tb g) (hm : behindInMarks .NotIn b = false := by rfl) : DT X (.Compare a [.NotIn] [b] pos) (tB (tDNotIn ta tb)) (cmp2 f g fun x y => (dInK x y).map not) := by
  refine ⟨pt_cmp (pc_dnotin (hu_of hr) ha.p hb.p) hm, fun σ H F ρ d Q r0 e kk => ?_⟩
  obtain ⟨x, y, e1, e2, e3⟩ := cmp2_some e
  obtain ⟨d', e4, e5⟩ := Option.map_eq_some_iff.mp e3
  refine inK_core (k := 0) (d := d') (Q := fun x H1 => ∃ c, x = .bl c ∧ Q c H1) ha hb r0 (by unfold cmp2; rw [e1, e2]; exact e4) not fun H' F' x => ⟨d, by rw [e5], kk H' F' x⟩
theorem de_inK {k : Nat} (hr : Room k X.A) (ha : DB X a ta f) (hb : DB X b tb g) (hm : behindInMarks .In b = false := by rfl) : DE X (.Compare a [.In] [b] pos) (tDIn ta tb) (bV (cmp2 f g dInK)) := by
  refine ⟨pe_cmp (pc_din (hu_of hr) ha.p hb.p) hm, fun σ H F ρ d Q r0 e kk => ?_⟩
  obtain ⟨c, e0, e'⟩ := Option.bind_eq_some_iff.mp e
  cases e'
  exact inK_core (k := 0) (Q := Q) ha hb r0 e0 id fun H' F' x => kk _ H' F' x (.bl _)
/-- x in y, whatever y is -/
def dMem (x y : D) : Option Bool := (dIn x y).or ((dInS x y).or (dInK x y))
def dNotMem (x y : D) : Option Bool := (dMem x y).map not
theorem dNotMem_eq (x y : D) : dNotMem x y = (dNotIn x y).or ((dNotInS x y).or ((dInK x y).map not)) := by
  unfold dNotMem dMem dNotIn dNotInS
  cases dIn x y <;> cases dInS x y <;> cases dInK x y <;> rfl
def dt_mem {k : Nat} (hr : Room k X.A) (ha : DB X a ta f) (hb : DB X b tb g) (hm : behindInMarks .In b = false := by rfl) :=
  (DT.alt (dt_in ha hb hm) (DT.alt (k := fun x y => (dInS x y).or (dInK x y)) (dt_inS ha hb hm) (dt_inK hr ha hb hm) fun _ _ => rfl) (fun _ _ => rfl) : DT X (.Compare a [.In] [b] pos) _ (cmp2 f g dMem))
def dt_notMem {k : Nat} (hr : Room k X.A) (ha : DB X a ta f) (hb : DB X b tb g) (hm : behindInMarks .NotIn b = false := by rfl) :=
  (DT.alt (dt_notIn ha hb hm) (DT.alt (k := fun x y => (dNotInS x y).or ((dInK x y).map not)) (dt_notInS ha hb hm) (dt_notInK hr ha hb hm) fun _ _ => rfl) dNotMem_eq : DT X (.Compare a [.NotIn] [b] pos) _ (cmp2 f g dNotMem))
theorem DE.altB {k1 k2 k : D → D → Option Bool} (h1 : DE X e t (bV (cmp2 f g k1))) (h2 : DE X e t' (bV (cmp2 f g k2))) (hk : ∀ x y, k x y = (k1 x y).or (k2 x y)) : DE X e (eOr t t') (bV (cmp2 f g k)) := by
  have h := h1.or h2
  refine ⟨h.p, fun σ H F ρ d Q r q kk => h.q σ H F ρ d Q r ?_ kk⟩
  obtain ⟨c, e0, e'⟩ := Option.bind_eq_some_iff.mp q
  obtain ⟨x, y, e1, e2, e3⟩ := cmp2_some e0
  rw [hk] at e3
  unfold oElse bV cmp2
  rw [e1, e2]
  simp only [Option.bind_some]
  cases e4 : k1 x y with
  | some c1 => rw [e4] at e3; cases e3; exact e'
  | none => rw [e4] at e3; rw [show k2 x y = some c from e3]; exact e'
def de_mem {k : Nat} (hr : Room k X.A) (ha : DB X a ta f) (hb : DB X b tb g) (hm : behindInMarks .In b = false := by rfl) :=
  (DE.altB (de_in ha hb hm) (DE.altB (k := fun x y => (dInS x y).or (dInK x y)) (de_inS ha hb hm) (de_inK hr ha hb hm) fun _ _ => rfl) (fun _ _ => rfl) : DE X (.Compare a [.In] [b] pos) _ (bV (cmp2 f g dMem)))
/-! slices of whatever -/
def dSlice (d : D) (l u : Option Int) : Option D := (dSlL d l u).or ((dSlS d l u).or (dSlT d l u))
theorem DE.altS {fl fh : Reg → Option (Option Int)} {k1 k2 k : D → Option Int → Option Int → Option D} (h1 : DE X e t (slV f fl fh k1)) (h2 : DE X e t' (slV f fl fh k2)) (hk : ∀ d l u, k d l u = (k1 d l u).or (k2 d l u)) : DE X e (eOr t t') (slV f fl fh k) := by
  have h := h1.or h2
  refine ⟨h.p, fun σ H F ρ d Q r q kk => h.q σ H F ρ d Q r ?_ kk⟩
  obtain ⟨x, e1, q⟩ := Option.bind_eq_some_iff.mp q
  obtain ⟨l, e2, q⟩ := Option.bind_eq_some_iff.mp q
  obtain ⟨u, e3, q⟩ := Option.bind_eq_some_iff.mp q
  unfold oElse slV
  rw [e1, e2, e3]
  show (k1 x l u).or (k2 x l u) = some d
  rw [← hk]; exact q
def de_slice {lo hi : Option Expr} {tl' th : TO} {fl fh : Reg → Option (Option Int)} {p2 : Pos} (ha : DB X a ta f) (hl : DO X lo tl' fl) (hu : DO X hi th fh) :=
  (DE.altS (dn_sl ha hl hu).toE (DE.altS (k := fun d l u => (dSlS d l u).or (dSlT d l u)) (de_slS ha hl hu) (de_slT ha hl hu) fun _ _ _ => rfl) (fun _ _ _ => rfl) : DE X (.Subscript a (.Slice lo hi none p2) pos) _ (slV f fl fh dSlice))
/-! what is walked -/
def itD : D → Option (List D)
  | .lst ds => some ds
  | .tup ds => some ds
  | .str l => some (l.map fun c => .str [c])
  | _ => none
def itV (f : Reg → Option D) : Reg → Option (List D) := fun ρ => (f ρ).bind itD
theorem di_any {tg : Expr} (he : DE X e te f) : DI X tg e (fun σ H R => iList X.K te σ H R ∨ (iTup X.K te σ H R ∨ iStr te σ H R)) (itV f) := by
  have h := di_seq (di_list (tg := tg) he) (di_seq (di_tup he) (di_str he))
  refine ⟨h.p, fun σ H F ρ ds R r q k => h.q σ H F ρ ds R r ?_ k⟩
  obtain ⟨d, e1, e2⟩ := Option.bind_eq_some_iff.mp q
  show ((f ρ).bind lstD).or (((f ρ).bind tupD).or ((f ρ).bind strD)) = some ds
  rw [e1]
  simp only [Option.bind_some]
  cases d with
  | lst ds' => exact e2
  | tup ds' => exact e2
  | str l => exact e2
  | _ => cases e2
/-! a comparison of three -/
def chn (f g h : Reg → Option D) (k1 k2 : D → D → Option Bool) : Reg → Option Bool := fun ρ => (f ρ).bind fun x => (g ρ).bind fun y => (k1 x y).bind fun c => if c then (h ρ).bind fun z => k2 y z else some false
theorem chain_ev {r r' : R2} {k1 k2 : D → D → Option Bool} (h1 : RdT (kn X) r k1) (h2 : RdT (kn X) r' k2) (ha : DB X a ta f) (hb : DB X b tb g) (hc : DB X c tc h) {σ : L2.St} {H F : Hp} {ρ : Reg} {d : Bool} {Q : VK} (r0 : R0 (kn X) H F σ ρ) (e : chn f g h k1 k2 ρ = some d)
    (kk : ∀ H' F', Ext H F H' F' → Q (.bl d) H') : tChain r r' ta tb tc σ H Q := by
  obtain ⟨x, e1, e⟩ := Option.bind_eq_some_iff.mp e
  obtain ⟨y, e2, e⟩ := Option.bind_eq_some_iff.mp e
  obtain ⟨c, e3, e⟩ := Option.bind_eq_some_iff.mp e
  refine ha.q σ H F ρ x _ r0 e1 fun v H1 F1 x1 r1 => hb.q σ H1 F1 ρ y _ (r0.ext x1) e2 fun w H2 F2 x2 r2 => ?_
  refine h1 H2 F2 v w x y c _ x2.s (r1.ext x2) r2 e3 ⟨c, rfl, ?_⟩
  cases c with
  | false => cases e; exact iteF (kk H2 F2 (x1.trans x2))
  | true =>
    obtain ⟨z, e4, e5⟩ := Option.bind_eq_some_iff.mp (show ((h ρ).bind fun z => k2 y z) = some d from e)
    exact iteT (hc.q σ H2 F2 ρ z _ (r0.ext (x1.trans x2)) e4 fun u H3 F3 x3 r3 => h2 H3 F3 w u y z d _ x3.s (r2.ext x3) r3 e5 (kk H3 F3 (x1.trans (x2.trans x3))))
theorem de_chain {op op' : CmpOp} {r r' : R2} {k1 k2 : D → D → Option Bool} (o1 : OpR X (compareOp op) r) (o2 : OpR X (compareOp op') r') (h1 : RdT (kn X) r k1) (h2 : RdT (kn X) r' k2) (ha : DB X a ta f) (hb : DB X b tb g) (hc : DB X c tc h) (hm : behindInMarks op' c = false := by rfl) :
    DE X (.Compare a [op, op'] [b, c] pos) (tChain r r' ta tb tc) (bV (chn f g h k1 k2)) := by
  refine ⟨pe_chain o1 o2 ha.p hb.p hc.p hm, fun σ H F ρ d Q r0 e kk => ?_⟩
  obtain ⟨c, e0, e'⟩ := Option.bind_eq_some_iff.mp e
  cases e'
  exact chain_ev h1 h2 ha hb hc r0 e0 fun H' F' x => kk _ H' F' x (.bl _)
theorem dt_chain {op op' : CmpOp} {r r' : R2} {k1 k2 : D → D → Option Bool} (o1 : OpR X (compareOp op) r) (o2 : OpR X (compareOp op') r') (h1 : RdT (kn X) r k1) (h2 : RdT (kn X) r' k2) (ha : DB X a ta f) (hb : DB X b tb g) (hc : DB X c tc h) (hm : behindInMarks op' c = false := by rfl) :
    DT X (.Compare a [op, op'] [b, c] pos) (fun σ H Q => tChain r r' ta tb tc σ H fun x H1 => ∃ k, x = .bl k ∧ Q k H1) (chn f g h k1 k2) := by
  refine ⟨pt_chain o1 o2 ha.p hb.p hc.p hm, fun σ H F ρ d Q r0 e kk => ?_⟩
  exact chain_ev (Q := fun x H1 => ∃ c, x = .bl c ∧ Q c H1) h1 h2 ha hb hc r0 e fun H' F' x => ⟨d, rfl, kk H' F' x⟩
end
/-! ### slots frozen; a comprehension given to a name -/
section
variable {X : Cx} {st : Stmt} {t : TS} {B : Reg → Out} {tg iter : Expr} {pos : Pos}
theorem EvN.toE {Y : Kn} {t : TE} {f : Reg → Option D} (h : EvN Y t f) : EvE Y t f := fun σ H F ρ d Q r e k => h σ H F ρ d Q r e fun a H' F' x n0 n1 o => by
  refine k (.ref a) H' (frz1 H' F' a) ⟨x.h, x.f.trans (frz1_sub n1), frz1_in x.s, fun b u hb nb => ?_⟩ (o.rep (frz1_sub n1) (if_pos rfl))
  unfold frz1
  by_cases hh : b = a
  · subst hh; rw [n0] at hb; cases hb
  · rw [if_neg hh]; exact x.n b u hb nb
theorem asg_ev {Y : Kn} {te : TE} {f : Reg → Option D} (h : EvE Y te f) (i : Nat) : EvS Y (tAsg te (gName i)) (setS i f) := fun σ H F ρ H0 F0 D s k => by
  unfold setS at k
  cases q : f ρ with
  | none => rw [q] at k; exact k.elim
  | some d =>
    rw [q] at k
    exact h σ H F ρ d _ s.r q fun v H' F' x r => k _ H' F' ((s.ext x).setF i r)
theorem asgN_ev {Y : Kn} {te : TE} {f : Reg → Option D} (h : EvN Y te f) (i : Nat) : EvS Y (tAsg te (gName i)) (setN i f) := fun σ H F ρ H0 F0 D s k => by
  unfold setN at k
  cases q : f ρ with
  | none => rw [q] at k; exact k.elim
  | some d =>
    rw [q] at k
    exact h σ H F ρ d _ s.r q fun a H' F' x n0 n1 o => k _ H' F' (s.setO x i n0 n1 o)
theorem ds_setLc (i : Nat) {y : Str} {py spos : Pos} {elt : Expr} {ifs : List Expr} {scope : Scope} (own : List (Str × Nat)) {wi : TI} {fs : Reg → Option (List D)} {h : D → Reg → Option Reg} {is : List Nat} {fc : Reg → Option Bool} {f : Reg → Option D} (hc : X.calm = true) (hN : X.N.Nodup)
    (hi : DI X tg iter wi fs) (hg : ∀ (s : Shared) (H : Hp) (C : Addr) (cl : List (Str × Addr)) (fp : List Addr), ∃ g, DG (X.blk s H scope (compEnvC scope cl C X.env) fp) tg g h is) (ht : ∀ (s : Shared) (H : Hp) (C : Addr) (cl : List (Str × Addr)) (fp : List Addr), ∃ tt, DTs (X.blk s H scope (compEnvC scope cl C X.env) fp) ifs tt fc) (he : ∀ (s : Shared) (H : Hp) (C : Addr) (cl : List (Str × Addr)) (fp : List Addr), ∃ te, DE (X.blk s H scope (compEnvC scope cl C X.env) fp) elt te f)
    (hy : X.N[i]? = some y := by rfl) (hyl : X.env.scope.names.lookup y = some .local := by rfl) (hsw : swapsWith (.ListComp elt [⟨tg, iter, ifs, 0⟩] scope pos) (some (.Name y py)) spos.line X.env = pure true := by exact sw_true rfl rfl rfl (by decide +kernel))
    (ok : BlkOk X.N X.env.scope scope own) (hv : ∀ j, j ∈ is → j ∈ own.map (·.2) := by simp) (hs : ∀ x, foldedSetIterable iter X.env x = pure x := by intro _; rfl) :
    DS X (.Assign [.Name y py] (.ListComp elt [⟨tg, iter, ifs, 0⟩] scope pos) spos) (tAsg (tLc wi (tGc (kn X) h is) (tTc (kn X) fc) (tEc (kn X) f) (own.map (·.2))) (gName i)) (setS i (lcV fs h fc f (own.map (·.2)))) :=
  ⟨ps_setLc hc hN hy hyl hsw hi.p ok (fun s H C cl fp => (hg s H C cl fp).elim fun _ z => z.can) (fun s H C cl fp => (ht s H C cl fp).elim fun _ z => z.can) (fun s H C cl fp => (he s H C cl fp).elim fun _ z => z.can) hs,
    asg_ev (lc_ev hi.q (fun v d σ H F ρ ρ' Q r r1 q k => ⟨F, ρ, ρ', d, r, r1, q, k⟩) tTc_ev tEc_ev hv).toE i⟩
theorem ds_setLcN (i : Nat) {y : Str} {py spos : Pos} {elt : Expr} {ifs : List Expr} {scope : Scope} (own : List (Str × Nat)) {wi : TI} {fs : Reg → Option (List D)} {h : D → Reg → Option Reg} {is : List Nat} {fc : Reg → Option Bool} {f : Reg → Option D} (hc : X.calm = true) (hN : X.N.Nodup)
    (hi : DI X tg iter wi fs) (hg : ∀ (s : Shared) (H : Hp) (C : Addr) (cl : List (Str × Addr)) (fp : List Addr), ∃ g, DG (X.blk s H scope (compEnvC scope cl C X.env) fp) tg g h is) (ht : ∀ (s : Shared) (H : Hp) (C : Addr) (cl : List (Str × Addr)) (fp : List Addr), ∃ tt, DTs (X.blk s H scope (compEnvC scope cl C X.env) fp) ifs tt fc) (he : ∀ (s : Shared) (H : Hp) (C : Addr) (cl : List (Str × Addr)) (fp : List Addr), ∃ te, DE (X.blk s H scope (compEnvC scope cl C X.env) fp) elt te f)
    (hy : X.N[i]? = some y := by rfl) (hyl : X.env.scope.names.lookup y = some .local := by rfl) (hsw : swapsWith (.ListComp elt [⟨tg, iter, ifs, 0⟩] scope pos) (some (.Name y py)) spos.line X.env = pure true := by exact sw_true rfl rfl rfl (by decide +kernel))
    (ok : BlkOk X.N X.env.scope scope own) (hv : ∀ j, j ∈ is → j ∈ own.map (·.2) := by simp) (hs : ∀ x, foldedSetIterable iter X.env x = pure x := by intro _; rfl) :
    DS X (.Assign [.Name y py] (.ListComp elt [⟨tg, iter, ifs, 0⟩] scope pos) spos) (tAsg (tLc wi (tGc (kn X) h is) (tTc (kn X) fc) (tEc (kn X) f) (own.map (·.2))) (gName i)) (setN i (lcV fs h fc f (own.map (·.2)))) :=
  ⟨ps_setLc hc hN hy hyl hsw hi.p ok (fun s H C cl fp => (hg s H C cl fp).elim fun _ z => z.can) (fun s H C cl fp => (ht s H C cl fp).elim fun _ z => z.can) (fun s H C cl fp => (he s H C cl fp).elim fun _ z => z.can) hs,
    asgN_ev (lc_ev hi.q (fun v d σ H F ρ ρ' Q r r1 q k => ⟨F, ρ, ρ', d, r, r1, q, k⟩) tTc_ev tEc_ev hv) i⟩
end
/-! ### defs by their names -/
/-- the def of this name stands in the module -/
def Here (K : PySem.W.Frag) (mg : Str → Option Value) (x : Str) (st : Stmt) (ps : List Str) : Prop := ∃ f fd, Fun K x x st f fd ∧ mg x = some (.ref f) ∧ Binds K fd ps []
/-- it keeps its promise -/
def NameOk (P : Program) (w : World) (K : PySem.W.Frag) (mg : Str → Option Value) (base : Heap) (k : Nat) (x : Str) (n : Nat) (m : List D → Option D) : Prop :=
  ∃ f fd ps, FnOk P w K mg base CX0 k f fd ps (spD ⟨K, mg⟩ n m) ∧ mg x = some (.ref f) ∧ PySem.W.keepIn K (.ref f) = true ∧ Binds K fd ps []
section
variable {P : Program} {w : World} {K : PySem.W.Frag} {mg : Str → Option Value} {base : Heap} {x : Str} {st : Stmt} {N ps : List Str} {k : Nat} {B : Reg → Out} {m : List D → Option D}
theorem name_data (h : Here K mg x st ps) (sc : FnScope N ps (defScope st)) (hm : ∀ ds d, ds.length = ps.length → m ds = some d → fin (B (startR N.length ds)) = some d)
    (hB : ∀ (f : Addr) (cdv : Value) (A : Around) (outer : List PySem.Env) (s : Shared) (H : Hp) (E : XK), Room k (A.deeper (envOfC x (defScope st) s.heap.objs.size f cdv)) → ∃ t, DSs (cxOf CX0 P w K mg base N x (defScope st) f cdv A outer s H E).nox (defBody st) t B) :
    NameOk P w K mg base (k + 1) x ps.length m := by
  obtain ⟨f, fd, F, hg, hb⟩ := h
  exact ⟨f, fd, ps, fn_data F sc hm (hB f), hg, F.kp, hb⟩
theorem name_nil (h : Here K mg x st ps) {n : Nat} : NameOk P w K mg base k x n fun _ => none := by
  obtain ⟨f, fd, F, hg, hb⟩ := h
  exact ⟨f, fd, ps, fn_nil, hg, F.kp, hb⟩
theorem de_callN {X : Cx} {j n k : Nat} {m : List D → Option D} {e : Expr} {es : List Expr} {p pos : Pos} {ta : TA} {fs : Reg → Option (List D)} (G : NameOk P w K mg base j x n m) (hr : Room k X.A) (ha : DA X (e :: es) ta fs) (hj : j ≤ k := by decide) (hn : (e :: es).length = n := by rfl) (hg : Gl X x := by rfl) (hdb : (x == ("__debug__" : Str)) = false := by decide)
    (he : starEach (e :: es) X.env = (false, eval e X.env) :: starEach es X.env := by rfl) (hpl : (backTo pos (starEach es X.env)).any (·.1) = false := by rfl)
    (hP : X.prog = P := by rfl) (hw : X.w = w := by rfl) (hK : X.K = K := by rfl) (hmg : X.mg = mg := by rfl) (hbs : X.base = base := by rfl) : DE X (.Call (.Name x p) (e :: es) [] pos) (tCall (spD ⟨K, mg⟩ n m) [] E0 ta) (callV m fs) := by
  subst hP hw hK hmg hbs
  obtain ⟨f, fd, ps, h1, h2, h3, h4⟩ := G
  exact de_call h1 (hr.mono hj) h2 h3 h4 ha hn hg hdb he hpl
end
end DL

/-! DL, more: f-strings, str(x), min, max, range with a step, extend, zip, == of data of any depth, sorted pairs. -/
namespace DL
open PySem PySem.Spec PyProof.Rows L2
open TL (tl len_tl ext_tl tl_append tl_mk mk_tl map_tl_inj tl_ofString)
section
variable {X : Cx} {a b c e : Expr} {es : List Expr} {f g h : Reg → Option D} {ta tb tc t te : TE} {pos : Pos} {tA tB' : TT} {p q : Reg → Option Bool} {rest : List Expr}
/-! ### texts of ints; f-strings -/
def intL (i : Int) : List Nat := lit (toString i)
def dStr : D → Option D
  | .str l => if l.length ≤ sizeLine then some (.str l) else none
  | .int i => if i.natAbs.log2 < 1920 then some (.str (intL i)) else none
  | _ => none
theorem rep_intL {Y : Kn} {F : Hp} (i : Int) : Rep Y F (.str (Str.ofString (toString i))) (.str (intL i)) := rep_lit _
theorem rc_str {Y : Kn} : RcE Y (fun xs H Q => (∃ i, xs = [.int i] ∧ i.natAbs.log2 < 1920 ∧ Q (.str (toString i)) H) ∨ ∃ z, xs = [.str z] ∧ Q (.str z) H) dStr := by
  intro H F x da d Q s rx e k
  unfold dStr at e
  split at e
  · split at e
    · cases e
      obtain ⟨z, rfl, ez⟩ := rx.str
      subst ez
      exact .inr ⟨z, rfl, k _ H F (.refl s) (.str z)⟩
    · cases e
  · split at e
    · rename_i hz
      cases e
      exact .inl ⟨_, by rw [rx.int], hz, k _ H F (.refl s) (rep_intL _)⟩
    · cases e
  · cases e
theorem CallR.or' {c : Value} {r1 r2 : List V → Hp → VK → Prop} (h1 : CallR X c r1) (h2 : CallR X c r2) : CallR X c (fun xs H Q => r1 xs H Q ∨ r2 xs H Q) := by
  intro pins s σ H xs us Q I r h
  rcases h with h | h
  · exact h1 pins s σ H xs us Q I r h
  · exact h2 pins s σ H xs us Q I r h
theorem str_str' : CallR X (.type "str") (fun xs H Q => ∃ z, xs = [.str z] ∧ Q (.str z) H) := SkE.call_str_str
def de_toStr {p : Pos} (hm : X.mg "str" = none) (ha : DB X a ta f) (hg : Gl X "str" := by rfl) (hs : starEach [a] X.env = (false, eval a X.env) :: starEach [] X.env := by rfl) (hpl : (backTo pos (starEach [] X.env)).any (·.1) = false := by rfl) :=
  (de_callT (CallR.or' call_str_int str_str') rc_str hm (by decide +kernel) ha hg (by decide) (by decide) hs hpl : DE X (.Call (.Name "str" p) [a] [] pos) (tCB _ (tCons ta tNil)) (un1 f dStr))
theorem de_fmt (ha : DB X a ta f) : DE X (.FormattedValue a (-1) none pos) (tFmt ta) (un1 f dStr) := by
  refine ⟨pe_fmt ha.p, fun σ H F ρ d Q r0 e k => ?_⟩
  obtain ⟨d1, e1, e2⟩ := Option.bind_eq_some_iff.mp e
  refine ha.q σ H F ρ d1 _ r0 e1 fun v H' F' x' rv => ?_
  unfold dStr at e2
  split at e2
  · split at e2
    · rename_i hz
      cases e2
      obtain ⟨z, rfl, ez⟩ := rv.str
      subst ez
      exact .inl ⟨z, rfl, by have := len_tl z; omega, k _ H' F' x' (.str z)⟩
    · cases e2
  · split at e2
    · rename_i hz
      cases e2
      exact .inr ⟨_, rv.int, hz, k _ H' F' x' (rep_intL _)⟩
    · cases e2
  · cases e2
/-- the parts of an f-string -/
structure DJ (X : Cx) (es : List Expr) (ts : List TE) (fs : Reg → Option (List (List Nat))) : Prop where
  p : PJ X es ts
  q : ∀ (σ : L2.St) (H F : Hp) (ρ : Reg) (ls : List (List Nat)) (acc : Str) (Q : Str → Hp → Prop), R0 (kn X) H F σ ρ → fs ρ = some ls → (tl acc).length + (ls.map List.length).sum ≤ sizeLine → (∀ z H' F', Ext H F H' F' → tl z = tl acc ++ ls.flatten → Q z H') → tJs ts acc σ H Q
theorem dj_nil : DJ X [] [] (fun _ => some []) := ⟨.nil, fun σ H F ρ ls acc Q r e hz k => by cases e; exact k acc H F (.refl r.sub) (by simp)⟩
def consJ (f : Reg → Option D) (fs : Reg → Option (List (List Nat))) : Reg → Option (List (List Nat)) := fun ρ => (f ρ).bind fun d => (strL d).bind fun l => (fs ρ).bind fun ls => some (l :: ls)
theorem dj_cons {ts : List TE} {fs : Reg → Option (List (List Nat))} (he : DE X e te f) (hr : DJ X es ts fs) : DJ X (e :: es) (te :: ts) (consJ f fs) := by
  refine ⟨.cons he.p hr.p, fun σ H F ρ ls acc Q r e0 hz k => ?_⟩
  obtain ⟨d, e1, e0⟩ := Option.bind_eq_some_iff.mp e0
  obtain ⟨l, e2, e0⟩ := Option.bind_eq_some_iff.mp e0
  obtain ⟨ms, e3, e0⟩ := Option.bind_eq_some_iff.mp e0
  cases e0
  unfold strL at e2
  split at e2
  · cases e2
    refine he.q σ H F ρ _ _ r e1 fun v H1 F1 x1 r1 => ?_
    cases r1 with
    | str z =>
      rw [List.map_cons, List.sum_cons] at hz
      have ez : tl (acc ++ z) = tl acc ++ tl z := tl_append acc z
      refine ⟨z, rfl, ?_, hr.q σ H1 F1 ρ ms (acc ++ z) Q (r.ext x1) e3 ?_ fun w H2 F2 x2 ew => k w H2 F2 (x1.trans x2) ?_⟩
      · have el := len_tl (acc ++ z)
        rw [ez, List.length_append] at el
        omega
      · rw [ez, List.length_append]; omega
      · rw [ew, ez, List.flatten_cons, List.append_assoc]
  · cases e2
def joinedV (fs : Reg → Option (List (List Nat))) : Reg → Option D := fun ρ => (fs ρ).bind fun ls => if (ls.map List.length).sum ≤ sizeLine then some (.str ls.flatten) else none
theorem de_joined {v1 v2 : Expr} {ts : List TE} {fs : Reg → Option (List (List Nat))} (hr : DJ X (v1 :: v2 :: rest) ts fs) : DE X (.JoinedStr (v1 :: v2 :: rest) pos) (fun σ H Q => tJs ts Str.empty σ H fun out H1 => Q (.str out) H1) (joinedV fs) := by
  refine ⟨pe_joined hr.p, fun σ H F ρ d Q r e k => ?_⟩
  obtain ⟨ls, e1, e2⟩ := Option.bind_eq_some_iff.mp e
  split at e2
  · rename_i hz
    cases e2
    refine hr.q σ H F ρ ls Str.empty _ r e1 (by rw [show tl Str.empty = [] from rfl]; simpa using hz) fun z H' F' x ez => ?_
    have e3 : tl z = ls.flatten := ez.trans (List.nil_append _)
    rw [← e3] at k
    exact k _ H' F' x (.str z)
  · cases e2
/-! ### min, max of two -/
def RaE (Y : Kn) (r : List V → Hp → VK → Prop) (g : List D → Option D) : Prop := ∀ (H F : Hp) (vs : List V) (ds : List D) (d : D) (Q : VK), Sub F H → Reps Y F vs ds → g ds = some d → (∀ v H' F', Ext H F H' F' → Rep Y F' v d → Q v H') → r vs H Q
def fnV (fs : Reg → Option (List D)) (g : List D → Option D) : Reg → Option D := fun ρ => (fs ρ).bind g
theorem de_callBs {id : String} {x : Str} {r : List V → Hp → VK → Prop} {g : List D → Option D} {p : Pos} {ts : TA} {fs : Reg → Option (List D)} (hc : CallR X (.builtin id) r) (hr : RaE (kn X) r g) (hm : X.mg x = none) (hv : bootBuiltins x = some (.builtin id)) (ha : DA X (a :: es) ts fs) (hg : Gl X x := by rfl) (hn : x ≠ "__name__" := by decide) (hdb : (x == ("__debug__" : Str)) = false := by decide)
    (hs : starEach (a :: es) X.env = (false, eval a X.env) :: starEach es X.env := by rfl) (hpl : (backTo pos (starEach es X.env)).any (·.1) = false := by rfl) : DE X (.Call (.Name x p) (a :: es) [] pos) (tCB r ts) (fnV fs g) := by
  refine ⟨pe_callB hc hg hm hv ha.p hn hdb hs hpl, fun σ H F ρ d Q r0 e k => ?_⟩
  obtain ⟨d1, e1, e2⟩ := Option.bind_eq_some_iff.mp e
  exact ha.q σ H F ρ d1 _ r0 e1 fun v H' F' x' rv => hr H' F' v d1 d Q x'.s rv e2 fun u H2 F2 x2 r2 => k u H2 F2 (x'.trans x2) r2
def dMin : List D → Option D
  | [.int i, .int j] => some (.int (if j < i then j else i))
  | _ => none
def dMax : List D → Option D
  | [.int i, .int j] => some (.int (if j > i then j else i))
  | _ => none
theorem ra_min {Y : Kn} : RaE Y (fun xs H Q => ∃ i j, xs = [.int i, .int j] ∧ Q (.int (if j < i then j else i)) H) dMin := by
  intro H F vs ds d Q s rv e k
  unfold dMin at e
  split at e
  · cases e
    cases rv with
    | cons a b => cases b with
      | cons c d => cases d; cases a; cases c; exact ⟨_, _, rfl, k _ H F (.refl s) (.int _)⟩
  · cases e
theorem ra_max {Y : Kn} : RaE Y (fun xs H Q => ∃ i j, xs = [.int i, .int j] ∧ Q (.int (if j > i then j else i)) H) dMax := by
  intro H F vs ds d Q s rv e k
  unfold dMax at e
  split at e
  · cases e
    cases rv with
    | cons a b => cases b with
      | cons c d => cases d; cases a; cases c; exact ⟨_, _, rfl, k _ H F (.refl s) (.int _)⟩
  · cases e
def de_min {p : Pos} {ts : TA} {fs : Reg → Option (List D)} (hcm : X.calm = true) (hm : X.mg "min" = none) (ha : DA X [a, b] ts fs) (hg : Gl X "min" := by rfl) (hs : starEach [a, b] X.env = (false, eval a X.env) :: starEach [b] X.env := by rfl) (hpl : (backTo pos (starEach [b] X.env)).any (·.1) = false := by rfl) :=
  (de_callBs (call_min2 hcm) ra_min hm (by decide +kernel) ha hg (by decide) (by decide) hs hpl : DE X (.Call (.Name "min" p) [a, b] [] pos) (tCB _ ts) (fnV fs dMin))
def de_max {p : Pos} {ts : TA} {fs : Reg → Option (List D)} (hcm : X.calm = true) (hm : X.mg "max" = none) (ha : DA X [a, b] ts fs) (hg : Gl X "max" := by rfl) (hs : starEach [a, b] X.env = (false, eval a X.env) :: starEach [b] X.env := by rfl) (hpl : (backTo pos (starEach [b] X.env)).any (·.1) = false := by rfl) :=
  (de_callBs (call_max2 hcm) ra_max hm (by decide +kernel) ha hg (by decide) (by decide) hs hpl : DE X (.Call (.Name "max" p) [a, b] [] pos) (tCB _ ts) (fnV fs dMax))
/-! ### x.extend(new list) -/
def extS (i : Nat) (f : Reg → Option D) : Reg → Out := fun ρ => match owAt ρ i, f ρ with
  | some (.lst ds), some (.lst es) => if ds.length + es.length ≤ sizeLine then .nx (ρ.set i (.ow (.lst (ds ++ es)))) else .bad
  | _, _ => .bad
theorem ds_extend (i : Nat) {x : Str} {xp apos cpos : Pos} (he : DN X e te f) (hN : X.N[i]? = some x := by rfl) (hv : Vis X.env.scope x := by first | exact Or.inl rfl | exact Or.inr (Or.inl rfl) | exact Or.inr (Or.inr rfl))
    (hd : (x == ("__debug__" : Str)) = false := by decide) (hcd : (x == ("__classdict__" : Str)) = false := by decide)
    (hbase : attributeBase (.Name x xp) "extend" X.env (eval (.Name x xp) X.env) = eval (.Name x xp) X.env := by rfl)
    (hfew : ((backTo cpos (starEach [e] X.env)).all (fun x => !x.1) && (backToKw cpos (keywordEach [] X.env)).all (fun x => x.1.isSome) && decide (([e] : List Expr).length + ([] : List Keyword).length + (if ([] : List Keyword).isEmpty then 0 else 1) < 30)) = true := by rfl)
    (hline : (apos.endLine == cpos.line) = true := by rfl) (hs : starEach [e] X.env = (false, eval e X.env) :: starEach [] X.env := by rfl) (hplain : (backTo cpos (starEach [] X.env)).any (·.1) = false := by rfl)
    (hsw : swapsWith (.Call (.Attribute (.Name x xp) "extend" apos) [e] [] cpos) none pos.line X.env = pure false := by rfl) :
    DS X (.Expr (.Call (.Attribute (.Name x xp) "extend" apos) [e] [] cpos) pos) (tDrop (tBM X.K "list" rExtend (tVar i) (tCons te tNil))) (extS i f) := by
  refine ⟨ps_expr (pe_bm PySem.F.plainAttrs_list PySem.F.slot_list_extend PySem.F.type_list_extend mt_extend (pe_var hN hv hd hcd) (pa_cons he.p pa_nil hs) hbase hfew hline hs hplain) hsw, fun σ H F ρ H0 F0 D s k => ?_⟩
  unfold extS at k
  split at k
  · rename_i ds es e1 e2
    split at k
    · rename_i hz
      obtain ⟨a, g1, g2, g3, g4⟩ := s.r.ow e1
      obtain ⟨vs, h1, r1⟩ := _root_.id g3
      refine ⟨.ref a, g1, .inl ⟨rfl, vs, .inl (.inl h1)⟩, he.q σ H F ρ _ _ s.r e2 fun b H' F' x' n0 n1 o => ?_⟩
      have h2 : H' a = some (.lst vs) := x'.h _ _ h1
      have n2 : F' a = none := x'.n _ _ h1 g2
      obtain ⟨ws, h3, r3⟩ := _root_.id o
      exact ⟨a, b, vs, ws, rfl, rfl, h2, h3, by rw [r1.length, r3.length]; exact hz, k σ _ F' ((s.ext x').mutO g4 g1 n2 ⟨vs ++ ws, upd_same, (r1.mono x'.f).append r3⟩)⟩
    · exact k.elim
  · exact k.elim
/-! ### range with a step above nought -/
def rngC (lo c : Int) (n : Nat) : List D := (List.range n).map fun k => .int (lo + (k : Nat) * c)
def stepN (i j c : Int) : Nat := if i < j then ((j - i - 1) / c + 1).toNat else 0
@[irreducible] def rng3 (f : Reg → Option (List D)) : Reg → Option (List D) := fun ρ => (f ρ).bind fun
  | [.int i, .int j, .int c] => if (-(2 ^ 61) ≤ i ∧ i < 2 ^ 61 ∧ -(2 ^ 61) ≤ j ∧ j < 2 ^ 61) ∧ 0 < c ∧ c < 1000000 then some (rngC i c (stepN i j c)) else none
  | _ => none
theorem wlk_rangeC {Y : Kn} {F1 : Hp} {lo c : Int} {n : Nat} {ds : List D} (h : ds = rngC lo c n) : Wlk Y (Itc lo c n) F1 ds := by
  subst h
  unfold rngC
  refine ⟨fun i H F hi h1 h2 => ?_, fun H F h1 h2 => ?_, fun i H F x H' d e h1 h2 y => ?_⟩
  · show i < n
    simpa using hi
  · show n ≤ _
    simp
  · obtain ⟨rfl, rfl⟩ := y
    refine ⟨F, .refl h2, ?_⟩
    rw [List.getElem?_map] at e
    obtain ⟨k, h3, h4⟩ := Option.map_eq_some_iff.mp e
    have h5 : k = i := by
      have := List.getElem?_eq_some_iff.mp h3
      obtain ⟨a, b⟩ := this
      simpa using b.symm
    subst h5
    rw [← h4]
    exact .int _
theorem rangeSize_step {i j c : Int} (h0 : 0 < c) : Builtin.Range.rangeSize i j c = (stepN i j c : Nat) := by
  unfold Builtin.Range.rangeSize stepN
  rw [if_pos h0]
  by_cases h : i < j
  · rw [if_pos h, if_pos h]
    have : 0 ≤ (j - i - 1) / c := Int.ediv_nonneg (by omega) (by omega)
    omega
  · rw [if_neg h, if_neg h]; rfl
theorem small_step {i j c : Int} (hb : -(2 ^ 61) ≤ i ∧ i < 2 ^ 61 ∧ -(2 ^ 61) ≤ j ∧ j < 2 ^ 61) (h0 : 0 < c) (h1 : c < 1000000) : Builtin.Range.small i j c = true := by
  unfold Builtin.Range.small
  rw [rangeSize_step h0]
  unfold stepN
  simp only [Builtin.Range.rangeFitsLong, Bool.and_eq_true, Bool.or_eq_true, decide_eq_true_eq, beq_iff_eq, h0, if_true]
  have : (j - i - 1) / c ≤ (j - i - 1) ∨ j - i - 1 < 0 := by
    by_cases h : j - i - 1 < 0
    · exact .inr h
    · exact .inl (Int.ediv_le_self _ (by omega))
  have h2 : 0 < c := h0
  split <;> omega
theorem di_range3 {tg : Expr} {fs : Reg → Option (List D)} {ts : TA} {p : Pos} (hm : X.mg "range" = none) (ha : DA X [a, b, c] ts fs) (hg : Gl X "range" := by rfl)
    (hs : starEach [a, b, c] X.env = (false, eval a X.env) :: starEach [b, c] X.env := by rfl) (hpl : (backTo pos (starEach [b, c] X.env)).any (·.1) = false := by rfl) : DI X tg (.Call (.Name "range" p) [a, b, c] [] pos) (iRng3 ts) (rng3 fs) := by
  refine ⟨pi_range3 hg hm ha.p hs hpl, fun σ H F ρ ds R r q k => ?_⟩
  unfold rng3 at q
  obtain ⟨es, e1, e2⟩ := Option.bind_eq_some_iff.mp q
  refine ha.q σ H F ρ es _ r e1 fun vs H' F' x rv => ?_
  split at e2
  · rename_i i j c
    split at e2
    · rename_i hb
      cases e2
      cases rv with
      | cons a b =>
        cases b with
        | cons c d =>
          cases d with
          | cons d e =>
            cases e
            cases a
            cases c
            cases d
            exact ⟨i, j, _, stepN i j _, rfl, ⟨by omega, by omega, small_step hb.1 hb.2.1 hb.2.2, rangeSize_step hb.2.1⟩, k _ H' F' x (wlk_rangeC rfl)⟩
    · cases e2
  · cases e2
/-! ### == of data of any depth -/
mutual
def toP : D → PyData
  | .non => .none
  | .bl b => .bool b
  | .int i => .int i
  | .str l => .str ⟨l.toArray⟩
  | .lst ds => .list (toPs ds)
  | .tup ds => .tuple (toPs ds)
  | .dic _ => .none
  | .obj _ _ => .none
def toPs : List D → List PyData
  | [] => []
  | d :: ds => toP d :: toPs ds
end
mutual
/-- data that == walks: texts of code points, at most n deep -/
def okD : Nat → D → Bool
  | _, .non => true
  | _, .bl _ => true
  | _, .int _ => true
  | _, .str l => l.all (· < 0x110000)
  | 0, .lst _ => false
  | n + 1, .lst ds => okDs n ds
  | 0, .tup _ => false
  | n + 1, .tup ds => okDs n ds
  | _, .dic _ => false
  | _, .obj _ _ => false
def okDs : Nat → List D → Bool
  | _, [] => true
  | n, d :: ds => okD n d && okDs n ds
end
mutual
theorem dp_of {Y : Kn} {F H : Hp} (s : Sub F H) : ∀ {n : Nat} {v : V} {d : D}, Rep Y F v d → okD n d = true → Dp Y.K H v (toP d)
  | _, _, _, .non, _ => by unfold toP; exact .non
  | _, _, _, .bl b, _ => by unfold toP; exact .bl b
  | _, _, _, .int i, _ => by unfold toP; exact .int i
  | _, _, _, .str z, _ => by unfold toP; rw [mk_tl]; exact .str z
  | 0, _, _, .lst h r, e => by simp [okD] at e
  | n + 1, _, _, .lst h r, e => by unfold toP; exact .lst (sqL_sub s h) (dps_of (n := n) s r (by simpa [okD] using e))
  | 0, _, _, .tup h r, e => by simp [okD] at e
  | n + 1, _, _, .tup h r, e => by unfold toP; exact .tup (sqT_sub s h) (dps_of (n := n) s r (by simpa [okD] using e))
  | _, _, _, .dic _ _, e => by simp [okD] at e
  | _, _, _, .obj _ _ _ _, e => by simp [okD] at e
theorem dps_of {Y : Kn} {F H : Hp} (s : Sub F H) : ∀ {n : Nat} {vs : List V} {ds : List D}, Reps Y F vs ds → okDs n ds = true → DpAll Y.K H vs (toPs ds)
  | _, _, _, .nil, _ => by unfold toPs; exact .nil
  | n, _, _, .cons h t, e => by
    unfold toPs
    have e2 := Bool.and_eq_true_iff.mp (show (okD n _ && okDs n _) = true by simpa [okDs] using e)
    exact .cons (dp_of s h e2.1) (dps_of s t e2.2)
end
mutual
theorem lay_of : ∀ {n : Nat} {d : D}, okD n d = true → (toP d).canLay0 = true ∧ (toP d).depth ≤ n
  | _, .non, _ => by simp [toP, PyData.canLay0, PyData.depth]
  | _, .bl b, _ => by simp [toP, PyData.canLay0, PyData.depth]
  | _, .int i, _ => by simp [toP, PyData.canLay0, PyData.depth]
  | _, .str z, e => by
    simp only [okD] at e
    simp only [toP, PyData.canLay0, PyData.depth, PyData.strOk]
    refine ⟨?_, Nat.zero_le _⟩
    simpa using e
  | 0, .lst ds, e => by simp [okD] at e
  | n + 1, .lst ds, e => by
    have h := lays_of (n := n) (ds := ds) (by simpa [okD] using e)
    simp only [toP, PyData.canLay0, PyData.depth]
    exact ⟨h.1, by omega⟩
  | 0, .tup ds, e => by simp [okD] at e
  | n + 1, .tup ds, e => by
    have h := lays_of (n := n) (ds := ds) (by simpa [okD] using e)
    simp only [toP, PyData.canLay0, PyData.depth]
    exact ⟨h.1, by omega⟩
  | _, .dic _, e => by simp [okD] at e
  | _, .obj _ _, e => by simp [okD] at e
theorem lays_of : ∀ {n : Nat} {ds : List D}, okDs n ds = true → PyData.canLayAll0 (toPs ds) = true ∧ PyData.depthAll (toPs ds) ≤ n
  | _, [], _ => by simp [toPs, PyData.canLayAll0, PyData.depthAll]
  | n, d :: ds, e => by
    have e2 := Bool.and_eq_true_iff.mp (show (okD n d && okDs n ds) = true by simpa [okDs] using e)
    have h1 := lay_of e2.1
    have h2 := lays_of e2.2
    simp only [toPs, PyData.canLayAll0, PyData.depthAll, h1.1, h2.1]
    exact ⟨rfl, by omega⟩
end
theorem shaped_of {d : D} (e : okD 64 d = true) : SeqAt.shaped (toP d) = true := by
  have h := lay_of e
  unfold SeqAt.shaped
  rw [h.1, decide_eq_true h.2]
  rfl
def dEqP (x y : D) : Option Bool := if okD 64 x = true ∧ okD 64 y = true then some (PyData.eqv (toP x) (toP y)) else none
def dNeP (x y : D) : Option Bool := (dEqP x y).map not
theorem dp_rep {Y : Kn} {H F : Hp} {v : V} {d : D} (s : Sub F H) (r : RepT Y H F v d) (e : okD 64 d = true) : Dp Y.K H v (toP d) := by
  rcases r with r | ⟨a, rfl, o⟩
  · exact dp_of s r e
  · cases d with
    | lst ds =>
      obtain ⟨vs, h1, h2⟩ := o
      unfold toP
      exact .lst (.inl (.inl h1)) (dps_of (n := 63) s h2 (by simpa [okD] using e))
    | dic ds => simp [okD] at e
    | _ => exact o.elim
theorem rd_eqP {Y : Kn} : RdT Y (rEqD Y.K) dEqP := by
  intro H F x y da db c Q s rx ry e k
  unfold dEqP at e
  split at e
  · rename_i hh
    cases e
    exact ⟨_, _, dp_rep s rx hh.1, dp_rep s ry hh.2, shaped_of hh.1, shaped_of hh.2, k⟩
  · cases e
theorem rd_neP {Y : Kn} : RdT Y (rNeD Y.K) dNeP := by
  intro H F x y da db c Q s rx ry e k
  unfold dNeP dEqP at e
  split at e
  · rename_i hh
    cases e
    exact ⟨_, _, dp_rep s rx hh.1, dp_rep s ry hh.2, shaped_of hh.1, shaped_of hh.2, k⟩
  · cases e
theorem room64 {k : Nat} (hr : Room k X.A) : X.A.units + 64 < cLine := by have := hr.un; omega
theorem dt_eqP {k : Nat} (hr : Room k X.A) (ha : DB X a ta f) (hb : DB X b tb g) : DT X (.Compare a [.Eq] [b] pos) (tTest (tOp (rEqD X.K) ta tb)) (cmp2 f g dEqP) := dt_cmp (op_eqD (room64 hr)) rd_eqP (nomark _) ha hb
theorem dt_neP {k : Nat} (hr : Room k X.A) (ha : DB X a ta f) (hb : DB X b tb g) : DT X (.Compare a [.NotEq] [b] pos) (tTest (tOp (rNeD X.K) ta tb)) (cmp2 f g dNeP) := dt_cmp (op_neD (room64 hr)) rd_neP (nomark _) ha hb
theorem de_eqP {k : Nat} (hr : Room k X.A) (ha : DB X a ta f) (hb : DB X b tb g) : DE X (.Compare a [.Eq] [b] pos) (tOp (rEqD X.K) ta tb) (bV (cmp2 f g dEqP)) := de_cmp (op_eqD (room64 hr)) rd_eqP (nomark _) ha hb
theorem de_neP {k : Nat} (hr : Room k X.A) (ha : DB X a ta f) (hb : DB X b tb g) : DE X (.Compare a [.NotEq] [b] pos) (tOp (rNeD X.K) ta tb) (bV (cmp2 f g dNeP)) := de_cmp (op_neD (room64 hr)) rd_neP (nomark _) ha hb
theorem eqP_self {d : D} (e : okD 64 d = true) : dEqP d d = some true := by
  unfold dEqP
  rw [if_pos ⟨e, e⟩, SeqAt.eqv_refl _ (lay_of e).1]
theorem neP_self {d : D} (e : okD 64 d = true) : dNeP d d = some false := by
  unfold dNeP
  rw [eqP_self e]; rfl
/-! ### sorted, pairs of texts -/
section
variable {α : Type} {lt : α → α → Bool}
/-- put in ahead of the first that is not less -/
def insB (lt : α → α → Bool) (x : α) : List α → List α
  | [] => [x]
  | y :: l => if lt y x then y :: insB lt x l else x :: y :: l
def sortB (lt : α → α → Bool) : List α → List α
  | [] => []
  | x :: l => insB lt x (sortB lt l)
theorem ins_perm (x : α) : ∀ l : List α, (insB lt x l).Perm (x :: l)
  | [] => List.Perm.refl _
  | y :: l => by
    unfold insB
    split
    · exact (List.Perm.cons y (ins_perm x l)).trans (List.Perm.swap x y l)
    · exact List.Perm.refl _
theorem sortB_perm : ∀ l : List α, (sortB lt l).Perm l
  | [] => List.Perm.refl _
  | x :: l => (ins_perm x _).trans ((sortB_perm l).cons x)
theorem ins_srtd (O : SrtO.Swo lt) (x : α) : ∀ l : List α, SrtO.Srtd lt l → SrtO.Srtd lt (insB lt x l)
  | [], _ => List.pairwise_singleton _ _
  | y :: l, h => by
    obtain ⟨h1, h2⟩ := List.pairwise_cons.mp h
    unfold insB
    by_cases hl : lt y x = true
    · rw [if_pos hl]
      refine List.pairwise_cons.mpr ⟨fun z hz => ?_, ins_srtd O x l h2⟩
      rcases List.mem_cons.mp ((ins_perm x l).mem_iff.mp hz) with rfl | hz
      · exact O.asym _ _ hl
      · exact h1 z hz
    · rw [if_neg hl]
      have hf : lt y x = false := by cases q : lt y x <;> simp_all
      refine List.pairwise_cons.mpr ⟨fun z hz => ?_, h⟩
      rcases List.mem_cons.mp hz with rfl | hz
      · exact hf
      · exact O.tr x y z hf (h1 z hz)
theorem sortB_srtd (O : SrtO.Swo lt) : ∀ l : List α, SrtO.Srtd lt (sortB lt l)
  | [] => List.Pairwise.nil
  | x :: l => ins_srtd O x _ (sortB_srtd O l)
theorem ins_cls (O : SrtO.Swo lt) (z x : α) : ∀ l : List α, (insB lt x l).filter (SrtO.eqv lt z) = (x :: l).filter (SrtO.eqv lt z)
  | [] => rfl
  | y :: l => by
    unfold insB
    by_cases hl : lt y x = true
    · rw [if_pos hl]
      have ih := ins_cls O z x l
      by_cases hx : SrtO.eqv lt z x = true
      · by_cases hy : SrtO.eqv lt z y = true
        · exfalso
          simp only [SrtO.eqv, Bool.and_eq_true, Bool.not_eq_true'] at hx hy
          have := O.tr x z y hx.1 hy.2
          rw [hl] at this
          cases this
        · rw [List.filter_cons_of_neg hy, ih, List.filter_cons_of_pos hx, List.filter_cons_of_pos hx, List.filter_cons_of_neg hy]
      · have ih' : (insB lt x l).filter (SrtO.eqv lt z) = l.filter (SrtO.eqv lt z) := by rw [ih, List.filter_cons_of_neg hx]
        rw [List.filter_cons, ih', List.filter_cons_of_neg hx, List.filter_cons]
    · rw [if_neg hl]
theorem sortB_stb (O : SrtO.Swo lt) : ∀ l : List α, SrtO.Stb lt (sortB lt l) l
  | [] => SrtO.Stb.refl _
  | x :: l => by
    refine ⟨sortB_perm _, fun z => ?_⟩
    show (insB lt x (sortB lt l)).filter (SrtO.eqv lt z) = _
    rw [ins_cls O, List.filter_cons, (sortB_stb O l).cls z, List.filter_cons]
end
/-- by the first text, then by the second -/
def lexS (p q : List Nat × List Nat) : Bool := if p.1 = q.1 then decide (p.2 < q.2) else decide (p.1 < q.1)
theorem lt_irr (a : List Nat) : ¬ a < a := List.lt_irrefl a
theorem lt_tri (a b : List Nat) (h1 : ¬ a < b) (h2 : ¬ b < a) : a = b := List.le_antisymm (List.not_lt.mp h2) (List.not_lt.mp h1)
theorem lexS_iff {p q : List Nat × List Nat} : lexS p q = true ↔ p.1 < q.1 ∨ (p.1 = q.1 ∧ p.2 < q.2) := by
  unfold lexS
  by_cases e : p.1 = q.1
  · rw [if_pos e, decide_eq_true_eq, e]
    exact ⟨fun h => .inr ⟨rfl, h⟩, fun h => h.elim (fun z => absurd z (lt_irr _)) And.right⟩
  · rw [if_neg e, decide_eq_true_eq]
    exact ⟨.inl, fun h => h.elim id fun z => absurd z.1 e⟩
theorem lexS_no {p q : List Nat × List Nat} : lexS p q = false ↔ ¬ (p.1 < q.1 ∨ (p.1 = q.1 ∧ p.2 < q.2)) := by
  rw [← lexS_iff]
  cases lexS p q <;> simp
theorem lexS_le {p q : List Nat × List Nat} : lexS p q = false ↔ q.1 < p.1 ∨ (q.1 = p.1 ∧ ¬ p.2 < q.2) := by
  rw [lexS_no]
  constructor
  · intro h
    by_cases e : q.1 = p.1
    · exact .inr ⟨e, fun z => h (.inr ⟨e.symm, z⟩)⟩
    · by_cases z : q.1 < p.1
      · exact .inl z
      · exact absurd (lt_tri _ _ z fun y => h (.inl y)) e
  · rintro (h | ⟨e, h⟩) (k | ⟨e', k⟩)
    · exact lt_irr _ (List.lt_trans h k)
    · rw [e'] at h; exact lt_irr _ h
    · rw [e] at k; exact lt_irr _ k
    · exact h k
theorem swo_lexS {α : Type} (k : α → List Nat × List Nat) : SrtO.Swo fun v u => lexS (k v) (k u) := by
  refine ⟨fun x y h => ?_, fun x y z h1 h2 => ?_⟩
  · rw [lexS_iff] at h
    rw [lexS_le]
    rcases h with h | ⟨e, h⟩
    · exact .inl h
    · exact .inr ⟨e, fun z => lt_irr _ (List.lt_trans h z)⟩
  · rw [lexS_le] at h1 h2 ⊢
    rcases h1 with h1 | ⟨e1, h1⟩
    · rcases h2 with h2 | ⟨e2, h2⟩
      · exact .inl (List.lt_trans h1 h2)
      · rw [← e2]; exact .inl h1
    · rcases h2 with h2 | ⟨e2, h2⟩
      · rw [e1]; exact .inl h2
      · refine .inr ⟨e1.trans e2, fun z => ?_⟩
        by_cases w : (k x).2 < (k y).2
        · exact h2 (List.lt_trans z w)
        · rw [lt_tri _ _ w h1] at z
          exact h2 z
/-! .. in the model -/
section

variable {prog : Program} {w : World} {A : Around} {E : Value → Shared → Prop} {s : Shared}
def IsPairS (h : Heap) (v : Value) (x y : List Nat) : Prop := ∃ a o z1 z2 t u n, v = .ref a ∧ h.get? a = some o ∧ o.cls = .type "tuple" ∧ o.data = .seq #[.str z1 t, .str z2 u] n ∧ tl z1 = x ∧ tl z2 = y
theorem IsPairS.keeps {h h' : Heap} {v : Value} {x y : List Nat} (p : IsPairS h v x y) (k : ∀ b o, h.get? b = some o → o.cls = .type "tuple" → h'.get? b = some o) : IsPairS h' v x y := by
  obtain ⟨a, o, z1, z2, t, u, n, e, ho, hc, hd, e1, e2⟩ := p
  exact ⟨a, o, z1, z2, t, u, n, e, k _ _ ho hc, hc, hd, e1, e2⟩
theorem tl_beq {x y : Str} : (x == y) = decide (tl x = tl y) := by
  rw [Bool.eq_iff_iff, decide_eq_true_eq, beq_iff_eq]
  exact ⟨fun e => by rw [e], fun e => by rw [← mk_tl x, ← mk_tl y, e]⟩
theorem pairS_cmp {vs : List Value} {k : Value → List Nat × List Nat} (hp : ∀ v ∈ vs, IsPairS s.heap v (k v).1 (k v).2) : SrtO.Cmp prog w A s (tuples' true) (fun p => p.1 ∈ vs) (SrtO.lt2 fun v u => lexS (k v) (k u)) := by
  intro p q hm hm'
  have h1 := hp _ hm
  have h2 := hp _ hm'
  show wpAny (model prog w) A (keyLt' (tuples' true) p.1 q.1) (fun r s' => s' = s ∧ r = lexS (k p.1) (k q.1)) (fun _ _ => False) s
  unfold lexS
  generalize (k p.1).1 = x at h1 ⊢
  generalize (k p.1).2 = y at h1 ⊢
  generalize (k q.1).1 = x' at h2 ⊢
  generalize (k q.1).2 = y' at h2 ⊢
  obtain ⟨a, o, z1, z2, t, u, n, e, ho, hc, hd, e1, e2⟩ := h1
  obtain ⟨a', o', z1', z2', t', u', n', e', ho', hc', hd', e1', e2'⟩ := h2
  subst e1 e2 e1' e2'
  rw [e, e']
  refine PySem.W.kat_lt ho hd ho' hd' ?_
  show PySem.W.KatLex prog w A true (decide (2 < 2)) _ [(.str z1 t, .str z1' t'), (.str z2 u, .str z2' u')] 0 s
  refine PySem.W.kat_cons (SeqAt.EqAt.str_str z1 t z1' t' prog w _ _ ?_)
  rw [tl_beq]
  refine PySem.W.kat_go (fun e1 => ?_) (fun e1 => ?_)
  · have ex : tl z1 = tl z1' := by simpa using e1
    refine PySem.W.kat_yes (PySem.W.kat_cons (SeqAt.EqAt.str_str z2 u z2' u' prog w _ _ ?_))
    rw [tl_beq]
    refine PySem.W.kat_go (fun e2 => ?_) (fun e2 => ?_)
    · have ey : tl z2 = tl z2' := by simpa using e2
      have e3 : (if tl z1 = tl z1' then decide (tl z2 < tl z2') else decide (tl z1 < tl z1')) = false := by
        rw [if_pos ex, ey]
        exact decide_eq_false (lt_irr _)
      exact PySem.W.kat_yes (PySem.W.kat_nil ⟨rfl, e3.symm⟩)
    · have e3 : (if tl z1 = tl z1' then decide (tl z2 < tl z2') else decide (tl z1 < tl z1')) = decide (tl z2 < tl z2') := if_pos ex
      refine PySem.W.kat_no (PySem.W.kat_one _ _ (PyProof.Rows.lt_str ?_))
      exact (show s = s ∧ decide (tl z2 < tl z2') = _ from ⟨rfl, e3.symm⟩)
  · have ex : ¬ tl z1 = tl z1' := by simpa using e1
    have e3 : (if tl z1 = tl z1' then decide (tl z2 < tl z2') else decide (tl z1 < tl z1')) = decide (tl z1 < tl z1') := if_neg ex
    exact PySem.W.kat_no (oneLt_str ⟨rfl, e3.symm⟩)
theorem firstsS_of {h : Heap} : ∀ {vs : List Value}, (∀ v ∈ vs, ∃ x y, IsPairS h v x y) → ∃ fs : List Value, PySem.W.KatTups h vs fs ∧ fs.length = vs.length ∧ ∀ f ∈ fs, ∃ x t, f = Value.str x t
  | [], _ => ⟨[], PySem.W.KatTups.nil, rfl, fun _ hm => by simp at hm⟩
  | v :: vs, hp => by
    obtain ⟨fs, h1, h2, h3⟩ := firstsS_of (vs := vs) fun v' hm => hp v' (List.mem_cons_of_mem _ hm)
    obtain ⟨x, y, a, o, z1, z2, t, u, n, e, ho, hc, hd, _, _⟩ := hp v (List.mem_cons_self ..)
    subst e
    refine ⟨.str z1 t :: fs, PySem.W.KatTups.cons ho hc hd rfl h1, by rw [List.length_cons, List.length_cons, h2], fun f hm => ?_⟩
    rcases List.mem_cons.mp hm with rfl | hm
    · exact ⟨z1, t, rfl⟩
    · exact h3 f hm
theorem pairsS_sortable {a : Addr} {vs : List Value} {k : Value → List Nat × List Nat} (h0 : 0 < vs.length) (hp : ∀ v ∈ vs, IsPairS s.heap v (k v).1 (k v).2) (ha : ∀ o, s.heap.get? a = some o → o.cls ≠ .type "tuple") : SrtO.SortableO prog w A s a vs fun v u => lexS (k v) (k u) := by
  intro h' keep
  have hp' : ∀ v ∈ vs, IsPairS h' v (k v).1 (k v).2 := fun v hm => (hp v hm).keeps fun b o e c => keep b o (fun z => by subst z; exact ha o e c) e
  obtain ⟨fs, h1, h2, h3⟩ := firstsS_of fun v hm => ⟨_, _, hp' v hm⟩
  refine ⟨tuples' true, fun Q E hq => ?_, pairS_cmp hp'⟩
  refine PySem.W.kat_kind (T := .type "str") h1 (by omega) (fun f hm => ?_) (by rfl) ?_
  · obtain ⟨x, t, rfl⟩ := h3 f hm
    exact PySem.W.Looks.now
  · have e : (Value.type "str" != Value.type "tuple") = true := by first | decide +kernel | rfl | decide
    rw [e]
    exact hq
theorem sorted_pairsS {l : Addr} {vs : List Value} {k : Value → List Nat × List Nat} {Q : Value → Shared → Prop} (hl : s.heap.IsList l vs.toArray) (hz : vs.length ≤ sizeLine) (hp : ∀ v ∈ vs, IsPairS s.heap v (k v).1 (k v).2)
    (h : ∀ (h' : Heap) (d : Addr) (out : List Value), SrtO.Srtd (fun v u => lexS (k v) (k u)) out → SrtO.Stb (fun v u => lexS (k v) (k u)) out vs → (∀ b o, s.heap.get? b = some o → h'.get? b = some o) → s.heap.objs.size ≤ d → (∃ n, h'.get? d = some (seqObj "list" out.toArray n)) → Q (.ref d) { s with heap := h' }) :
    wpAny (model prog w) A (call (.builtin "sorted") [.ref l]) Q E s := by
  refine SrtO.sorted_ord (swo_lexS k) hl hz (fun h2 h₁ a ha kk => ?_) fun out hs hb => ?_
  · refine pairsS_sortable (s := { s with heap := h₁ }) (by omega) (fun v hm => (hp v hm).keeps fun b o e _ => (kk b o e).2) fun o e => ?_
    have e' : some o = some (seqObj "list" vs.toArray 0) := e.symm.trans ha
    cases e'
    intro c
    exact absurd (Value.type.inj c) (by decide)
  · exact h _ _ out hs hb (fun b o e => sortedAll_old e) (Nat.le_succ _) (sortedAll_at s.heap vs out.toArray)
end
theorem ins_map {α β : Type} {lt : α → α → Bool} {lt' : β → β → Bool} {f : α → β} (x : α) : ∀ l : List α, (∀ y ∈ l, lt' (f y) (f x) = lt y x) → insB lt' (f x) (l.map f) = (insB lt x l).map f
  | [], _ => rfl
  | y :: l, h => by
    have e := h y List.mem_cons_self
    have ih := ins_map x l fun z hz => h z (List.mem_cons_of_mem _ hz)
    show (if lt' (f y) (f x) then f y :: insB lt' (f x) (l.map f) else f x :: f y :: l.map f) = (if lt y x then y :: insB lt x l else x :: y :: l).map f
    rw [e, ih]
    split <;> rfl
theorem sortB_map {α β : Type} {lt : α → α → Bool} {lt' : β → β → Bool} {f : α → β} : ∀ l : List α, (∀ x ∈ l, ∀ y ∈ l, lt' (f x) (f y) = lt x y) → sortB lt' (l.map f) = (sortB lt l).map f
  | [], _ => rfl
  | x :: l, h => by
    have ih := sortB_map l fun a ha b hb => h a (List.mem_cons_of_mem _ ha) b (List.mem_cons_of_mem _ hb)
    show insB lt' (f x) (sortB lt' (l.map f)) = (insB lt x (sortB lt l)).map f
    rw [ih]
    exact ins_map x _ fun y hy => h y (List.mem_cons_of_mem _ ((sortB_perm l).mem_iff.mp hy)) x List.mem_cons_self
def pairOf : D → Option (List Nat × List Nat)
  | .tup [.str a, .str b] => some (a, b)
  | _ => none
def keyD (d : D) : List Nat × List Nat := (pairOf d).getD ([], [])
def ltD (x y : D) : Bool := lexS (keyD x) (keyD y)
def ltVD (x y : V × D) : Bool := lexS (keyD x.2) (keyD y.2)
def dSortP : D → Option D
  | .lst ds => if ds.all (fun d => (pairOf d).isSome) = true then some (.lst (sortB ltD ds)) else none
  | _ => none
def rSortS (K : PySem.W.Frag) : List V → Hp → VK → Prop := fun vs H Q => ∃ (a : Addr) (ps : List (V × D)), vs = [V.ref a] ∧ SqL K H a (ps.map Prod.fst) ∧ (∀ p ∈ ps, ∃ t z1 z2, p.1 = V.ref t ∧ SqT K H t [.str z1, .str z2] ∧ keyD p.2 = (tl z1, tl z2)) ∧
  ∀ q, H q = none → Q (.ref q) (upd H q (.lst ((sortB ltVD ps).map Prod.fst)))
open Classical in
noncomputable def kH (h : Heap) (v : Value) : List Nat × List Nat := if e : ∃ p : List Nat × List Nat, IsPairS h v p.1 p.2 then e.choose else ([], [])
theorem pairS_one {h : Heap} {v : Value} {x y x' y' : List Nat} (p : IsPairS h v x y) (q : IsPairS h v x' y') : x = x' ∧ y = y' := by
  obtain ⟨a, o, z1, z2, t, u, n, e, ho, hc, hd, e1, e2⟩ := p
  obtain ⟨a', o', z1', z2', t', u', n', e', ho', hc', hd', e1', e2'⟩ := q
  subst e
  cases e'
  rw [ho] at ho'
  cases ho'
  rw [hd] at hd'
  cases hd'
  exact ⟨e1.symm.trans e1', e2.symm.trans e2'⟩
theorem kH_of {h : Heap} {v : Value} {x y : List Nat} (p : IsPairS h v x y) : kH h v = (x, y) := by
  have e : ∃ p : List Nat × List Nat, IsPairS h v p.1 p.2 := ⟨(x, y), p⟩
  unfold kH
  rw [dif_pos e]
  have := pairS_one e.choose_spec p
  exact Prod.ext this.1 this.2
def refV : V → Value
  | .ref a => .ref a
  | _ => .none
theorem vals_refs : ∀ {ps : List (V × D)} {us : List Value}, Vals (ps.map Prod.fst) us → (∀ p ∈ ps, ∃ a, p.1 = V.ref a) → us = ps.map fun p => refV p.1
  | [], _, r, _ => by cases r; rfl
  | p :: ps, us, r, h => by
    obtain ⟨a, e⟩ := h p List.mem_cons_self
    cases r with
    | cons r1 r2 =>
      rw [e] at r1
      cases r1
      rw [vals_refs r2 fun q hq => h q (List.mem_cons_of_mem _ hq), List.map_cons, e]
      rfl
theorem vals_of_refs : ∀ {ps : List (V × D)}, (∀ p ∈ ps, ∃ a, p.1 = V.ref a) → Vals (ps.map Prod.fst) (ps.map fun p => refV p.1)
  | [], _ => .nil
  | p :: ps, h => by
    obtain ⟨a, e⟩ := h p List.mem_cons_self
    rw [List.map_cons, List.map_cons, e]
    exact .cons (show RelV (.ref a) (.ref a) from rfl) (vals_of_refs fun q hq => h q (List.mem_cons_of_mem _ hq))
theorem cr_sortS : CallR X (.builtin "sorted") (rSortS X.K) := by
  intro pins s σ H vs us Q I r h
  obtain ⟨a, ps, rfl, hs, hx, q⟩ := h
  obtain ⟨its, rv, hl, hz⟩ := I.list hs
  obtain ⟨u, rfl, ru⟩ := vals1 r
  obtain rfl : u = Value.ref a := ru
  have hr : ∀ p ∈ ps, ∃ a, p.1 = V.ref a := fun p hp => by
    obtain ⟨t, _, _, e, _⟩ := hx p hp
    exact ⟨t, e⟩
  have ei := vals_refs rv hr
  have isp : ∀ p ∈ ps, IsPairS s.heap (refV p.1) (keyD p.2).1 (keyD p.2).2 := fun p hp => by
    obtain ⟨t, z1, z2, e, ht, ek⟩ := hx p hp
    obtain ⟨its2, r2, ⟨o, ho, hc, n, hd⟩, _⟩ := I.tuple ht
    obtain ⟨u1, u2, rfl, ri, rj⟩ := vals2 r2
    obtain ⟨t1, rfl⟩ := ri
    obtain ⟨t2, rfl⟩ := rj
    rw [e, ek]
    exact ⟨t, o, z1, z2, t1, t2, n, rfl, ho, hc, hd, rfl, rfl⟩
  have hk : ∀ v ∈ its, IsPairS s.heap v (kH s.heap v).1 (kH s.heap v).2 := fun v hv => by
    rw [ei] at hv
    obtain ⟨p, hp, rfl⟩ := List.mem_map.mp hv
    have := isp p hp
    rw [kH_of this]
    exact this
  refine sorted_pairsS (k := kH s.heap) hl.isList (by rw [← rv.length]; exact hz) hk fun h' d out h1 h2 kp hd hn => ?_
  obtain ⟨n, hn⟩ := hn
  have O : SrtO.Swo fun v u => lexS (kH s.heap v) (kH s.heap u) := swo_lexS _
  have eo : out = (sortB ltVD ps).map fun p => refV p.1 := by
    have e1 : out = sortB (fun v u => lexS (kH s.heap v) (kH s.heap u)) its := SrtO.stb_uniq O h1 (sortB_srtd O its) (h2.trans ⟨(sortB_stb O its).perm.symm, fun x => ((sortB_stb O its).cls x).symm⟩)
    rw [e1, ei]
    refine sortB_map ps fun x hx y hy => ?_
    rw [kH_of (isp x hx), kH_of (isp y hy)]
    rfl
  have hr' : ∀ p ∈ sortB ltVD ps, ∃ a, p.1 = V.ref a := fun p hp => hr p ((sortB_perm ps).mem_iff.mp hp)
  refine ⟨.ref d, upd H d (.lst ((sortB ltVD ps).map Prod.fst)), I.laid (t' := s.toks) kp hd ⟨?_, out, n, ?_, hn⟩, rfl, q d (I.hok.fresh hd)⟩
  · rw [List.length_map, (sortB_perm ps).length_eq]
    rw [List.length_map] at hz
    exact hz
  · rw [eo]
    exact vals_of_refs hr'
theorem reps_zip {Y : Kn} {F : Hp} : ∀ {vs : List V} {ds : List D}, Reps Y F vs ds → (vs.zip ds).map Prod.fst = vs ∧ (vs.zip ds).map Prod.snd = ds ∧ ∀ p ∈ vs.zip ds, Rep Y F p.1 p.2
  | _, _, .nil => ⟨rfl, rfl, fun _ h => nomatch h⟩
  | _, _, .cons h t => by
    obtain ⟨h1, h2, h3⟩ := reps_zip t
    refine ⟨by rw [List.zip_cons_cons, List.map_cons, h1], by rw [List.zip_cons_cons, List.map_cons, h2], fun p hp => ?_⟩
    rw [List.zip_cons_cons] at hp
    rcases List.mem_cons.mp hp with rfl | hp
    · exact h
    · exact h3 p hp
theorem zip_reps {Y : Kn} {F : Hp} : ∀ {ps : List (V × D)}, (∀ p ∈ ps, Rep Y F p.1 p.2) → Reps Y F (ps.map Prod.fst) (ps.map Prod.snd)
  | [], _ => .nil
  | p :: ps, h => .cons (h p List.mem_cons_self) (zip_reps fun q hq => h q (List.mem_cons_of_mem _ hq))
theorem pairOf_some {d : D} (h : (pairOf d).isSome = true) : ∃ a b, d = .tup [.str a, .str b] := by
  unfold pairOf at h
  split at h
  · exact ⟨_, _, rfl⟩
  · cases h
theorem rc_sortP {Y : Kn} : RcN Y (rSortS Y.K) dSortP := by
  intro H F x da d Q s rx e k
  unfold dSortP at e
  split at e
  · rename_i ds
    split at e
    · rename_i hp
      cases e
      obtain ⟨p, vs, rfl, h1, r1⟩ := rx.lst s
      obtain ⟨z1, z2, z3⟩ := reps_zip r1
      refine ⟨p, vs.zip ds, rfl, by rw [z1]; exact h1, fun q hq => ?_, fun q hq => ?_⟩
      · have hd : q.2 ∈ ds := (List.of_mem_zip (show (q.1, q.2) ∈ vs.zip ds from hq)).2
        obtain ⟨a, b, e⟩ := pairOf_some (List.all_eq_true.mp hp _ hd)
        have r := z3 q hq
        rw [e] at r
        obtain ⟨q1, q2⟩ := q
        dsimp only at e r ⊢
        subst e
        cases r with
        | tup ht rr =>
          cases rr with
          | cons ra rr =>
            cases rr with
            | cons rb rr =>
              cases rr
              cases ra
              cases rb
              exact ⟨_, _, _, rfl, sqT_sub s ht, rfl⟩
      · refine k q _ F (ext_new s hq) hq (none_of_sub s hq) ⟨_, upd_same, ?_⟩
        have z4 : sortB ltD ds = (sortB ltVD (vs.zip ds)).map Prod.snd := by
          have := sortB_map (lt := ltVD) (lt' := ltD) (f := Prod.snd) (vs.zip ds) fun _ _ _ _ => rfl
          rw [z2] at this
          exact this
        rw [z4]
        exact zip_reps fun p hp => z3 p ((sortB_perm _).mem_iff.mp hp)
    · cases e
  · cases e
theorem dn_callB {id : String} {x : Str} {r : List V → Hp → VK → Prop} {g : D → Option D} {p : Pos} (hc : CallR X (.builtin id) r) (hr : RcN (kn X) r g) (hm : X.mg x = none) (hv : bootBuiltins x = some (.builtin id)) (ha : DB X a ta f) (hg : Gl X x := by rfl) (hn : x ≠ "__name__" := by decide) (hdb : (x == ("__debug__" : Str)) = false := by decide)
    (hs : starEach [a] X.env = (false, eval a X.env) :: starEach [] X.env := by rfl) (hpl : (backTo pos (starEach [] X.env)).any (·.1) = false := by rfl) : DN X (.Call (.Name x p) [a] [] pos) (tCB r (tCons ta tNil)) (un1 f g) := by
  refine ⟨pe_callB hc hg hm hv (pa_cons ha.p pa_nil hs) hn hdb hs hpl, fun σ H F ρ d Q r0 e k => ?_⟩
  obtain ⟨d1, e1, e2⟩ := Option.bind_eq_some_iff.mp e
  exact ha.q σ H F ρ d1 _ r0 e1 fun v H' F' x' rv => hr H' F' v d1 d Q x'.s rv e2 fun u H2 F2 x2 n0 n1 o => k u H2 F2 (x'.trans x2) (none_of_sub x'.h n0) n1 o
def dn_sortP {p : Pos} (hm : X.mg "sorted" = none) (ha : DB X a ta f) (hg : Gl X "sorted" := by rfl) (hs : starEach [a] X.env = (false, eval a X.env) :: starEach [] X.env := by rfl) (hpl : (backTo pos (starEach [] X.env)).any (·.1) = false := by rfl) :=
  (dn_callB cr_sortS rc_sortP hm (by decide +kernel) ha hg (by decide) (by decide) hs hpl : DN X (.Call (.Name "sorted" p) [a] [] pos) (tCB _ (tCons ta tNil)) (un1 f dSortP))
end
end DL

/-! DL, dicts written out: a display of constants with more than fifteen keys. -/
namespace DL
open PySem PySem.Spec PyProof.Rows L2
open TL (tl len_tl ext_tl tl_append tl_mk mk_tl map_tl_inj tl_ofString)
section
variable {prog : Program} {w : World} {A : Around} {E : Value → Shared → Prop} {env : Env} {pos : Pos}
abbrev Tree := Sem Value × Sem Value
/-- the rest of a run that is shorter than a piece -/
theorem gathS (f : (Option (Sem Value) × Sem Value) → (Option Addr × List Tree) → Sem (ForInStep (Option Addr × List Tree)))
    (h1 : ∀ (p : Tree) (mn : Option Addr) (run : List Tree), run.length + 1 ≠ 17 → f (some p.1, p.2) (mn, run) = pure (.yield (mn, run ++ [p]))) :
    ∀ (ys : List Tree) (mn : Option Addr) (run : List Tree), run.length + ys.length < 17 → forIn (ys.map fun p => (some p.1, p.2)) (mn, run) f = pure (mn, run ++ ys)
  | [], mn, run, _ => by rw [List.map_nil, List.forIn_nil, List.append_nil]
  | p :: ys, mn, run, h => by
    rw [List.length_cons] at h
    rw [List.map_cons, List.forIn_cons, h1 p mn run (by omega), pure_bind]
    have ih := gathS f h1 ys mn (run ++ [p]) (by rw [List.length_append, List.length_singleton]; omega)
    rw [List.append_assoc] at ih
    exact ih
/-- the first piece -/
theorem gathL (f : (Option (Sem Value) × Sem Value) → (Option Addr × List Tree) → Sem (ForInStep (Option Addr × List Tree))) (fl : List Tree → Option Addr → Sem (Option Addr))
    (h1 : ∀ (p : Tree) (mn : Option Addr) (run : List Tree), run.length + 1 ≠ 17 → f (some p.1, p.2) (mn, run) = pure (.yield (mn, run ++ [p])))
    (h2 : ∀ (p : Tree) (mn : Option Addr) (run : List Tree), run.length + 1 = 17 → f (some p.1, p.2) (mn, run) = (do let m ← fl (run ++ [p]) mn; pure (.yield (m, [])))) :
    ∀ (xs : List Tree) (p : Tree) (ys : List Tree) (mn : Option Addr) (run : List Tree), run.length + xs.length = 16 →
      forIn ((xs ++ p :: ys).map fun p => (some p.1, p.2)) (mn, run) f = (do let m ← fl (run ++ xs ++ [p]) mn; forIn (ys.map fun p => (some p.1, p.2)) (m, []) f)
  | [], p, ys, mn, run, h => by
    rw [List.nil_append, List.map_cons, List.forIn_cons, h2 p mn run (by rw [List.length_nil] at h; omega), List.append_nil, bind_assoc]
    simp only [pure_bind]
  | x :: xs, p, ys, mn, run, h => by
    rw [List.length_cons] at h
    rw [List.cons_append, List.map_cons, List.forIn_cons, h1 x mn run (by omega), pure_bind]
    have ih := gathL f fl h1 h2 xs p ys mn (run ++ [x]) (by rw [List.length_append, List.length_singleton]; omega)
    rw [List.append_assoc (as := run)] at ih
    exact ih
theorem disp_two (xs : List Tree) (p : Tree) (ys : List Tree) (hx : xs.length = 16) (hy : ys.length < 17) (h0 : ys ≠ []) :
    dictDisplay ((xs ++ p :: ys).map fun p => (some p.1, p.2)) = (do
      let d ← subDict (xs ++ [p])
      let sub ← holding [.ref d] (subDict ys)
      (holding [.ref d, .ref sub] (mergeMapping d (.ref sub) false)).onRaise fun x => do let _ ← holding [.ref d, x] (runValue (.builtin "proto.let_go" {}))
      pure (.ref d)) := by
  unfold dictDisplay
  dsimp only
  rw [gathL _ (fun run mn => if run.isEmpty then pure mn else match mn with
      | none => do let d ← subDict run; pure (some d)
      | some d => do
        let sub ← holding [.ref d] (subDict run)
        (holding [.ref d, .ref sub] (mergeMapping d (.ref sub) false)).onRaise fun x => do let _ ← holding [.ref d, x] (runValue (.builtin "proto.let_go" {}))
        pure (some d)) (fun p mn run h => by
      have hne : ((run ++ [(p.1, p.2)]).length == 17) = false := by simp; omega
      simp only [hne, Bool.false_eq_true, if_false]) (fun p mn run h => by
      have hne : ((run ++ [(p.1, p.2)]).length == 17) = true := by simp; omega
      simp only [hne, if_true]
      rfl) xs p ys none [] (by simpa using hx)]
  have e : (xs ++ [p] : List Tree).isEmpty = false := by cases xs <;> rfl
  simp only [e, Bool.false_eq_true, if_false, bind_assoc, pure_bind, List.nil_append]
  refine congrArg (fun k => subDict (xs ++ [p]) >>= k) (funext fun d => ?_)
  rw [gathS _ (fun p mn run h => by
      have hne : ((run ++ [(p.1, p.2)]).length == 17) = false := by simp; omega
      simp only [hne, Bool.false_eq_true, if_false]) ys (some d) [] (by simpa using hy)]
  have e2 : (ys : List Tree).isEmpty = false := by
    cases ys with
    | nil => exact absurd rfl h0
    | cons _ _ => rfl
  simp only [e2, Bool.false_eq_true, if_false, bind_assoc, pure_bind, List.nil_append]
/-! constants -/
def tabK : Expr → Option Key
  | .Constant (.str x) _ _ => some (.inr x)
  | .Constant (.int i) _ _ => some (.inl i)
  | _ => none
def tabV : Expr → Option V
  | .Constant (.str x) _ _ => some (.str x)
  | .Constant (.int i) _ _ => some (.int i)
  | .Constant (.bool b) _ _ => some (.bl b)
  | .Constant .none _ _ => some .non
  | _ => none
def litK : List (Option Expr) → List Expr → Option (List (Key × V))
  | [], [] => some []
  | some k :: ks, v :: vs => (tabK k).bind fun a => (tabV v).bind fun b => (litK ks vs).bind fun r => some ((a, b) :: r)
  | _, _ => none
theorem eval_tabV {e : Expr} {v : V} {s : Shared} {Q : Value → Shared → Prop} (he : tabV e = some v) (h : ∀ u tk, RelV v u → Q u { s with toks := tk }) : wpAny (model prog w) A (eval e env) Q E s := by
  unfold tabV at he
  split at he
  · cases he; exact wpAny_Constant_str (h _ _ ⟨_, rfl⟩)
  · cases he; exact wpAny_Constant_int (h _ _ ⟨_, rfl⟩)
  · cases he; exact wpAny_Constant_bool (h _ s.toks rfl)
  · cases he; exact wpAny_Constant_none (h _ s.toks rfl)
  · cases he
theorem eval_tabK {e : Expr} {k : Key} {s : Shared} {Q : Value → Shared → Prop} (he : tabK e = some k) (h : ∀ u tk, RelV (kV k) u → Q u { s with toks := tk }) : wpAny (model prog w) A (eval e env) Q E s := by
  unfold tabK at he
  split at he
  · cases he; exact wpAny_Constant_str (h _ _ ⟨_, rfl⟩)
  · cases he; exact wpAny_Constant_int (h _ _ ⟨_, rfl⟩)
  · cases he
theorem litK_cons {k v : Expr} {ks : List (Option Expr)} {vs : List Expr} {kvs : List (Key × V)} (h : litK (some k :: ks) (v :: vs) = some kvs) : ∃ a b r, tabK k = some a ∧ tabV v = some b ∧ litK ks vs = some r ∧ kvs = (a, b) :: r := by
  unfold litK at h
  obtain ⟨a, e1, h⟩ := Option.bind_eq_some_iff.mp h
  obtain ⟨b, e2, h⟩ := Option.bind_eq_some_iff.mp h
  obtain ⟨r, e3, h⟩ := Option.bind_eq_some_iff.mp h
  cases h
  exact ⟨a, b, r, e1, e2, e3, rfl⟩
theorem litK_all : ∀ {ks : List (Option Expr)} {vs : List Expr} {kvs : List (Key × V)}, litK ks vs = some kvs → ks.all (·.isSome) = true ∧ ks.length = vs.length ∧ kvs.length = ks.length
  | [], [], _, h => by cases h; exact ⟨rfl, rfl, rfl⟩
  | [], _ :: _, _, h => by simp [litK] at h
  | none :: _, _, _, h => by simp [litK] at h
  | some _ :: _, [], _, h => by simp [litK] at h
  | some k :: ks, v :: vs, kvs, h => by
    obtain ⟨a, b, r, _, _, e3, rfl⟩ := litK_cons h
    obtain ⟨h1, h2, h3⟩ := litK_all e3
    exact ⟨by simpa using h1, by simp [h2], by simp [h3]⟩
theorem litK_app : ∀ {ks ls : List (Option Expr)} {vs us : List Expr} {kvs : List (Key × V)}, ks.length = vs.length → litK (ks ++ ls) (vs ++ us) = some kvs → ∃ a b, litK ks vs = some a ∧ litK ls us = some b ∧ kvs = a ++ b
  | [], ls, [], us, kvs, _, h => ⟨[], kvs, rfl, h, rfl⟩
  | [], _, _ :: _, _, _, e, _ => by simp at e
  | _ :: _, _, [], _, _, e, _ => by simp at e
  | none :: _, _, _ :: _, _, _, _, h => by simp [litK] at h
  | some k :: ks, ls, v :: vs, us, kvs, e, h => by
    obtain ⟨a, b, r, e1, e2, e3, rfl⟩ := litK_cons (show litK (some k :: (ks ++ ls)) (v :: (vs ++ us)) = some kvs from h)
    obtain ⟨x, y, h1, h2, rfl⟩ := litK_app (by simpa using e) e3
    refine ⟨(a, b) :: x, y, ?_, h2, rfl⟩
    unfold litK
    rw [e1, e2, h1]
    rfl
/-- the pairs of constants, one stored behind the other -/
theorem storeK (d : Addr) : ∀ (ks : List (Option Expr)) (vs : List Expr) (kvs : List (Key × V)) (acc : List (Key × Value)) (s : Shared) (Q : PUnit → Shared → Prop), litK ks vs = some kvs → s.heap.DictOf (mixKind prog w) d acc → acc.length + kvs.length ≤ sizeLine →
    (∀ h' tk rs, KV kvs rs → h'.DictOf (mixKind prog w) d (merged acc rs) → Heap.SameBut d s.heap h' → Q PUnit.unit { s with heap := h', toks := tk }) →
    wpAny (model prog w) A (forIn (pairTrees ks vs env pos) PUnit.unit fun (x : Tree) (_ : PUnit) => (do
      let kv ← x.1
      let vv ← holding [kv] x.2
      holding [kv, vv] (dictSet d kv vv)
      pure (ForInStep.yield PUnit.unit) : Sem (ForInStep PUnit))) Q E s
  | [], [], _, acc, s, Q, h, hm, _, hQ => by
    cases h
    show wpAny _ _ (forIn [] _ _) _ _ _
    rw [List.forIn_nil]
    exact wpAny_pure (hQ s.heap s.toks [] .nil hm (Heap.SameBut.refl _ _))
  | [], _ :: _, _, _, _, _, h, _, _, _ => by simp [litK] at h
  | none :: _, _, _, _, _, _, h, _, _, _ => by simp [litK] at h
  | some _ :: _, [], _, _, _, _, h, _, _, _ => by simp [litK] at h
  | some k :: ks, v :: vs, kvs, acc, s, Q, h, hm, hz, hQ => by
    obtain ⟨a, b, r, e1, e2, e3, rfl⟩ := litK_cons h
    rw [List.length_cons] at hz
    show wpAny _ _ (forIn ((eval k env, do let x ← eval v env; standAt pos; pure x) :: pairTrees ks vs env pos) _ _) _ _ _
    rw [List.forIn_cons]
    refine wpAny_bind (wpAny_bind (eval_tabK e1 fun u t1 ru => wpAny_bind (wpAny_holding (wpAny_bind (eval_tabV e2 fun z t2 rz => wpAny_bind (wpAny_standAt (wpAny_pure ?_)))))))
    refine wpAny_bind (wpAny_holding (wpAny_dictSet_pairs (knd := mixKind prog w) (kV_is ru) hm (fun h1 hm1 hs1 => wpAny_pure ?_) (by omega)))
    refine storeK d ks vs r (stored acc a z) _ Q e3 hm1 (by have e := stored_length_le acc a z; omega) fun h' tk rs k2 hm' hs' => ?_
    exact hQ h' tk ((a, z) :: rs) (.cons ⟨rfl, rz⟩ k2) hm' (hs1.trans hs')
/-- one piece of constants: a new dict -/
theorem pieceK {ks : List (Option Expr)} {vs : List Expr} {kvs : List (Key × V)} {s : Shared} {Q : Addr → Shared → Prop} (h : litK ks vs = some kvs) (hz : kvs.length ≤ 100)
    (hQ : ∀ h' tk rs, KV kvs rs → h'.DictOf (mixKind prog w) s.heap.objs.size (merged [] rs) → (∀ b o, s.heap.get? b = some o → h'.get? b = some o) → Q s.heap.objs.size { s with heap := h', toks := tk }) :
    wpAny (model prog w) A (subDict (pairTrees ks vs env pos)) Q E s := by
  obtain ⟨a1, a2, a3⟩ := litK_all h
  have a4 := pairTrees_length ks vs env pos a1 a2
  by_cases hl : (pairTrees ks vs env pos).length ≤ 15
  · refine wpAny_subDict (knd := mixKind prog w) hl ?_
    have go : ∀ (ks : List (Option Expr)) (vs : List Expr) (kvs : List (Key × V)) (s1 : Shared) (R : List (Value × Value) → Shared → Prop), litK ks vs = some kvs → (∀ us tk rs, KV kvs rs → Carries (mixKind prog w) us rs → R us { s1 with toks := tk }) → wpAny (model prog w) A (evalPairs (pairTrees ks vs env pos)) R E s1 := by
      intro ks
      induction ks with
      | nil =>
        intro vs kvs s1 R h k
        cases vs with
        | nil => cases h; exact pairTrees_nil_walk (k [] s1.toks [] .nil trivial)
        | cons _ _ => simp [litK] at h
      | cons k ks ih =>
        intro vs kvs s1 R h kk
        cases k with
        | none => simp [litK] at h
        | some k =>
          cases vs with
          | nil => simp [litK] at h
          | cons v vs =>
            obtain ⟨a, b, r, e1, e2, e3, rfl⟩ := litK_cons h
            refine pairTrees_cons_walk (eval_tabK e1 fun u t1 ru => eval_tabV e2 fun z t2 rz => ?_)
            exact ih vs r _ _ e3 fun us tk rs k2 c => kk _ tk ((a, z) :: rs) (.cons ⟨rfl, rz⟩ k2) ⟨kV_is ru, rfl, c⟩
    refine go ks vs kvs _ _ h fun us tk rs k2 c => ⟨rs, c, Heap.DictOf.new _, fun h' hm hs => hQ h' _ rs k2 hm fun b o e => ?_⟩
    exact (hs.2 b (Nat.ne_of_lt (Heap.lt_size e))).trans (Heap.get?_push_of_some _ e)
  · unfold subDict
    refine wpAny_bind (wpAny_alloc (wpAny_bind (wpAny_holding ?_)))
    rw [if_neg hl]
    refine wpAny_bind (wpAny_rule ?_)
    refine wpAny_bind (storeK s.heap.objs.size ks vs kvs [] _ _ h (Heap.DictOf.new _) (by rw [sizeLine_eq, List.length_nil]; omega) fun h' tk rs k2 hm hs => wpAny_pure (wpAny_pure (hQ h' tk rs k2 hm fun b o e => ?_)))
    exact (hs.2 b (Nat.ne_of_lt (Heap.lt_size e))).trans (Heap.get?_push_of_some _ e)
/-! one dict put into another -/
section
variable {κ : Type} [DecidableEq κ] {knd : KeyKind prog w κ} {s : Shared}
theorem put1 {d : Addr} {acc : List (κ × Value)} {k : κ} {key v : Value} {Q : Unit → Shared → Prop} (hkey : knd.is k key = true) (hm : s.heap.DictOf knd d acc) (fr : k ∉ acc.map (·.1)) (hz : acc.length ≤ sizeLine)
    (hQ : ∀ h', h'.DictOf knd d (acc ++ [(k, v)]) → Heap.SameBut d s.heap h' → Q () { s with heap := h' }) : wpAny (model prog w) A (dictPut d (knd.hash k) key v) Q E s := by
  obtain ⟨o, es, ep, g1, g2, g3, g4, g5, g6⟩ := hm
  have el : es.toList.length = acc.length := g5.length
  have ez : es.size ≤ sizeLine := by rw [← Array.length_toList]; omega
  unfold dictPut
  refine wpAny_bind (wpAny_dictFind_of hkey g1 g3 g4 ?_)
  have ix : (es.findIdx? fun e => knd.is k e.key) = none := by
    have e1 := g5.findIdx k
    have e2 : (es.findIdx? fun e => knd.is k e.key) = es.toList.findIdx? fun e => knd.is k e.key := by cases es; simp
    rw [e2, e1, List.findIdx?_eq_none_iff]
    intro kv hkv
    exact decide_eq_false fun z => fr (List.mem_map.mpr ⟨kv, hkv, z⟩)
  rw [ix]
  refine wpAny_updateDictKeys (hz := ez) g1 g3 (hQ _ ?_ (Heap.SameBut.update ..))
  refine ⟨_, _, ep + 1, Heap.get?_update_self _ g1 (Obj.isFreed_of_dict (Obj.data_mapDictKeys g3 _)), g2.mapDictKeys _, Obj.data_mapDictKeys g3 _, g4.push hkey _, ?_, ?_⟩
  · have := g5.append hkey (knd.hash k) v
    cases es
    simpa using this
  · rw [List.map_append]
    refine List.nodup_append.mpr ⟨g6, by simp, fun a ha b hb e => ?_⟩
    rw [List.map_cons, List.map_nil, List.mem_singleton] at hb
    rw [e, hb] at ha
    exact fr ha
theorem putAll {d o : Addr} {acc more : List (κ × Value)} {Q : Unit → Shared → Prop} (hne : acc ≠ []) (hdo : d ≠ o) (hS : (o == sysModules) = false) (hd : s.heap.DictOf knd d acc) (ho : s.heap.DictOf knd o more)
    (fr : ((acc ++ more).map (·.1)).Nodup) (hz : acc.length + more.length ≤ sizeLine) (hQ : ∀ h', h'.DictOf knd d (acc ++ more) → Heap.SameBut d s.heap h' → Q () { s with heap := h' }) :
    wpAny (model prog w) A (mergeMapping d (.ref o) false) Q E s := by
  obtain ⟨od, ed, pd, a1, a2, a3, a4, a5, a6⟩ := id hd
  obtain ⟨oo, eo, po, b1, b2, b3, b4, b5, b6⟩ := id ho
  have el : eo.size = more.length := by rw [← Array.length_toList]; exact b5.length
  have edne : ed.isEmpty = false := by
    have l := a5.length
    rw [Array.length_toList] at l
    have : acc.length ≠ 0 := fun z => hne (List.length_eq_zero_iff.mp z)
    simp only [Array.isEmpty, decide_eq_false_iff_not]
    omega
  unfold mergeMapping
  refine wpAny_bind (wpAny_isInstance ho.typeIs isSubtype_dict_dict ?_)
  dsimp only
  rw [if_pos rfl]
  refine wpAny_bind (wpAny_specialOf ho.typeIs F.slot_dict_iter.lookup (wpAny_bind (wpAny_pure ?_)))
  have e0 : (some (Value.builtin "dict.__iter__") == some (Value.builtin "dict.__iter__")) = true := by decide +kernel
  rw [e0]
  dsimp only
  rw [hS, if_neg Bool.false_ne_true]
  refine wpAny_bind (wpAny_dictEntries a1 a3 ?_)
  rw [edne, if_neg Bool.false_ne_true]
  refine wpAny_bind (wpAny_dictEntries b1 b3 ?_)
  refine wpAny_bind (wpAny_dictEpoch b1 b3 ?_)
  refine wpAny_bind ?_
  refine wpAny_forIn_list _ (fun rest _ s' => ∃ h' i, s' = { s with heap := h' } ∧ rest = List.range' i (eo.size - i) ∧ i ≤ eo.size ∧ h'.DictOf knd d (acc ++ more.take i) ∧ h'.get? o = some oo ∧ Heap.SameBut d s.heap h') _ ?_ ?_ _ _ ⟨s.heap, 0, rfl, ?_, Nat.zero_le _, ?_, b1, Heap.SameBut.refl _ _⟩
  · rintro x rest b s' ⟨h', i, rfl, hr, hi, hd', ho', hs'⟩
    have hlt : i < eo.size := by
      by_cases z : i < eo.size
      · exact z
      · rw [Nat.sub_eq_zero_of_le (by omega)] at hr; simp at hr
    have hr2 : x :: rest = i :: List.range' (i + 1) (eo.size - (i + 1)) := by
      rw [hr, show eo.size - i = (eo.size - (i + 1)) + 1 by omega, List.range'_succ]
    injection hr2 with hx hrest
    subst hx
    refine wpAny_bind (wpAny_dictEntries ho' b3 ?_)
    rw [Array.getElem?_eq_getElem hlt]
    have hlm : x < more.length := by omega
    have hkv : more[x]? = some more[x] := List.getElem?_eq_getElem hlm
    obtain ⟨hkey, hval⟩ := b5.get? (e := eo[x]) (by simp [hlt]) hkv
    obtain ⟨k', hkey', hhash⟩ := b4 eo[x] (Array.getElem_mem hlt)
    obtain rfl : k' = more[x].1 := knd.inj _ _ _ hkey' hkey
    dsimp only
    rw [hhash, hval, if_neg Bool.false_ne_true]
    have et : more.take (x + 1) = more.take x ++ [more[x]] := by rw [List.take_add_one, hkv]; rfl
    have fr2 : more[x].1 ∉ (acc ++ more.take x).map (·.1) := by
      have e1 : acc ++ more = (acc ++ more.take x) ++ more[x] :: more.drop (x + 1) := by
        rw [List.append_assoc, ← List.drop_eq_getElem_cons hlm, List.take_append_drop]
      rw [e1, List.map_append, List.map_cons] at fr
      exact fun z => (List.nodup_append.mp fr).2.2 _ z _ List.mem_cons_self rfl
    refine wpAny_bind (wpAny_holding (put1 hkey hd' fr2 (by rw [List.length_append, List.length_take]; omega) fun h2 hd2 hs2 => ?_))
    have ho2 : h2.get? o = some oo := (hs2.2 o (Ne.symm hdo)).trans ho'
    refine wpAny_bind (wpAny_dictEpoch ho2 b3 ?_)
    rw [if_neg (by simp)]
    refine wpAny_pure ⟨h2, x + 1, rfl, hrest, hlt, ?_, ho2, hs'.trans hs2⟩
    rw [et, ← List.append_assoc]
    exact hd2
  · rintro b s' ⟨h', i, rfl, hr, hi, hd', ho', hs'⟩
    have hin : i = eo.size := by
      by_cases z : i < eo.size
      · rw [show eo.size - i = (eo.size - (i + 1)) + 1 by omega, List.range'_succ] at hr
        cases hr
      · omega
    refine wpAny_pure (hQ h' ?_ hs')
    rw [hin, el, List.take_length] at hd'
    exact hd'
  · rw [List.range_eq_range', Nat.sub_zero]
  · rw [List.take_zero, List.append_nil]
    exact hd
end
end
section
variable {X : Cx} {pos : Pos}
/-- a display of constants, of eighteen to thirty-two keys, no key twice -/
def tLitD (kvs : List (Key × V)) : TE := fun σ H Q => ∀ p, H p = none → Q (.ref p) (upd H p (.dK kvs))
theorem paired_app {α β : Type} {R : α → β → Prop} : ∀ {as cs : List α} {bs ds : List β}, Paired R as bs → Paired R cs ds → Paired R (as ++ cs) (bs ++ ds)
  | _, _, _, _, .nil, h => h
  | _, _, _, _, .cons a t, h => .cons a (paired_app t h)
theorem kv_keys : ∀ {kvs : List (Key × V)} {rs : List (Key × Value)}, KV kvs rs → rs.map (·.1) = kvs.map (·.1)
  | _, _, h => by
    unfold KV at h
    induction h with
    | nil => rfl
    | cons a _ ih => rw [List.map_cons, List.map_cons, ih, a.1]
theorem pe_litD {k1 k2 : List (Option Expr)} {v1 v2 : List Expr} {kvs : List (Key × V)} (h : litK (k1 ++ k2) (v1 ++ v2) = some kvs) (hn : (kvs.map (·.1)).Nodup) (h1 : k1.length = 17) (e1 : v1.length = 17) (h2 : k2.length ≤ 16) (h0 : k2 ≠ []) :
    PE X (.Dict (k1 ++ k2) (v1 ++ v2) pos) (tLitD kvs) := by
  refine ⟨fun pins s σ H Q I q => ?_⟩
  obtain ⟨a, b, l1, l2, rfl⟩ := litK_app (h1.trans e1.symm) h
  obtain ⟨al, hl, _⟩ := litK_all h
  obtain ⟨al1, hl1, z1⟩ := litK_all l1
  obtain ⟨al2, hl2, z2⟩ := litK_all l2
  have split : ∀ (ks : List (Option Expr)) (vs : List Expr) (ls : List (Option Expr)) (us : List Expr) (env : Env), ks.length = vs.length → pairTrees (ks ++ ls) (vs ++ us) env pos = pairTrees ks vs env pos ++ pairTrees ls us env pos ∨ ks.all (·.isSome) = false := by
    intro ks
    induction ks with
    | nil => intro vs ls us env e; cases vs with
      | nil => exact .inl rfl
      | cons _ _ => simp at e
    | cons k ks ih =>
      intro vs ls us env e
      cases vs with
      | nil => simp at e
      | cons v vs =>
        cases k with
        | none => exact .inr rfl
        | some k =>
          rcases ih vs ls us env (by simpa using e) with z | z
          · exact .inl (by show _ :: pairTrees (ks ++ ls) (vs ++ us) env pos = _; rw [z]; rfl)
          · exact .inr (by simpa using z)
  have sp : pairTrees (k1 ++ k2) (v1 ++ v2) X.env pos = pairTrees k1 v1 X.env pos ++ pairTrees k2 v2 X.env pos := by
    rcases split k1 v1 k2 v2 X.env hl1 with z | z
    · exact z
    · rw [al1] at z; cases z
  have p1 := pairTrees_length k1 v1 X.env pos al1 hl1
  have p2 := pairTrees_length k2 v2 X.env pos al2 hl2
  obtain ⟨xs, p, ex⟩ : ∃ xs p, pairTrees k1 v1 X.env pos = xs ++ [p] := by
    refine ⟨(pairTrees k1 v1 X.env pos).dropLast, (pairTrees k1 v1 X.env pos).getLast (fun z => by rw [z] at p1; simp at p1; omega), ?_⟩
    exact (List.dropLast_concat_getLast _).symm
  have n2 : pairTrees k2 v2 X.env pos ≠ [] := fun z => by
    rw [z] at p2
    exact h0 (List.length_eq_zero_iff.mp p2.symm)
  rw [arm_eval_Dict, zip_pairTrees _ _ _ _ al hl, sp, ex, List.append_assoc, List.singleton_append]
  rw [disp_two xs p _ (by rw [ex] at p1; simp at p1; omega) (by omega) n2, ← ex]
  refine wpAny_bind (wpAny_standAt ?_)
  refine wpAny_bind (pieceK l1 (by omega) fun h1' t1 rs r1 d1 k1' => ?_)
  refine wpAny_bind (wpAny_holding (pieceK l2 (by omega) fun h2' t2 us r2 d2 k2' => ?_))
  have nd : (rs.map (·.1) ++ us.map (·.1)).Nodup := by rw [kv_keys r1, kv_keys r2, ← List.map_append]; exact hn
  rw [merged_nil_of_nodup rs (List.nodup_append.mp nd).1] at d1
  rw [merged_nil_of_nodup us (List.nodup_append.mp nd).2.1] at d2
  have lt1 : s.heap.objs.size < h1'.objs.size := by
    obtain ⟨o, _, _, e, _⟩ := id d1
    exact Heap.lt_size e
  have lt2 : h1'.objs.size < h2'.objs.size := by
    obtain ⟨o, _, _, e, _⟩ := id d2
    exact Heap.lt_size e
  have d1' : h2'.DictOf (mixKind X.prog X.w) s.heap.objs.size rs := by
    obtain ⟨o, es, ep, e, r⟩ := id d1
    exact ⟨o, es, ep, k2' _ _ e, r⟩
  have hb : sysModules < s.heap.objs.size := I.big
  have n1 : rs.length = 17 := by rw [← Paired.length r1, z1, h1]
  have n3 : us.length = k2.length := by rw [← Paired.length r2, z2]
  refine wpAny_bind (wpAny_onRaise (wpAny_holding (putAll (fun z => ?_) (Nat.ne_of_lt lt1) ?_ d1' d2 (by rw [List.map_append]; exact nd) ?_ fun h3 d3 s3 => wpAny_pure ?_)))
  · rw [z] at n1
    cases n1
  · exact beq_eq_false_iff_ne.mpr (Ne.symm (Nat.ne_of_lt (Nat.lt_trans hb lt1)))
  · rw [n1, n3, sizeLine_eq]; omega
  · have q1 := q s.heap.objs.size (I.hok.fresh (Nat.le_refl _))
    refine ⟨.ref s.heap.objs.size, _, I.laid (o := .dK (a ++ b)) (t' := t2) (fun c o e => ?_) (Nat.le_refl _) ?_, rfl, q1⟩
    · exact (s3.2 c (Nat.ne_of_lt (Heap.lt_size e))).trans (k2' c o (k1' c o e))
    · exact ⟨by rw [List.length_append, z1, z2, sizeLine_eq]; omega, beq_eq_false_iff_ne.mpr (Ne.symm (Nat.ne_of_lt hb)), rs ++ us, paired_app r1 r2, d3⟩
end
end DL

/-! DL, more: dict displays and d.get, constants of the module, zip, text times int. -/
namespace DL
open PySem PySem.Spec PyProof.Rows L2
open TL (tl len_tl ext_tl tl_append tl_mk mk_tl map_tl_inj tl_ofString)
section
variable {X : Cx} {a b c e : Expr} {es : List Expr} {f g h : Reg → Option D} {ta tb tc t te : TE} {pos : Pos} {tA tB' : TT} {p q : Reg → Option Bool} {rest : List Expr}
/-! ### text times int -/
def repL (l : List Nat) (k : Nat) : List Nat := (List.replicate k l).flatten
theorem tl_fold : ∀ (k : Nat) (x : Array Nat) (acc : Array Nat), ((List.replicate k x).foldl (· ++ ·) acc).toList = acc.toList ++ (List.replicate k x.toList).flatten
  | 0, x, acc => by simp
  | k + 1, x, acc => by
    rw [List.replicate_succ, List.foldl_cons, tl_fold k x (acc ++ x), List.replicate_succ, List.flatten_cons, Array.toList_append, List.append_assoc]
theorem tl_mul (x : Str) (n : Int) : tl (Txt.mul x n) = repL (tl x) n.toNat := by
  unfold Txt.mul repL
  by_cases h1 : n < 1
  · rw [if_pos h1, show n.toNat = 0 by omega]
    rfl
  · rw [if_neg h1]
    by_cases h2 : (n == 1 || x.length == 0) = true
    · rw [if_pos h2]
      rcases (Bool.or_eq_true _ _).mp h2 with e | e
      · have : n = 1 := by simpa using e
        subst this
        simp
      · have e0 : x.length = 0 := by simpa using e
        have e1 : tl x = [] := List.length_eq_zero_iff.mp ((len_tl x).trans e0)
        rw [e1]
        have : ∀ k : Nat, (List.replicate k ([] : List Nat)).flatten = [] := fun k => by induction k with
          | zero => rfl
          | succ k ih => rw [List.replicate_succ, List.flatten_cons, ih]; rfl
        rw [this]
    · rw [if_neg h2]
      exact tl_fold n.toNat x.cps #[]
def dMulS : D → D → Option D
  | .str l, .int n => if n ≤ 1000 ∧ -1000 ≤ n ∧ l.length ≤ 1000 then some (.str (repL l n.toNat)) else none
  | _, _ => none
theorem op_mulS : OpR X (binaryOp .Mult) (fun x y H Q => ∃ z n, x = .str z ∧ y = .int n ∧ (n ≤ 1000 ∧ -1000 ≤ n ∧ z.length ≤ 1000) ∧ Q (.str (Txt.mul z n)) H) := by
  intro pins s σ H x y v u Q I rx ry h
  obtain ⟨z, n, rfl, rfl, ⟨h1, h2, h3⟩, q⟩ := h
  obtain ⟨t, rfl⟩ := rx
  obtain ⟨t', rfl⟩ := ry
  refine SB.mul ⟨?_, fun h4 _ => ?_, fun h4 _ => ?_⟩ fun t2 k => ⟨.str _, H, I.tok _, ⟨_, rfl⟩, q⟩
  · simp; omega
  · have : 1000 ≤ (2 ^ 63 - 1) / n := Int.le_ediv_of_mul_le (by omega) (by omega)
    omega
  · unfold Builtin.Str.tooLong
    have : z.length * n.toNat ≤ 1000 * 1000 := Nat.mul_le_mul h3 (by omega)
    have := sizeLine_eq
    exact decide_eq_false (by omega)
theorem rd_mulS {Y : Kn} : RdE Y (fun x y H Q => ∃ z n, x = .str z ∧ y = .int n ∧ (n ≤ 1000 ∧ -1000 ≤ n ∧ z.length ≤ 1000) ∧ Q (.str (Txt.mul z n)) H) dMulS := by
  intro H F x y da db d Q s rx ry e k
  unfold dMulS at e
  split at e
  · split at e
    · rename_i hh
      cases e
      obtain ⟨z, rfl, ez⟩ := rx.str
      subst ez
      refine ⟨z, _, rfl, ry.int, ⟨hh.1, hh.2.1, by have := len_tl z; omega⟩, k _ H F (.refl s) ?_⟩
      rw [← tl_mul]
      exact .str _
    · cases e
  · cases e
def de_mulS (ha : DB X a ta f) (hb : DB X b tb g) := (de_op op_mulS rd_mulS ha hb : DE X (.BinOp a .Mult b pos) (tOp _ ta tb) (bin2 f g dMulS))
/-! ### zip of two lists -/
def zipD : List D → List D → List D
  | x :: xs, y :: ys => .tup [x, y] :: zipD xs ys
  | _, _ => []
theorem zipD_len : ∀ (xs ys : List D), (zipD xs ys).length = min xs.length ys.length
  | [], _ => by simp [zipD]
  | _ :: _, [] => by simp [zipD]
  | x :: xs, y :: ys => by simp [zipD, zipD_len xs ys]
theorem zipD_at : ∀ {xs ys : List D} {i : Nat} {d : D}, (zipD xs ys)[i]? = some d → ∃ x y, xs[i]? = some x ∧ ys[i]? = some y ∧ d = .tup [x, y]
  | [], _, _, _, e => by simp [zipD] at e
  | _ :: _, [], _, _, e => by simp [zipD] at e
  | x :: xs, y :: ys, 0, d, e => by simp [zipD] at e; exact ⟨x, y, rfl, rfl, e.symm⟩
  | x :: xs, y :: ys, i + 1, d, e => by
    obtain ⟨u, v, h1, h2, h3⟩ := zipD_at (xs := xs) (ys := ys) (i := i) (by simpa [zipD] using e)
    exact ⟨u, v, by simpa using h1, by simpa using h2, h3⟩
def zipV (fs : Reg → Option (List D)) : Reg → Option (List D) := fun ρ => (fs ρ).bind fun
  | [.lst xs, .lst ys] => some (zipD xs ys)
  | _ => none
theorem wlk_zip {Y : Kn} {a b : Addr} {F1 : Hp} {xs ys : List V} {ds es : List D} (h1 : SqL Y.K F1 a xs) (h2 : SqL Y.K F1 b ys) (r1 : Reps Y F1 xs ds) (r2 : Reps Y F1 ys es) : Wlk Y (Itz Y.K a b) F1 (zipD ds es) := by
  have l1 := r1.length
  have l2 := r2.length
  refine ⟨fun i H F hi s1 s2 => ?_, fun H F s1 s2 => ?_, fun i H F x H' d e s1 s2 y => ?_⟩
  · rw [zipD_len] at hi
    have i1 : i < xs.length := by omega
    have i2 : i < ys.length := by omega
    exact ⟨xs, ys, xs[i], ys[i], sqL_sub (s1.trans s2) h1, sqL_sub (s1.trans s2) h2, by simp [i1], by simp [i2]⟩
  · refine ⟨xs, ys, sqL_sub (s1.trans s2) h1, sqL_sub (s1.trans s2) h2, ?_⟩
    rw [zipD_len]
    omega
  · obtain ⟨T, u, v, rfl, hT, rfl, k1, k2⟩ := y
    obtain ⟨x, y, e1, e2, rfl⟩ := zipD_at e
    obtain ⟨u', eu, ru⟩ := r1.get e1
    obtain ⟨v', ev, rv⟩ := r2.get e2
    have z1 := k1 xs (sqL_sub (s1.trans s2) h1)
    have z2 := k2 ys (sqL_sub (s1.trans s2) h2)
    rw [eu] at z1
    rw [ev] at z2
    cases z1
    cases z2
    have x2 := ext_newF (o := .tup [u, v]) s2 hT
    exact ⟨_, x2, .tup (.inl (.inl upd_same)) (.cons ((ru.mono s1).mono x2.f) (.cons ((rv.mono s1).mono x2.f) .nil))⟩
theorem di_zip {elts : List Expr} {kk : Nat} {tpos : Pos} {fs : Reg → Option (List D)} {ts : TA} {p : Pos} (hm : X.mg "zip" = none) (ha : DA X [a, b] ts fs) (hg : Gl X "zip" := by rfl)
    (hs : starEach [a, b] X.env = (false, eval a X.env) :: starEach [b] X.env := by rfl) (hpl : (backTo pos (starEach [b] X.env)).any (·.1) = false := by rfl) : DI X (.Tuple elts kk tpos) (.Call (.Name "zip" p) [a, b] [] pos) (iZip X.K ts) (zipV fs) := by
  refine ⟨pi_zip hg hm ha.p hs hpl, fun σ H F ρ ds R r q k => ?_⟩
  obtain ⟨es, e1, e2⟩ := Option.bind_eq_some_iff.mp q
  refine ha.q σ H F ρ es _ r e1 fun vs H' F' x rv => ?_
  split at e2
  · cases e2
    cases rv with
    | cons a b =>
      cases b with
      | cons c d =>
        cases d
        cases a with
        | lst h1 r1 =>
          cases c with
          | lst h2 r2 => exact ⟨_, _, _, _, rfl, sqL_sub x.s h1, sqL_sub x.s h2, k _ H' F' x (wlk_zip h1 h2 r1 r2)⟩
  · cases e2
/-! ### d.get(k) -/
def dGet1 : D → D → Option D
  | .dic kvs, y => (dkD y).map fun k => (lookD k kvs).getD .non
  | _, _ => none
theorem de_get1 {k : Nat} {apos : Pos} (hr : Room k X.A) (ha : DB X a ta f) (hb : DB X b tb g) (hbase : attributeBase a "get" X.env (eval a X.env) = eval a X.env := by rfl)
    (hfew : ((backTo pos (starEach [b] X.env)).all (fun x => !x.1) && (backToKw pos (keywordEach [] X.env)).all (fun x => x.1.isSome) && decide (([b] : List Expr).length + ([] : List Keyword).length + (if ([] : List Keyword).isEmpty then 0 else 1) < 30)) = true := by rfl)
    (hline : (apos.endLine == pos.line) = true := by rfl) (htr : backTo pos (starEach [b] X.env) = [(false, eval b X.env)] := by rfl) :
    DE X (.Call (.Attribute a "get" apos) [b] [] pos) (tDGet1 ta tb) (bin2 f g dGet1) := by
  refine ⟨pe_dget1 (hu_of hr) ha.p hb.p ⟨hbase, hfew, hline, htr⟩, fun σ H F ρ d Q r0 e kk => ?_⟩
  obtain ⟨x, y, e1, e2, e3⟩ := bin2_some e
  unfold dGet1 at e3
  split at e3
  · obtain ⟨k0, e4, e5⟩ := Option.map_eq_some_iff.mp e3
    refine ha.q σ H F ρ _ _ r0 e1 fun v H1 F1 x1 r1 => ?_
    obtain ⟨p, kvs, rfl, h1, rk⟩ := r1.dic x1.s
    refine ⟨p, rfl, .inl ⟨kvs, .inl h1⟩, hb.q σ H1 F1 ρ y _ (r0.ext x1) e2 fun w H2 F2 x2 r2 => ?_⟩
    have ew := dkD_rep r2 e4
    subst ew
    have h2 := x2.h _ _ h1
    refine ⟨_, DGet.k (k := keyOf k0) h2, ?_⟩
    rcases val_repK (k := k0) rk with ⟨h3, h4⟩ | ⟨d', v', h3, h4, h5⟩
    · rw [h4]
      rw [h3] at e5
      cases e5
      exact kk _ H2 F2 (x1.trans x2) .non
    · rw [h4]
      rw [h3] at e5
      cases e5
      exact kk _ H2 F2 (x1.trans x2) (h5.mono x2.f)
  · cases e3
/-! ### displays of constants -/
/-- the display's keys and values are these data -/
inductive LitR : List (Option Expr) → List Expr → List (DK × D) → Prop where
  | nil : LitR [] [] []
  | ss {s u : String} {j k : Nat} {p p' : Pos} {ks : List (Option Expr)} {vs : List Expr} {ds : List (DK × D)} (r : LitR ks vs ds) : LitR (some (.Constant (.str (Str.ofString s)) j p) :: ks) (.Constant (.str (Str.ofString u)) k p' :: vs) ((.inr (lit s), .str (lit u)) :: ds)
  | si {s : String} {u : Int} {j k : Nat} {p p' : Pos} {ks : List (Option Expr)} {vs : List Expr} {ds : List (DK × D)} (r : LitR ks vs ds) : LitR (some (.Constant (.str (Str.ofString s)) j p) :: ks) (.Constant (.int u) k p' :: vs) ((.inr (lit s), .int u) :: ds)
  | is {s : Int} {u : String} {j k : Nat} {p p' : Pos} {ks : List (Option Expr)} {vs : List Expr} {ds : List (DK × D)} (r : LitR ks vs ds) : LitR (some (.Constant (.int s) j p) :: ks) (.Constant (.str (Str.ofString u)) k p' :: vs) ((.inl s, .str (lit u)) :: ds)
  | ii {s u : Int} {j k : Nat} {p p' : Pos} {ks : List (Option Expr)} {vs : List Expr} {ds : List (DK × D)} (r : LitR ks vs ds) : LitR (some (.Constant (.int s) j p) :: ks) (.Constant (.int u) k p' :: vs) ((.inl s, .int u) :: ds)
theorem keyOf_lit (s : String) : keyOf (.inr (lit s)) = .inr (Str.ofString s) := by
  show (Sum.inr (⟨(lit s).toArray⟩ : Str) : Key) = .inr (Str.ofString s)
  have e : lit s = tl (Str.ofString s) := (tl_ofString s).symm
  rw [e, mk_tl]
theorem LitR.ok {ks : List (Option Expr)} {vs : List Expr} {ds : List (DK × D)} (h : LitR ks vs ds) : ∃ kvs, litK ks vs = some kvs ∧ (∀ (Y : Kn) (F : Hp), RepK Y F kvs ds) ∧ kvs.map (·.1) = ds.map fun d => keyOf d.1 := by
  induction h with
  | nil => exact ⟨[], rfl, fun _ _ => .nil, rfl⟩
  | @ss s u j k p p' ks vs ds r ih =>
    obtain ⟨kvs, e, q, w⟩ := ih
    refine ⟨(.inr (Str.ofString s), .str (Str.ofString u)) :: kvs, by unfold litK; rw [e]; rfl, fun Y F => ?_, by rw [List.map_cons, List.map_cons, w, keyOf_lit]⟩
    have := RepK.cons (Y := Y) (F := F) (k := .inr (lit s)) (rep_lit u) (q Y F)
    rw [keyOf_lit] at this
    exact this
  | @si s u j k p p' ks vs ds r ih =>
    obtain ⟨kvs, e, q, w⟩ := ih
    refine ⟨(.inr (Str.ofString s), .int u) :: kvs, by unfold litK; rw [e]; rfl, fun Y F => ?_, by rw [List.map_cons, List.map_cons, w, keyOf_lit]⟩
    have := RepK.cons (Y := Y) (F := F) (k := .inr (lit s)) (.int u) (q Y F)
    rw [keyOf_lit] at this
    exact this
  | @is s u j k p p' ks vs ds r ih =>
    obtain ⟨kvs, e, q, w⟩ := ih
    refine ⟨(.inl s, .str (Str.ofString u)) :: kvs, by unfold litK; rw [e]; rfl, fun Y F => ?_, by rw [List.map_cons, List.map_cons, w]; rfl⟩
    exact RepK.cons (Y := Y) (F := F) (k := .inl s) (rep_lit u) (q Y F)
  | @ii s u j k p p' ks vs ds r ih =>
    obtain ⟨kvs, e, q, w⟩ := ih
    refine ⟨(.inl s, .int u) :: kvs, by unfold litK; rw [e]; rfl, fun Y F => ?_, by rw [List.map_cons, List.map_cons, w]; rfl⟩
    exact RepK.cons (Y := Y) (F := F) (k := .inl s) (.int u) (q Y F)
theorem nodup_keyOf {ds : List (DK × D)} (h : (ds.map (·.1)).Nodup) : (ds.map fun d => keyOf d.1).Nodup := by
  have e : (ds.map fun d => keyOf d.1) = (ds.map (·.1)).map keyOf := by rw [List.map_map]; rfl
  rw [e]
  exact List.Pairwise.map keyOf (fun a b n z => n (keyOf_inj.mp z)) h
/-- a display of one to sixteen keys -/
theorem pe_litS {keys : List (Option Expr)} {values : List Expr} {kvs : List (Key × V)} (h : litK keys values = some kvs) (hn : (kvs.map (·.1)).Nodup) (h1 : keys.length ≤ 16) (h0 : keys ≠ []) : PE X (.Dict keys values pos) (tLitD kvs) := by
  refine ⟨fun pins s σ H Q I q => ?_⟩
  obtain ⟨al, hl, hz⟩ := litK_all h
  have p1 := pairTrees_length keys values X.env pos al hl
  have n0 : pairTrees keys values X.env pos ≠ [] := fun z => by
    rw [z] at p1
    exact h0 (List.length_eq_zero_iff.mp p1.symm)
  rw [arm_eval_Dict, zip_pairTrees _ _ _ _ al hl, dictDisplay_pairs _ n0 (by omega)]
  refine wpAny_bind (wpAny_standAt ?_)
  refine wpAny_bind (pieceK h (by omega) fun h1' t1 rs r1 d1 k1 => wpAny_pure ?_)
  rw [merged_nil_of_nodup rs (by rw [kv_keys r1]; exact hn)] at d1
  have hb : sysModules < s.heap.objs.size := I.big
  refine ⟨.ref s.heap.objs.size, _, I.laid (o := .dK kvs) (t' := t1) k1 (Nat.le_refl _) ?_, rfl, q _ (I.hok.fresh (Nat.le_refl _))⟩
  exact ⟨by rw [hz, sizeLine_eq]; omega, beq_eq_false_iff_ne.mpr (Ne.symm (Nat.ne_of_lt hb)), rs, r1, d1⟩
def tLitDs (keys : List (Option Expr)) (values : List Expr) : TE := fun σ H Q => ∃ kvs, litK keys values = some kvs ∧ tLitD kvs σ H Q
theorem dn_dict {keys : List (Option Expr)} {values : List Expr} {ds : List (DK × D)} (h : LitR keys values ds) (hn : (ds.map (·.1)).Nodup) (hz : (0 < keys.length ∧ keys.length ≤ 16) ∨ (17 < keys.length ∧ keys.length ≤ 33)) : DN X (.Dict keys values pos) (tLitDs keys values) (fun _ => some (.dic ds)) := by
  obtain ⟨kvs, e, r, w⟩ := h.ok
  have hn' : (kvs.map (·.1)).Nodup := by rw [w]; exact nodup_keyOf hn
  refine ⟨⟨fun pins s σ H Q I ⟨kvs', e', q⟩ => ?_⟩, fun σ H F ρ d Q r0 e1 k => ?_⟩
  · rw [e] at e'
    cases e'
    rcases hz with ⟨z0, z1⟩ | ⟨z0, z1⟩
    · exact (pe_litS e hn' z1 (fun z => by rw [z] at z0; exact absurd z0 (Nat.lt_irrefl _))).run pins s σ H Q I q
    · obtain ⟨al, hl, _⟩ := litK_all e
      have ek : keys.take 17 ++ keys.drop 17 = keys := List.take_append_drop _ _
      have ev : values.take 17 ++ values.drop 17 = values := List.take_append_drop _ _
      have := pe_litD (X := X) (pos := pos) (k1 := keys.take 17) (k2 := keys.drop 17) (v1 := values.take 17) (v2 := values.drop 17) (kvs := kvs) (by rw [ek, ev]; exact e) hn' (by rw [List.length_take]; omega) (by rw [List.length_take]; omega)
        (by rw [List.length_drop]; omega) (fun z => by have := congrArg List.length z; rw [List.length_drop] at this; simp at this; omega)
      rw [ek, ev] at this
      exact this.run pins s σ H Q I q
  · cases e1
    refine ⟨kvs, e, fun p hp => ?_⟩
    exact k p _ F (ext_new r0.sub hp) hp (none_of_sub r0.sub hp) ⟨kvs, upd_same, r _ _⟩
/-- the empty display -/
theorem dn_dict0 : DN X (.Dict [] [] pos) tDNewK (fun _ => some (.dic [])) := by
  refine ⟨pe_dnewK, fun σ H F ρ d Q r0 e1 k => ?_⟩
  cases e1
  intro p hp
  exact k p _ F (ext_new r0.sub hp) hp (none_of_sub r0.sub hp) ⟨[], upd_same, .nil⟩
/-! ### constants of the module -/
/-- a name of the module that stands for a constant -/
def Cst (mg : Str → Option Value) (x : Str) (v : V) : Prop := ∃ u, mg x = some u ∧ RelV v u
theorem de_cint {x : Str} {p : Pos} {i : Int} (h : Cst X.mg x (.int i)) (hg : Gl X x := by rfl) (hd : (x == ("__debug__" : Str)) = false := by decide) : DE X (.Name x p) (tC (.int i)) (fun _ => some (.int i)) :=
  ⟨let ⟨_, h1, h2⟩ := h; pe_glob hg h1 h2 hd, fun σ H F ρ d Q r e k => by cases e; exact k _ H F (.refl r.sub) (.int i)⟩
theorem de_cstr {x : Str} {p : Pos} {s : String} (h : Cst X.mg x (.str (Str.ofString s))) (hg : Gl X x := by rfl) (hd : (x == ("__debug__" : Str)) = false := by decide) : DE X (.Name x p) (tC (.str (Str.ofString s))) (fun _ => some (.str (lit s))) :=
  ⟨let ⟨_, h1, h2⟩ := h; pe_glob hg h1 h2 hd, fun σ H F ρ d Q r e k => by cases e; exact k _ H F (.refl r.sub) (rep_lit s)⟩
/-! ### dicts of the module -/
mutual
def wvOk (K : PySem.W.Frag) : Value → D → Bool
  | .str z _, .str l => tl z == l
  | .int i _, .int j => i == j
  | .ref b, .tup ds => match K.lookup b with
    | some ⟨.type "tuple", _, .seq its _, _⟩ => decide (its.size ≤ 100) && wvsOk K its.toList ds
    | _ => false
  | _, _ => false
def wvsOk (K : PySem.W.Frag) : List Value → List D → Bool
  | [], [] => true
  | u :: us, d :: ds => wvOk K u d && wvsOk K us ds
  | _, _ => false
end
mutual
theorem wv_rep {K : PySem.W.Frag} : ∀ {u : Value} {d : D}, wvOk K u d = true → ∃ v, RelV v u ∧ ∀ (mg : Str → Option Value) (F : Hp), Rep ⟨K, mg⟩ F v d := by
  intro u d h
  unfold wvOk at h
  split at h
  · rename_i z t l
    have e : tl z = l := by simpa using h
    subst e
    exact ⟨.str z, ⟨t, rfl⟩, fun _ _ => .str z⟩
  · rename_i i t j
    have e : i = j := by simpa using h
    subst e
    exact ⟨.int i, ⟨t, rfl⟩, fun _ _ => .int i⟩
  · rename_i b ds
    split at h
    · rename_i dd its n sl hk
      obtain ⟨h1, h2⟩ := Bool.and_eq_true_iff.mp h
      obtain ⟨vs, rv, rr⟩ := wvs_reps h2
      have h3 := of_decide_eq_true h1
      exact ⟨.ref b, rfl, fun mg F => .tup (.inr ⟨_, its, n, hk, rfl, rfl, by rw [sizeLine_eq]; omega, rv⟩) (rr mg F)⟩
    · cases h
  · cases h
theorem wvs_reps {K : PySem.W.Frag} : ∀ {us : List Value} {ds : List D}, wvsOk K us ds = true → ∃ vs, Vals vs us ∧ ∀ (mg : Str → Option Value) (F : Hp), Reps ⟨K, mg⟩ F vs ds := by
  intro us ds h
  cases us with
  | nil => cases ds with
    | nil => exact ⟨[], .nil, fun _ _ => .nil⟩
    | cons _ _ => simp [wvsOk] at h
  | cons u us => cases ds with
    | nil => simp [wvsOk] at h
    | cons d ds =>
      obtain ⟨h1, h2⟩ := Bool.and_eq_true_iff.mp (show (wvOk K u d && wvsOk K us ds) = true by simpa [wvsOk] using h)
      obtain ⟨v, r1, q1⟩ := wv_rep h1
      obtain ⟨vs, r2, q2⟩ := wvs_reps h2
      exact ⟨v :: vs, .cons r1 r2, fun mg F => .cons (q1 mg F) (q2 mg F)⟩
end
def tabOk (K : PySem.W.Frag) : List DictEntry → List (List Nat × D) → Bool
  | [], [] => true
  | e :: es, (l, d) :: tab => (match e.key with
    | .str z _ => tl z == l
    | _ => false) && wvOk K e.val d && tabOk K es tab
  | _, _ => false
def lookL (l : List Nat) : List (List Nat × D) → Option D
  | [] => none
  | (m, d) :: tab => if m = l then some d else lookL l tab
theorem tab_find {K : PySem.W.Frag} (z : Str) : ∀ {es : List DictEntry} {tab : List (List Nat × D)}, tabOk K es tab = true →
    (lookL (tl z) tab = none ∧ es.find? (fun e => e.key.isStr z) = none ∧ es.any (fun e => e.refKey) = false) ∨ ∃ d e, lookL (tl z) tab = some d ∧ es.find? (fun e => e.key.isStr z) = some e ∧ wvOk K e.val d = true
  | [], [], _ => .inl ⟨rfl, rfl, rfl⟩
  | [], _ :: _, h => by simp [tabOk] at h
  | _ :: _, [], h => by simp [tabOk] at h
  | e :: es, (l, d) :: tab, h => by
    obtain ⟨h12, h3⟩ := Bool.and_eq_true_iff.mp (show ((_ && wvOk K e.val d) && tabOk K es tab) = true by simpa [tabOk] using h)
    obtain ⟨h1, h2⟩ := Bool.and_eq_true_iff.mp h12
    split at h1
    · rename_i y t hk
      have ey : tl y = l := by simpa using h1
      subst ey
      have eb : e.key.isStr z = decide (tl y = tl z) := by
        rw [hk]
        exact tl_beq
      by_cases ez : tl y = tl z
      · refine .inr ⟨d, e, by unfold lookL; rw [if_pos ez], ?_, h2⟩
        rw [List.find?_cons, eb, decide_eq_true ez]
      · have ek : e.refKey = false := by unfold DictEntry.refKey; rw [hk]
        have el : lookL (tl z) ((tl y, d) :: tab) = lookL (tl z) tab := by
          rw [lookL, if_neg ez]
        rw [List.find?_cons, eb, decide_eq_false ez, el, List.any_cons, ek]
        exact tab_find z h3
    · cases h1
/-- a name of the module that stands for a dict of these data, with texts for keys -/
def WTab (K : PySem.W.Frag) (mg : Str → Option Value) (w : World) (x : Str) (tab : List (List Nat × D)) : Prop := ∃ a es n, mg x = some (.ref a) ∧ K.lookup a = some ⟨.type "dict", none, .dict es n, #[]⟩ ∧ PySem.W.KeysLit w.params es.toList ∧ tabOk K es.toList tab = true ∧ (a == sysModules) = false
theorem ns_tab {K : PySem.W.Frag} {a : Addr} {es : Array DictEntry} {n : Nat} {tab : List (List Nat × D)} (hl : K.lookup a = some ⟨.type "dict", none, .dict es n, #[]⟩) (ht : tabOk K es.toList tab = true) (z : Str) :
    (lookL (tl z) tab = none ∧ PySem.W.nsIn K a z = some none) ∨ ∃ d u v, lookL (tl z) tab = some d ∧ PySem.W.nsIn K a z = some (some u) ∧ RelV v u ∧ ∀ (mg : Str → Option Value) (F : Hp), Rep ⟨K, mg⟩ F v d := by
  unfold PySem.W.nsIn
  rw [hl]
  dsimp only
  rcases tab_find z ht with ⟨h1, h2, h3⟩ | ⟨d, e, h1, h2, h3⟩
  · refine .inl ⟨h1, ?_⟩
    rw [h2]
    dsimp only
    rw [if_neg (by rw [h3]; exact Bool.false_ne_true)]
  · obtain ⟨v, r, q⟩ := wv_rep h3
    exact .inr ⟨d, e.val, v, h1, by rw [h2], r, q⟩
def rInW (K : PySem.W.Frag) (w : World) (u : Bool → Bool) : R2 := fun x y H Q => ∃ z a es n r, x = .str z ∧ y = .ref a ∧ K.lookup a = some ⟨.type "dict", none, .dict es n, #[]⟩ ∧ PySem.W.KeysLit w.params es.toList ∧ (a == sysModules) = false ∧ PySem.W.nsIn K a z = some r ∧ Q (.bl (u r.isSome)) H
theorem op_inW : OpR X (compareOp .In) (rInW X.K X.w id) := by
  intro pins s σ H x y v u Q I rx ry h
  obtain ⟨z, a, es, n, r, rfl, rfl, hl, hk, lo, e, q⟩ := h
  obtain ⟨t, rfl⟩ := rx
  cases ry
  refine wpAny_in_of (strKind_is X.prog X.w z t) lo (PySem.W.mapOf_K I.kIn hl hk) ?_
  rw [PySem.W.find_K hl e]
  exact ⟨.bl _, H, I.tok _, rfl, q⟩
theorem op_notInW : OpR X (compareOp .NotIn) (rInW X.K X.w not) := by
  intro pins s σ H x y v u Q I rx ry h
  obtain ⟨z, a, es, n, r, rfl, rfl, hl, hk, lo, e, q⟩ := h
  obtain ⟨t, rfl⟩ := rx
  cases ry
  refine wpAny_notIn_of (strKind_is X.prog X.w z t) lo (PySem.W.mapOf_K I.kIn hl hk) ?_
  rw [PySem.W.find_K hl e]
  exact ⟨.bl _, H, I.tok _, rfl, q⟩
def wIn (tab : List (List Nat × D)) : D → Option Bool
  | .str l => some (lookL l tab).isSome
  | _ => none
def wNotIn (tab : List (List Nat × D)) (d : D) : Option Bool := (wIn tab d).map not
def wGet (tab : List (List Nat × D)) : D → Option D
  | .str l => lookL l tab
  | _ => none
def tstV (f : Reg → Option D) (k : D → Option Bool) : Reg → Option Bool := fun ρ => (f ρ).bind k
theorem w_core {x : Str} {tab : List (List Nat × D)} {H F : Hp} {v : V} {d : D} {c : Bool} {Q : VK} (u : Bool → Bool) (w : WTab X.K X.mg X.w x tab) (r : RepT (kn X) H F v d) (e : wIn tab d = some c) (k : Q (.bl (u c)) H) : ∃ a, X.mg x = some (.ref a) ∧ rInW X.K X.w u v (.ref a) H Q := by
  obtain ⟨a, es, n, hm, hl, hk, ht, lo⟩ := w
  unfold wIn at e
  split at e
  · cases e
    obtain ⟨z, rfl, ez⟩ := r.str
    subst ez
    refine ⟨a, hm, z, a, es, n, ?_⟩
    rcases ns_tab hl ht z with ⟨h1, h2⟩ | ⟨d, y, v, h1, h2, _⟩
    · refine ⟨none, rfl, rfl, hl, hk, lo, h2, ?_⟩
      rw [h1] at k
      exact k
    · refine ⟨some y, rfl, rfl, hl, hk, lo, h2, ?_⟩
      rw [h1] at k
      exact k
  · cases e
theorem dt_inW {x : Str} {p : Pos} {tab : List (List Nat × D)} (w : WTab X.K X.mg X.w x tab) (ha : DB X a ta f) (hg : Gl X x := by rfl) (hd : (x == ("__debug__" : Str)) = false := by decide) :
    DT X (.Compare a [.In] [.Name x p] pos) (fun σ H Q => ∃ z, X.mg x = some (.ref z) ∧ tTest (tOp (rInW X.K X.w id) ta (tC (.ref z))) σ H Q) (tstV f (wIn tab)) := by
  refine ⟨⟨fun pins s σ H Q I ⟨z, hm, q⟩ => (pt_cmpR op_inW ha.p (pe_glob hg hm (show RelV (.ref z) (.ref z) from rfl) hd) rfl).run pins s σ H Q I q⟩, fun σ H F ρ c Q r0 e k => ?_⟩
  obtain ⟨d1, e1, e2⟩ := Option.bind_eq_some_iff.mp e
  obtain ⟨z, _, _, hm, _⟩ := id w
  refine ⟨z, hm, ha.q σ H F ρ d1 _ r0 e1 fun v H' F' x' rv => ?_⟩
  obtain ⟨z', hm', q⟩ := w_core (Q := fun y H1 => ∃ b, y = .bl b ∧ Q b H1) id w rv e2 ⟨c, rfl, k H' F' x'⟩
  rw [hm] at hm'
  cases hm'
  exact q
theorem dt_notInW {x : Str} {p : Pos} {tab : List (List Nat × D)} (w : WTab X.K X.mg X.w x tab) (ha : DB X a ta f) (hg : Gl X x := by rfl) (hd : (x == ("__debug__" : Str)) = false := by decide) :
    DT X (.Compare a [.NotIn] [.Name x p] pos) (fun σ H Q => ∃ z, X.mg x = some (.ref z) ∧ tTest (tOp (rInW X.K X.w not) ta (tC (.ref z))) σ H Q) (tstV f (wNotIn tab)) := by
  refine ⟨⟨fun pins s σ H Q I ⟨z, hm, q⟩ => (pt_cmpR op_notInW ha.p (pe_glob hg hm (show RelV (.ref z) (.ref z) from rfl) hd) rfl).run pins s σ H Q I q⟩, fun σ H F ρ c Q r0 e k => ?_⟩
  obtain ⟨d1, e1, e2⟩ := Option.bind_eq_some_iff.mp e
  obtain ⟨c', e3, e4⟩ := Option.map_eq_some_iff.mp e2
  obtain ⟨z, _, _, hm, _⟩ := id w
  refine ⟨z, hm, ha.q σ H F ρ d1 _ r0 e1 fun v H' F' x' rv => ?_⟩
  obtain ⟨z', hm', q⟩ := w_core (Q := fun y H1 => ∃ b, y = .bl b ∧ Q b H1) not w rv e3 ⟨c, by rw [e4], k H' F' x'⟩
  rw [hm] at hm'
  cases hm'
  exact q
theorem de_wget {x : Str} {p : Pos} {tab : List (List Nat × D)} (w : WTab X.K X.mg X.w x tab) (hb : DB X b tb g) (hs : PlainIx b := by exact fun _ _ => rfl) (hg : Gl X x := by rfl) (hd : (x == ("__debug__" : Str)) = false := by decide) :
    DE X (.Subscript (.Name x p) b pos) (fun σ H Q => ∃ z, X.mg x = some (.ref z) ∧ tOp (rIxD X.K X.w) (tC (.ref z)) tb σ H Q) (un1 g (wGet tab)) := by
  refine ⟨⟨fun pins s σ H Q I ⟨z, hm, q⟩ => (pe_ix ix_kdict (pe_glob hg hm (show RelV (.ref z) (.ref z) from rfl) hd) hb.p hs).run pins s σ H Q I q⟩, fun σ H F ρ d Q r0 e k => ?_⟩
  obtain ⟨d1, e1, e2⟩ := Option.bind_eq_some_iff.mp e
  obtain ⟨z, es, n, hm, hl, hk, ht, lo⟩ := id w
  refine ⟨z, hm, hb.q σ H F ρ d1 _ r0 e1 fun v H' F' x' rv => ?_⟩
  unfold wGet at e2
  split at e2
  · obtain ⟨y, rfl, ey⟩ := rv.str
    subst ey
    rcases ns_tab hl ht y with ⟨h1, h2⟩ | ⟨d', u, v, h1, h2, h3, h4⟩
    · rw [h1] at e2; cases e2
    · rw [h1] at e2
      cases e2
      exact ⟨z, y, v, rfl, rfl, ⟨es, n, u, hl, hk, h2, h3⟩, k v H' F' x' (h4 _ _)⟩
  · cases e2
end
end DL

/-! DL, more: any and all of a list of bools, enumerate, chains of three, is of bools, attributes. -/
namespace DL
open PySem PySem.Spec PyProof.Rows L2
open TL (tl len_tl ext_tl tl_append tl_mk mk_tl map_tl_inj tl_ofString)
section
variable {X : Cx} {a b c d e : Expr} {es : List Expr} {f g h h' : Reg → Option D} {ta tb tc td t te : TE} {pos : Pos} {tA tB' : TT} {p q : Reg → Option Bool} {rest : List Expr}
/-! ### any, all -/
def blD : D → Option Bool
  | .bl b => some b
  | _ => none
def blsD : List D → Option (List Bool)
  | [] => some []
  | x :: xs => (blD x).bind fun b => (blsD xs).bind fun bs => some (b :: bs)
theorem bls_reps {Y : Kn} {F : Hp} : ∀ {vs : List V} {ds : List D} {bs : List Bool}, Reps Y F vs ds → blsD ds = some bs → vs = bs.map V.bl
  | _, _, _, .nil, e => by cases e; rfl
  | _, _, _, .cons h t, e => by
    unfold blsD at e
    obtain ⟨b, e1, e⟩ := Option.bind_eq_some_iff.mp e
    obtain ⟨bs, e2, e⟩ := Option.bind_eq_some_iff.mp e
    cases e
    unfold blD at e1
    split at e1
    · cases e1
      cases h
      rw [bls_reps t e2]
      rfl
    · cases e1
def dAny : D → Option D
  | .lst ds => (blsD ds).map fun bs => .bl (bs.any id)
  | _ => none
def dAll : D → Option D
  | .lst ds => (blsD ds).map fun bs => .bl (bs.all id)
  | _ => none
theorem rc_any {Y : Kn} : RcE Y (rAny Y.K) dAny := by
  intro H F x da d Q s rx e k
  unfold dAny at e
  split at e
  · obtain ⟨bs, e1, e2⟩ := Option.map_eq_some_iff.mp e
    subst e2
    obtain ⟨p, vs, rfl, h1, r1⟩ := rx.lst s
    have := bls_reps r1 e1
    subst this
    exact ⟨p, bs, rfl, h1, k _ H F (.refl s) (.bl _)⟩
  · cases e
theorem rc_all {Y : Kn} : RcE Y (rAll Y.K) dAll := by
  intro H F x da d Q s rx e k
  unfold dAll at e
  split at e
  · obtain ⟨bs, e1, e2⟩ := Option.map_eq_some_iff.mp e
    subst e2
    obtain ⟨p, vs, rfl, h1, r1⟩ := rx.lst s
    have := bls_reps r1 e1
    subst this
    exact ⟨p, bs, rfl, h1, k _ H F (.refl s) (.bl _)⟩
  · cases e
def de_any {p : Pos} (hcm : X.calm = true) (hm : X.mg "any" = none) (ha : DB X a ta f) (hg : Gl X "any" := by rfl) (hs : starEach [a] X.env = (false, eval a X.env) :: starEach [] X.env := by rfl) (hpl : (backTo pos (starEach [] X.env)).any (·.1) = false := by rfl) :=
  (de_callB (cr_any hcm) rc_any hm (by decide +kernel) ha hg (by decide) (by decide) hs hpl : DE X (.Call (.Name "any" p) [a] [] pos) (tCB _ (tCons ta tNil)) (un1 f dAny))
def de_all {p : Pos} (hcm : X.calm = true) (hm : X.mg "all" = none) (ha : DB X a ta f) (hg : Gl X "all" := by rfl) (hs : starEach [a] X.env = (false, eval a X.env) :: starEach [] X.env := by rfl) (hpl : (backTo pos (starEach [] X.env)).any (·.1) = false := by rfl) :=
  (de_callB (cr_all hcm) rc_all hm (by decide +kernel) ha hg (by decide) (by decide) hs hpl : DE X (.Call (.Name "all" p) [a] [] pos) (tCB _ (tCons ta tNil)) (un1 f dAll))
/-! ### enumerate -/
def enumD : Nat → List D → List D
  | _, [] => []
  | n, x :: xs => .tup [.int (n : Int), x] :: enumD (n + 1) xs
theorem enumD_len : ∀ (n : Nat) (xs : List D), (enumD n xs).length = xs.length
  | _, [] => rfl
  | n, x :: xs => by simp [enumD, enumD_len (n + 1) xs]
theorem enumD_at : ∀ {n : Nat} {xs : List D} {i : Nat} {d : D}, (enumD n xs)[i]? = some d → ∃ x, xs[i]? = some x ∧ d = .tup [.int ((n + i : Nat) : Int), x]
  | _, [], _, _, e => by simp [enumD] at e
  | n, x :: xs, 0, d, e => by simp [enumD] at e; exact ⟨x, rfl, e.symm⟩
  | n, x :: xs, i + 1, d, e => by
    obtain ⟨u, h1, h2⟩ := enumD_at (n := n + 1) (xs := xs) (i := i) (by simpa [enumD] using e)
    exact ⟨u, by simpa using h1, by rw [h2, show n + 1 + i = n + (i + 1) by omega]⟩
def enumV (fs : Reg → Option (List D)) : Reg → Option (List D) := fun ρ => (fs ρ).bind fun
  | [.lst xs] => some (enumD 0 xs)
  | _ => none
theorem wlk_enum {Y : Kn} {a : Addr} {F1 : Hp} {xs : List V} {ds : List D} (h1 : SqL Y.K F1 a xs) (r1 : Reps Y F1 xs ds) : Wlk Y (Ite Y.K a) F1 (enumD 0 ds) := by
  have l1 := r1.length
  refine ⟨fun i H F hi s1 s2 => ?_, fun H F s1 s2 => ?_, fun i H F x H' d e s1 s2 y => ?_⟩
  · rw [enumD_len] at hi
    have i1 : i < xs.length := by omega
    exact ⟨xs, xs[i], sqL_sub (s1.trans s2) h1, by simp [i1]⟩
  · exact ⟨xs, sqL_sub (s1.trans s2) h1, by rw [enumD_len]; omega⟩
  · obtain ⟨T, u, rfl, hT, rfl, k1⟩ := y
    obtain ⟨x, e1, rfl⟩ := enumD_at e
    obtain ⟨u', eu, ru⟩ := r1.get e1
    have z1 := k1 xs (sqL_sub (s1.trans s2) h1)
    rw [eu] at z1
    cases z1
    have x2 := ext_newF (o := .tup [.int ((i : Nat) : Int), u]) s2 hT
    refine ⟨_, x2, .tup (.inl (.inl upd_same)) (.cons ?_ (.cons ((ru.mono s1).mono x2.f) .nil))⟩
    rw [Nat.zero_add]
    exact .int _
theorem di_enumerate {elts : List Expr} {kk : Nat} {tpos : Pos} {fs : Reg → Option (List D)} {ts : TA} {p : Pos} (hm : X.mg "enumerate" = none) (ha : DA X [a] ts fs) (hg : Gl X "enumerate" := by rfl)
    (hs : starEach [a] X.env = [(false, eval a X.env)] := by rfl) : DI X (.Tuple elts kk tpos) (.Call (.Name "enumerate" p) [a] [] pos) (iEnum X.K ts) (enumV fs) := by
  refine ⟨pi_enum hg hm ha.p hs, fun σ H F ρ ds R r q k => ?_⟩
  obtain ⟨es, e1, e2⟩ := Option.bind_eq_some_iff.mp q
  refine ha.q σ H F ρ es _ r e1 fun vs H' F' x rv => ?_
  split at e2
  · cases e2
    cases rv with
    | cons a b =>
      cases b
      cases a with
      | lst h1 r1 => exact ⟨_, _, rfl, sqL_sub x.s h1, k _ H' F' x (wlk_enum h1 r1)⟩
  · cases e2
/-! ### a op b op c op d -/
def tChain3 (r1 r2 r3 : R2) (ta tb tc td : TE) : TE := fun σ H Q => ta σ H fun x H1 => tb σ H1 fun y H2 => r1 x y H2 fun z H3 => ∃ k, z = .bl k ∧
  (if k = true then tc σ H3 fun w H4 => r2 y w H4 fun z H5 => ∃ k, z = .bl k ∧ (if k = true then td σ H5 fun v H6 => r3 w v H6 Q else Q (.bl false) H5) else Q (.bl false) H3)
theorem pe_chain3 {op1 op2 op3 : CmpOp} {r1 r2 r3 : R2} (h1 : OpR X (compareOp op1) r1) (h2 : OpR X (compareOp op2) r2) (h3 : OpR X (compareOp op3) r3) (ha : PE X a ta) (hb : PE X b tb) (hc : PE X c tc) (hd : PE X d td)
    (hm : lastMarks [op1, op2, op3] [b, c, d] = false := by with_unfolding_all rfl) : PE X (.Compare a [op1, op2, op3] [b, c, d] pos) (tChain3 r1 r2 r3 ta tb tc td) := by
  refine ⟨fun pins s σ H Q I h => ?_⟩
  refine Compare_chain (thn (ha.run pins s σ H _ I h) fun v s1 ⟨x, H1, I1, q1, p1⟩ => chain_link (thn (hb.run pins s1 σ H1 _ I1 p1) fun u s2 ⟨y, H2, I2, q2, p2⟩ =>
    thn (h1 pins s2 σ H2 x y v u _ I2 q1 q2 p2) fun d s3 ⟨z, H3, I3, q3, k, e, p3⟩ => ?_)) hm
  subst e
  cases q3
  refine wpAny_truthy_bool ?_
  cases k with
  | false => exact ite_ff ⟨.bl false, H3, I3, rfl, p3⟩
  | true =>
    refine ite_tt (chain_link (thn (hc.run pins s3 σ H3 _ I3 p3) fun w s4 ⟨y4, H4, I4, q4, p4⟩ => thn (h2 pins s4 σ H4 y y4 u w _ I4 q2 q4 p4) fun d s5 ⟨z, H5, I5, q5, k, e, p5⟩ => ?_))
    subst e
    cases q5
    refine wpAny_truthy_bool ?_
    cases k with
    | false => exact ite_ff ⟨.bl false, H5, I5, rfl, p5⟩
    | true => exact ite_tt (chain_last (thn (hd.run pins s5 σ H5 _ I5 p5) fun w' s6 ⟨z', H6, I6, q6, p6⟩ => h3 pins s6 σ H6 y4 z' w w' Q I6 q4 q6 p6))
def chn3 (f g h h' : Reg → Option D) (k1 k2 k3 : D → D → Option Bool) : Reg → Option Bool := fun ρ => (f ρ).bind fun x => (g ρ).bind fun y => (k1 x y).bind fun c => if c then (h ρ).bind fun z => (k2 y z).bind fun c => if c then (h' ρ).bind fun w => k3 z w else some false else some false
theorem de_chain3 {op1 op2 op3 : CmpOp} {r1 r2 r3 : R2} {k1 k2 k3 : D → D → Option Bool} (o1 : OpR X (compareOp op1) r1) (o2 : OpR X (compareOp op2) r2) (o3 : OpR X (compareOp op3) r3) (h1 : RdT (kn X) r1 k1) (h2 : RdT (kn X) r2 k2) (h3 : RdT (kn X) r3 k3)
    (ha : DB X a ta f) (hb : DB X b tb g) (hc : DB X c tc h) (hd : DB X d td h') (hm : lastMarks [op1, op2, op3] [b, c, d] = false := by with_unfolding_all rfl) : DE X (.Compare a [op1, op2, op3] [b, c, d] pos) (tChain3 r1 r2 r3 ta tb tc td) (bV (chn3 f g h h' k1 k2 k3)) := by
  refine ⟨pe_chain3 o1 o2 o3 ha.p hb.p hc.p hd.p hm, fun σ H F ρ dd Q r0 e kk => ?_⟩
  obtain ⟨cc, e0, e'⟩ := Option.bind_eq_some_iff.mp e
  cases e'
  obtain ⟨x, e1, e⟩ := Option.bind_eq_some_iff.mp e0
  obtain ⟨y, e2, e⟩ := Option.bind_eq_some_iff.mp e
  obtain ⟨k, e3, e⟩ := Option.bind_eq_some_iff.mp e
  refine ha.q σ H F ρ x _ r0 e1 fun v H1 F1 x1 q1 => hb.q σ H1 F1 ρ y _ (r0.ext x1) e2 fun w H2 F2 x2 q2 => ?_
  refine h1 H2 F2 v w x y k _ x2.s (q1.ext x2) q2 e3 ⟨k, rfl, ?_⟩
  cases k with
  | false => cases e; exact iteF (kk _ H2 F2 (x1.trans x2) (.bl _))
  | true =>
    obtain ⟨z, e4, e⟩ := Option.bind_eq_some_iff.mp (show ((h ρ).bind fun z => (k2 y z).bind fun c => if c then (h' ρ).bind fun w => k3 z w else some false) = some cc from e)
    obtain ⟨k, e5, e⟩ := Option.bind_eq_some_iff.mp e
    refine iteT (hc.q σ H2 F2 ρ z _ (r0.ext (x1.trans x2)) e4 fun u H3 F3 x3 q3 => h2 H3 F3 w u y z k _ x3.s (q2.ext x3) q3 e5 ⟨k, rfl, ?_⟩)
    cases k with
    | false => cases e; exact iteF (kk _ H3 F3 (x1.trans (x2.trans x3)) (.bl _))
    | true =>
      obtain ⟨m, e6, e7⟩ := Option.bind_eq_some_iff.mp (show ((h' ρ).bind fun w => k3 z w) = some cc from e)
      exact iteT (hd.q σ H3 F3 ρ m _ (r0.ext (x1.trans (x2.trans x3))) e6 fun n H4 F4 x4 q4 => h3 H4 F4 u n z m cc _ x4.s (q3.ext x4) q4 e7 (kk _ H4 F4 (x1.trans (x2.trans (x3.trans x4))) (.bl _)))
/-! ### is of bools -/
def dIsB : D → D → Option Bool
  | .bl x, .bl y => some (decide (x = y))
  | _, _ => none
theorem rd_isB {Y : Kn} : RdT Y rIsB dIsB := by
  intro H F x y da db c Q s rx ry e k
  unfold dIsB at e
  split at e
  · cases e
    exact ⟨_, _, rx.bl, ry.bl, k⟩
  · cases e
theorem op_isAny {X : Cx} : OpR X (compareOp .Is) (fun x y H Q => ∃ b : Bool, y = .bl b ∧ (∀ z, x ≠ .ty z) ∧ Q (.bl (decide (x = .bl b))) H) := by
  intro pins s σ H x y v u Q I rx ry h
  obtain ⟨b, rfl, nt, q⟩ := h
  cases (show u = Value.bool b from ry)
  cases x with
  | bl a =>
    cases (show v = Value.bool a from rx)
    by_cases e : a = b
    · subst e
      exact wpAny_is_self rfl ⟨.bl true, H, I, rfl, by simpa using q⟩
    · exact wpAny_is_other rfl (fun z => e (Value.bool.inj z)) ⟨.bl false, H, I, rfl, by simpa [e] using q⟩
  | non => cases rx; exact wpAny_is_other rfl (fun z => by cases z) ⟨.bl false, H, I, rfl, by simpa using q⟩
  | int i => obtain ⟨t, rfl⟩ := rx; exact wpAny_is_other rfl (fun z => by cases z) ⟨.bl false, H, I, rfl, by simpa using q⟩
  | str i => obtain ⟨t, rfl⟩ := rx; exact wpAny_is_other rfl (fun z => by cases z) ⟨.bl false, H, I, rfl, by simpa using q⟩
  | byt i => obtain ⟨t, rfl⟩ := rx; exact wpAny_is_other rfl (fun z => by cases z) ⟨.bl false, H, I, rfl, by simpa using q⟩
  | flt i => obtain ⟨t, rfl⟩ := rx; exact wpAny_is_other rfl (fun z => by cases z) ⟨.bl false, H, I, rfl, by simpa using q⟩
  | ref i => cases rx; exact wpAny_is_other rfl (fun z => by cases z) ⟨.bl false, H, I, rfl, by simpa using q⟩
  | ty i => exact absurd rfl (nt i)
def dIsX : D → D → Option Bool
  | .bl x, .bl y => some (decide (x = y))
  | _, .bl _ => some false
  | _, _ => none
theorem rd_isX {Y : Kn} : RdT Y (fun x y H Q => ∃ b : Bool, y = .bl b ∧ (∀ z, x ≠ .ty z) ∧ Q (.bl (decide (x = .bl b))) H) dIsX := by
  intro H F x y da db c Q s rx ry e k
  have nt : ∀ z, x ≠ .ty z := fun z hz => by
    subst hz
    rcases rx with rx | ⟨_, hz, _⟩
    · cases rx
    · cases hz
  unfold dIsX at e
  split at e
  · cases e
    refine ⟨_, ry.bl, nt, ?_⟩
    rw [rx.bl]
    simpa using k
  · rename_i hn
    cases e
    refine ⟨_, ry.bl, nt, ?_⟩
    have hx : ∀ b, x ≠ .bl b := fun b hb => by
      subst hb
      rcases rx with rx | ⟨_, hz, _⟩
      · cases rx; exact hn _ rfl
      · cases hz
    rw [decide_eq_false (hx _)]
    exact k
  · cases e
def dt_isX (ha : DB X a ta f) (hb : DB X b tb g) := (dt_cmp op_isAny rd_isX (nomark _) ha hb : DT X (.Compare a [.Is] [b] pos) (tTest (tOp _ ta tb)) (cmp2 f g dIsX))
def de_isX (ha : DB X a ta f) (hb : DB X b tb g) := (de_cmp op_isAny rd_isX (nomark _) ha hb : DE X (.Compare a [.Is] [b] pos) (tOp _ ta tb) (bV (cmp2 f g dIsX)))
def de_notInS (ha : DB X a ta f) (hb : DB X b tb g) (hm : behindInMarks .NotIn b = false := by rfl) := (de_cmp op_notIn_sign rd_notInS hm ha hb : DE X (.Compare a [.NotIn] [b] pos) (tOp _ ta tb) (bV (cmp2 f g dNotInS)))
theorem de_notInK {k : Nat} (hr : Room k X.A) (ha : DB X a ta f) (hb : DB X b tb g) (hm : behindInMarks .NotIn b = false := by rfl) : DE X (.Compare a [.NotIn] [b] pos) (tDNotIn ta tb) (bV (cmp2 f g fun x y => (dInK x y).map not)) := by
  refine ⟨pe_cmp (pc_dnotin (hu_of hr) ha.p hb.p) hm, fun σ H F ρ d Q r0 e kk => ?_⟩
  obtain ⟨c, e0, e'⟩ := Option.bind_eq_some_iff.mp e
  cases e'
  obtain ⟨x, y, e1, e2, e3⟩ := cmp2_some e0
  obtain ⟨d', e4, e5⟩ := Option.map_eq_some_iff.mp e3
  subst e5
  exact inK_core (k := 0) (d := d') (Q := Q) ha hb r0 (by unfold cmp2; rw [e1, e2]; exact e4) not fun H' F' x => kk _ H' F' x (.bl _)
def de_notMem {k : Nat} (hr : Room k X.A) (ha : DB X a ta f) (hb : DB X b tb g) (hm : behindInMarks .NotIn b = false := by rfl) :=
  (DE.altB (de_notIn ha hb hm) (DE.altB (k := fun x y => (dNotInS x y).or ((dInK x y).map not)) (de_notInS ha hb hm) (de_notInK hr ha hb hm) fun _ _ => rfl) dNotMem_eq : DE X (.Compare a [.NotIn] [b] pos) _ (bV (cmp2 f g dNotMem)))
/-! ### an object's attribute -/
/-- what is known of a class that objects of the data are of -/
structure ClsK (K : PySem.W.Frag) (mg : Str → Option Value) (cn : Str) (fl : List Str) : Prop where
  ex : ∃ C, mg cn = some (.ref C) ∧ Cls K C ∧ ∀ f ∈ fl, NoAttr K C f
def dFld (cn fld : Str) : D → Option D
  | .obj cn' fs => if cn' = cn then fs.lookup fld else none
  | _ => none
theorem repF_lookup {Y : Kn} {F : Hp} {fld : Str} : ∀ {fs : List (Str × V)} {ds : List (Str × D)} {d : D}, RepF Y F fs ds → ds.lookup fld = some d → ∃ v, fs.lookup fld = some v ∧ Rep Y F v d
  | _, _, _, .nil, e => by cases e
  | _, _, d, .cons (k := k) (v := v) h t, e => by
    by_cases z : fld = k
    · subst z
      rw [List.lookup_cons_self] at e
      cases e
      exact ⟨v, List.lookup_cons_self, h⟩
    · have zb : (fld == k) = false := beq_eq_false_iff_ne.mpr z
      rw [List.lookup_cons, zb] at e
      obtain ⟨u, h1, h2⟩ := repF_lookup t e
      exact ⟨u, by rw [List.lookup_cons, zb]; exact h1, h2⟩
theorem de_fld {cn fld : Str} {fl : List Str} (hC : ClsK X.K X.mg cn fl) (hf : fld ∈ fl) (ha : DB X a ta f) (hb : attributeBase a fld X.env (eval a X.env) = eval a X.env := by rfl) : DE X (.Attribute a fld pos) (tFld X.K ta fld) (un1 f (dFld cn fld)) := by
  refine ⟨pe_fld ha.p hb, fun σ H F ρ d Q r0 e k => ?_⟩
  obtain ⟨d1, e1, e2⟩ := Option.bind_eq_some_iff.mp e
  refine ha.q σ H F ρ d1 _ r0 e1 fun v H' F' x' rv => ?_
  obtain ⟨C, hm, cC, nC⟩ := hC.ex
  unfold dFld at e2
  split at e2
  · rename_i cn' ds
    split at e2
    · rename_i hcn
      subst hcn
      rcases rv with rv | ⟨_, _, o⟩
      · cases rv with
        | obj c h hd r =>
          have c' : X.mg _ = some (Value.ref _) := c
          rw [hm] at c'
          cases c'
          obtain ⟨u, l1, l2⟩ := repF_lookup r e2
          exact ⟨_, _, _, _, u, rfl, x'.s _ _ h, cC, nC fld hf, l1, k u H' F' x' l2⟩
      · exact o.elim
    · cases e2
  · cases e2
end
end DL

/-! DL, objects that are made once: __init__ sets attributes to frozen data; the object is data thereafter. -/
namespace DL
open PySem PySem.Spec PyProof.Rows L2
open TL (tl len_tl ext_tl tl_append tl_mk mk_tl map_tl_inj tl_ofString)
abbrev Fds := List (Str × D)
def putD (f : Str) (d : D) : Fds → Fds
  | [] => [(f, d)]
  | (g, x) :: r => if g = f then (g, d) :: r else (g, x) :: putD f d r
theorem putD_rep {Y : Kn} {F : Hp} {f : Str} {v : V} {d : D} (h : Rep Y F v d) : ∀ {fs : List (Str × V)} {ds : Fds}, RepF Y F fs ds → RepF Y F (putF f v fs) (putD f d ds)
  | _, _, .nil => .cons h .nil
  | _, _, .cons (k := k) a t => by
    unfold putF putD
    by_cases z : k = f
    · rw [if_pos z, if_pos z]; exact .cons h t
    · rw [if_neg z, if_neg z]; exact .cons a (putD_rep h t)
theorem RepF.length {Y : Kn} {F : Hp} : ∀ {fs : List (Str × V)} {ds : Fds}, RepF Y F fs ds → fs.length = ds.length
  | _, _, .nil => rfl
  | _, _, .cons _ t => by rw [List.length_cons, List.length_cons, RepF.length t]
/-- the object under way: not in the entry's heap, not frozen; its attributes are data -/
structure SI (Y : Kn) (H0 F0 : Hp) (p dx C : Addr) (H F : Hp) (σ : L2.St) (ρ : Reg) (ds : Fds) : Prop where
  r : R0 Y H F σ ρ
  x : Ext H0 F0 H F
  np : H0 p = none
  nd : H0 dx = none
  fp : F p = none
  fd : F dx = none
  ne : dx ≠ p
  se : σ[0]? = some (some (.ref p))
  hp : ∃ fs, H p = some (.ins C dx fs) ∧ RepF Y F fs ds
  hd : H dx = some (.own p)
section
variable {Y : Kn} {H0 F0 H F H' F' : Hp} {p dx C : Addr} {σ : L2.St} {ρ : Reg} {ds : Fds}
theorem RepF.mono' (s : Sub F F') {fs : List (Str × V)} (h : RepF Y F fs ds) : RepF Y F' fs ds := RepF.mono s h
theorem SI.ext (s : SI Y H0 F0 p dx C H F σ ρ ds) (x : Ext H F H' F') : SI Y H0 F0 p dx C H' F' σ ρ ds := by
  obtain ⟨fs, h1, h2⟩ := s.hp
  exact ⟨s.r.ext x, s.x.trans x, s.np, s.nd, x.n _ _ h1 s.fp, x.n _ _ s.hd s.fd, s.ne, s.se, ⟨fs, x.h _ _ h1, h2.mono x.f⟩, x.h _ _ s.hd⟩
theorem SI.put (s : SI Y H0 F0 p dx C H F σ ρ ds) {f : Str} {v : V} {d : D} (h : Rep Y F v d) {fs : List (Str × V)} (e : H p = some (.ins C dx fs)) : SI Y H0 F0 p dx C (upd H p (.ins C dx (putF f v fs))) F σ ρ (putD f d ds) := by
  obtain ⟨fs', h1, h2⟩ := s.hp
  rw [e] at h1
  cases h1
  have hsub : Sub F (upd H p (.ins C dx (putF f v fs))) := fun a o q => by
    have na : a ≠ p := fun z => by rw [z, s.fp] at q; cases q
    rw [upd_ne na]; exact s.r.sub a o q
  refine ⟨⟨hsub, s.r.len, fun i sl q => ?_, s.r.sep⟩, ⟨fun a o q => ?_, s.x.f, hsub, fun a o q n => s.x.n a o q n⟩, s.np, s.nd, s.fp, s.fd, s.ne, s.se, ⟨_, upd_same, putD_rep h h2⟩, by rw [upd_ne s.ne]; exact s.hd⟩
  · obtain ⟨v', g1, g2⟩ := s.r.at_ i sl q
    refine ⟨v', g1, ?_⟩
    cases sl with
    | no => trivial
    | fz d1 => exact g2
    | ow d1 =>
      obtain ⟨b, g3, g4, g5⟩ := g2
      refine ⟨b, g3, g4, g5.mono ?_ (Sub.refl _)⟩
      have nb : b ≠ p := fun z => by
        subst z
        cases d1 with
        | lst l => obtain ⟨vs, q1, _⟩ := g5; rw [e] at q1; cases q1
        | dic l => obtain ⟨vs, q1, _⟩ := g5; rw [e] at q1; cases q1
        | _ => exact g5.elim
      exact upd_ne nb
  · have na : a ≠ p := fun z => by rw [z, s.np] at q; cases q
    rw [upd_ne na]; exact s.x.h a o q
end
/-- what a statement of __init__ makes of the attributes -/
def EvI (Y : Kn) (C : Addr) (t : TS) (B : Reg → Fds → Option Fds) : Prop := ∀ (σ : L2.St) (H F : Hp) (ρ : Reg) (ds ds' : Fds) (H0 F0 : Hp) (p dx : Addr) (D : Ends), SI Y H0 F0 p dx C H F σ ρ ds → B ρ ds = some ds' → (∀ H' F', SI Y H0 F0 p dx C H' F' σ ρ ds' → D.nx σ H') → t D σ H
structure DIn (X : Cx) (C : Addr) (st : Stmt) (t : TS) (B : Reg → Fds → Option Fds) : Prop where
  p : PS X st t
  q : EvI (kn X) C t B
structure DIns (X : Cx) (C : Addr) (sts : List Stmt) (t : TS) (B : Reg → Fds → Option Fds) : Prop where
  p : PSs X sts t
  q : EvI (kn X) C t B
section
variable {X : Cx} {C : Addr} {st : Stmt} {rest : List Stmt} {t u : TS} {A B : Reg → Fds → Option Fds} {e : Expr} {f : Reg → Option D} {te : TE} {pos : Pos}
def sqI (A B : Reg → Fds → Option Fds) : Reg → Fds → Option Fds := fun ρ ds => (A ρ ds).bind fun ds' => B ρ ds'
theorem din_cons (h1 : DIn X C st t A) (h2 : DIns X C rest u B) : DIns X C (st :: rest) (tSeq t u) (sqI A B) := by
  refine ⟨pss_cons h1.p h2.p, fun σ H F ρ ds ds' H0 F0 p dx D s e k => ?_⟩
  obtain ⟨d1, e1, e2⟩ := Option.bind_eq_some_iff.mp e
  exact h1.q σ H F ρ ds d1 H0 F0 p dx _ s e1 fun H' F' s' => h2.q σ H' F' ρ d1 ds' H0 F0 p dx D s' e2 k
theorem din_one (h1 : DIn X C st t A) : DIns X C [st] t A := ⟨pss_one h1.p, h1.q⟩
def setI (fl : Str) (f : Reg → Option D) : Reg → Fds → Option Fds := fun ρ ds => (f ρ).bind fun d => if ds.length < 100 then some (putD fl d ds) else none
theorem din_set {fl x : Str} {xp ap : Pos} (hc : Cls X.K C) (hn : NoAttr X.K C fl) (he : DE X e te f) (hN : X.N[0]? = some x := by rfl) (hv : Vis X.env.scope x := by first | exact Or.inl rfl | exact Or.inr (Or.inl rfl) | exact Or.inr (Or.inr rfl)) (hd : (x == ("__debug__" : Str)) = false := by decide)
    (hcd : (x == ("__classdict__" : Str)) = false := by decide) (hs : swapsWith e (some (.Attribute (.Name x xp) fl ap)) pos.line X.env = pure false := by rfl) : DIn X C (.Assign [.Attribute (.Name x xp) fl ap] e pos) (sFld X.K (tVar 0) te fl) (setI fl f) := by
  refine ⟨ps_fld (pe_var hN hv hd hcd) he.p hs, fun σ H F ρ ds ds' H0 F0 p dx D s e1 k => ?_⟩
  obtain ⟨d, e2, e3⟩ := Option.bind_eq_some_iff.mp e1
  split at e3
  · rename_i hl
    cases e3
    refine he.q σ H F ρ d _ s.r e2 fun v H' F' x' rv => ?_
    have s' := s.ext x'
    obtain ⟨fs, h1, h2⟩ := s'.hp
    exact ⟨.ref p, s.se, p, C, dx, fs, rfl, h1, hc, hn, by rw [h2.length]; omega, k _ F' (s'.put rv h1)⟩
  · cases e3
/-! self.a, self.b = e -/
def gFld (K : PySem.W.Frag) (ta : TE) (f : Str) : TG := fun y σ H Q => ta σ H fun x H2 => ∃ a C dx fs, x = .ref a ∧ H2 a = some (.ins C dx fs) ∧ Cls K C ∧ NoAttr K C f ∧ fs.length < 1000 ∧ Q σ (upd H2 a (.ins C dx (putF f y fs)))
theorem pg_fld {o : Expr} {ta : TE} {fl : Str} (ha : PE X o ta) : PG X (.Attribute o fl pos) (gFld X.K ta fl) := by
  refine ⟨fun pins s σ H v u Q I rv h => ?_⟩
  have ea : assign (.Attribute o fl pos) X.env u = (do
    let ov ← holding [u] (eval o X.env)
    standAt pos.atName
    holding [u, ov] (setAttr ov fl u)
    release [u, ov] []) := by first | rfl | simp [assign]
  rw [ea]
  refine wpAny_bind (wpAny_holding (thn (ha.run pins s σ H _ I h) fun ov s1 ⟨x, H1, I1, r1, q1⟩ => ?_))
  obtain ⟨a, C, dx, fs, ex, h1, c, n, l, q⟩ := q1
  subst ex
  obtain rfl : ov = Value.ref a := r1
  exact wpAny_bind (wpAny_standAt (wpAny_bind (wpAny_holding (setattr_ok I1 h1 c n l rv fun s' I' => wpAny_release ⟨σ, _, I', q⟩))))
/-- the targets' attributes, from the left -/
def putsD : List Str → List D → Fds → Option Fds
  | [], [], ds => some ds
  | fl :: fls, d :: xs, ds => if ds.length < 100 then putsD fls xs (putD fl d ds) else none
  | _, _, _ => none
def EvIG (Y : Kn) (C : Addr) (t : TGs) (fls : List Str) : Prop := ∀ (σ : L2.St) (H F : Hp) (ρ : Reg) (ds ds' : Fds) (vs : List V) (xs : List D) (H0 F0 : Hp) (p dx : Addr) (Q : L2.St → Hp → Prop), SI Y H0 F0 p dx C H F σ ρ ds → Reps Y F vs xs → putsD fls xs ds = some ds' → (∀ H', SI Y H0 F0 p dx C H' F σ ρ ds' → Q σ H') → t vs σ H Q
structure DIg (X : Cx) (C : Addr) (es : List Expr) (t : TGs) (fls : List Str) : Prop where
  p : PGs X es t
  q : EvIG (kn X) C t fls
theorem dig_nil : DIg X C [] gNil [] := ⟨pgs_nil, fun σ H F ρ ds ds' vs xs H0 F0 p dx Q s r e k => by
  cases r with
  | nil => cases e; exact ⟨rfl, k H s⟩
  | cons _ _ => cases e⟩
theorem dig_cons {fl x : Str} {fls : List Str} {xp ap : Pos} {es : List Expr} {t : TGs} (hc : Cls X.K C) (hn : NoAttr X.K C fl) (h : DIg X C es t fls) (hN : X.N[0]? = some x := by rfl) (hv : Vis X.env.scope x := by first | exact Or.inl rfl | exact Or.inr (Or.inl rfl) | exact Or.inr (Or.inr rfl)) (hd : (x == ("__debug__" : Str)) = false := by decide)
    (hcd : (x == ("__classdict__" : Str)) = false := by decide) (hs : (assignEach (.Attribute (.Name x xp) fl ap :: es) X.env).map (·.2) = assign (.Attribute (.Name x xp) fl ap) X.env :: (assignEach es X.env).map (·.2) := by rfl) : DIg X C (.Attribute (.Name x xp) fl ap :: es) (gCons (gFld X.K (tVar 0) fl) t) (fl :: fls) := by
  refine ⟨pgs_cons (pg_fld (pe_var hN hv hd hcd)) h.p hs, fun σ H F ρ ds ds' vs xs H0 F0 p dx Q s r e k => ?_⟩
  cases r with
  | nil => cases e
  | cons a b =>
    unfold putsD at e
    split at e
    · rename_i hl
      obtain ⟨fs, h1, h2⟩ := s.hp
      exact ⟨_, _, rfl, .ref p, s.se, p, C, dx, fs, rfl, h1, hc, hn, by rw [h2.length]; omega, h.q σ _ F ρ _ ds' _ _ H0 F0 p dx Q (s.put a h1) b e k⟩
    · cases e
def tupI (fls : List Str) (f : Reg → Option D) : Reg → Fds → Option Fds := fun ρ ds => (f ρ).bind fun
  | .tup xs => putsD fls xs ds
  | _ => none
theorem putsD_len : ∀ {fls : List Str} {xs : List D} {ds ds' : Fds}, putsD fls xs ds = some ds' → xs.length = fls.length
  | [], [], _, _, _ => rfl
  | [], _ :: _, _, _, e => by cases e
  | _ :: _, [], _, _, e => by cases e
  | fl :: fls, d :: xs, ds, ds', e => by
    unfold putsD at e
    split at e
    · rw [List.length_cons, List.length_cons, putsD_len e]
    · cases e
theorem din_tup {es : List Expr} {j : Nat} {tp : Pos} {tg : TGs} {fls : List Str} (n : Nat) (hcm : X.calm = true) (hg : DIg X C es tg fls) (hl : fls.length = n) (he : DE X e te f) (hn : (assignEach es X.env).length = n := by rfl) (hst : (assignEach es X.env).findIdx? (·.1) = none := by rfl)
    (hs : swapsWithSole [.Tuple es j tp] e pos.line X.env = pure false := by rfl) (hw : swappedStores [.Tuple es j tp] e X.env = pure none := by rfl) (h1 : (assignEach [.Tuple es j tp] X.env).map (·.2) = [assign (.Tuple es j tp) X.env] := by rfl) :
    DIn X C (.Assign [.Tuple es j tp] e pos) (tAsg te (gTup X.K n tg)) (tupI fls f) := by
  refine ⟨ps_asg he.p (pg_tup hcm hg.p hn hst) hs hw h1, fun σ H F ρ ds ds' H0 F0 p dx D s e1 k => ?_⟩
  obtain ⟨d, e2, e3⟩ := Option.bind_eq_some_iff.mp e1
  split at e3
  · rename_i xs
    refine he.q σ H F ρ _ _ s.r e2 fun v H' F' x' rv => ?_
    cases rv with
    | tup h2 rr =>
      exact ⟨_, _, rfl, sqT_sub x'.s h2, by rw [rr.length, putsD_len e3, hl], hg.q σ H' F' ρ ds ds' _ xs H0 F0 p dx _ (s.ext x') rr e3 fun H2 s2 => k H2 F' s2⟩
  · cases e3
end
theorem paired_take {α β : Type} {R : α → β → Prop} : ∀ (n : Nat) {as : List α} {bs : List β}, Paired R as bs → Paired R (as.take n) (bs.take n)
  | 0, _, _, _ => by rw [List.take_zero, List.take_zero]; exact .nil
  | _ + 1, _, _, .nil => .nil
  | n + 1, _, _, .cons a t => .cons a (paired_take n t)
theorem paired_drop {α β : Type} {R : α → β → Prop} : ∀ (n : Nat) {as : List α} {bs : List β}, Paired R as bs → Paired R (as.drop n) (bs.drop n)
  | 0, _, _, h => h
  | _ + 1, _, _, .nil => .nil
  | n + 1, _, _, .cons _ t => paired_drop n t
theorem kw_chain {α : Type} {D : Addr} {q : Str} {m : Value} {t : Sem α} {r : α} (h : ∃ k : Option Value → Sem α, t = nsGet D q >>= k ∧ k (some m) = pure r) : KwChain D [(q, m)] t r := by
  obtain ⟨k, e1, e2⟩ := h
  refine ⟨Option Value, Option Value, pure, pure, k, some m, ?_, rfl, ?_⟩
  · rw [e1, bind_pure, bind_pure]
  · show (pure (some m) >>= k) = pure r
    rw [pure_bind, e2]
/-! ### the promise of __init__; a call of the class -/
def spI (Y : Kn) (C : Addr) (n : Nat) (m : List D → Option Fds) : Sp := fun vs H Q _ => ∃ (H0 F0 : Hp) (p dx : Addr) (ws : List V) (xs : List D) (ds : Fds), vs = .ref p :: ws ∧ H0 p = none ∧ H0 dx = none ∧ dx ≠ p ∧ H = upd (upd H0 dx (.own p)) p (.ins C dx []) ∧ Sub F0 H0 ∧ Reps Y F0 ws xs ∧ xs.length = n ∧ m xs = some ds ∧
  ∀ H' F' fs, Ext H0 F0 H' F' → F' p = none → F' dx = none → H' p = some (.ins C dx fs) → H' dx = some (.own p) → RepF Y F' fs ds → Q .non H'
theorem fn_init {P : Program} {w : World} {K : PySem.W.Frag} {mg : Str → Option Value} {base : Heap} {x qual s0 : Str} {st : Stmt} {f C : Addr} {fd : FuncData} {N ps : List Str} {k : Nat} {B : Reg → Fds → Option Fds} {m : List D → Option Fds} (F : Fun K x qual st f fd) (sc : FnScope (s0 :: N) (s0 :: ps) (defScope st))
    (hm : ∀ xs ds, xs.length = ps.length → m xs = some ds → B (Sl.no :: startR N.length xs) [] = some ds)
    (hB : ∀ (cdv : Value) (A : Around) (outer : List PySem.Env) (s : Shared) (H : Hp) (E : XK), Room k (A.deeper (envOfC qual (defScope st) s.heap.objs.size f cdv)) → ∃ t, DIns (cxOf CX0 P w K mg base (s0 :: N) qual (defScope st) f cdv A outer s H E).nox C (defBody st) t B) :
    FnOk P w K mg base CX0 (k + 1) f fd (s0 :: ps) (spI ⟨K, mg⟩ C ps.length m) := by
  refine F.ok sc (fun vs H Q E h => ?_) (fun cdv A outer s H vs Q E hr h => ?_)
  · obtain ⟨H0, F0, p, dx, ws, xs, ds, rfl, _, _, _, _, _, r, hl, _⟩ := h
    rw [List.length_cons, List.length_cons, r.length, hl]
  · obtain ⟨H0, F0, p, dx, ws, xs, ds, rfl, np, nd, ne, rfl, s0', r, hl, e, kq⟩ := h
    obtain ⟨t, ht⟩ := hB cdv A outer s _ E hr
    have sub : Sub F0 (upd (upd H0 dx (.own p)) p (.ins C dx [])) := fun a o q => by
      have ha := s0' a o q
      rw [upd_ne (ne_of_none ha np), upd_ne (ne_of_none ha nd)]; exact ha
    have r1 := start_r0 (N := N) sub r
    have el : (L2.start (s0 :: N) (.ref p :: ws)) = some (.ref p) :: L2.start N ws := by
      unfold L2.start
      simp
    have r2 : R0 ⟨K, mg⟩ (upd (upd H0 dx (.own p)) p (.ins C dx [])) F0 (some (.ref p) :: L2.start N ws) (Sl.no :: startR N.length xs) := by
      refine ⟨sub, by rw [List.length_cons, List.length_cons, r1.len], fun i sl q => ?_, fun i j d d' a q1 q2 q3 q4 => ?_⟩
      · cases i with
        | zero => cases q; exact ⟨_, rfl, trivial⟩
        | succ i => exact r1.at_ i sl q
      · cases i with
        | zero => cases q1
        | succ i =>
          cases j with
          | zero => cases q2
          | succ j => rw [r1.sep i j d d' a q1 q2 q3 q4]
    have hd2 : (upd (upd H0 dx (.own p)) p (.ins C dx [])) dx = some (.own p) := by rw [upd_ne ne, upd_same]
    have x2 : Ext H0 F0 (upd (upd H0 dx (.own p)) p (.ins C dx [])) F0 := ⟨fun a o q => by rw [upd_ne (ne_of_none q np), upd_ne (ne_of_none q nd)]; exact q, Sub.refl _, sub, fun a o q n => n⟩
    have si : SI ⟨K, mg⟩ H0 F0 p dx C (upd (upd H0 dx (.own p)) p (.ins C dx [])) F0 (some (.ref p) :: L2.start N ws) (Sl.no :: startR N.length xs) [] :=
      ⟨r2, x2, np, nd, none_of_sub s0' np, none_of_sub s0' nd, ne, rfl, ⟨[], upd_same, .nil⟩, hd2⟩
    rw [el]
    refine ⟨t, ht.p, ht.q _ _ F0 _ [] ds H0 F0 p dx _ si (hm xs ds hl e) fun H' F' s' => ?_⟩
    obtain ⟨fs, g1, g2⟩ := s'.hp
    exact kq H' F' fs s'.x s'.fp s'.fd g1 s'.hd g2
/-- the class of this name makes objects of these data -/
def MakeOk (P : Program) (w : World) (K : PySem.W.Frag) (mg : Str → Option Value) (base : Heap) (k : Nat) (cn : Str) (n : Nat) (m : List D → Option Fds) : Prop :=
  ∃ C f fd ps, FnOk P w K mg base CX0 k f fd ps (spI ⟨K, mg⟩ C n m) ∧ mg cn = some (.ref C) ∧ Mk K C f ∧ Binds K fd ps []
def mkV (cn : Str) (m : List D → Option Fds) (fs : Reg → Option (List D)) : Reg → Option D := fun ρ => (fs ρ).bind fun xs => (m xs).map fun ds => .obj cn ds
def frz2 (H F : Hp) (a b : Addr) : Hp := fun c => if c = a ∨ c = b then H c else F c
section
variable {X : Cx} {CX : CXT}
theorem de_make {P : Program} {w : World} {K : PySem.W.Frag} {mg : Str → Option Value} {base : Heap} {cn : Str} {j n k : Nat} {m : List D → Option Fds} {e : Expr} {es : List Expr} {p pos : Pos} {ta : TA} {fs : Reg → Option (List D)} (G : MakeOk P w K mg base j cn n m) (hr : Room k X.A) (ha : DA X (e :: es) ta fs) (hj : j + 1 ≤ k := by decide) (hn : (e :: es).length = n := by rfl) (hg : Gl X cn := by rfl) (hdb : (cn == ("__debug__" : Str)) = false := by decide)
    (he : starEach (e :: es) X.env = (false, eval e X.env) :: starEach es X.env := by rfl) (hpl : (backTo pos (starEach es X.env)).any (·.1) = false := by rfl)
    (hP : X.prog = P := by rfl) (hw : X.w = w := by rfl) (hK : X.K = K := by rfl) (hmg : X.mg = mg := by rfl) (hbs : X.base = base := by rfl) :
    DE X (.Call (.Name cn p) (e :: es) [] pos) (fun σ H Q => ∃ C, mg cn = some (.ref C) ∧ tMake C (spI ⟨K, mg⟩ C n m) [] E0 ta σ H Q) (mkV cn m fs) := by
  subst hP hw hK hmg hbs
  obtain ⟨C, f, fd, ps, h1, h2, h3, h4⟩ := G
  refine ⟨⟨fun pins s σ H Q I ⟨C', hC, q⟩ => ?_⟩, fun σ H F ρ d Q r q kq => ?_⟩
  · rw [h2] at hC
    cases hC
    exact (pe_make h3 h1 (hr.mono hj) hg h2 h4 .nil pass0 ha.p hdb he hpl).run pins s σ H Q I q
  · refine ⟨C, h2, ?_⟩
    obtain ⟨xs, e1, e2⟩ := Option.bind_eq_some_iff.mp q
    obtain ⟨ds, e3, e4⟩ := Option.map_eq_some_iff.mp e2
    subst e4
    refine ha.q σ H F ρ xs _ r e1 fun vs H1 F1 x1 r1 => fun x dx nx nd ne => ?_
    rw [List.append_nil]
    refine ⟨H1, F1, x, dx, vs, xs, ds, rfl, nx, nd, ne, rfl, x1.s, r1, (ha.len ρ xs e1).trans hn, e3, fun H' F' fs' x' np' nd' hp hd rf => ⟨rfl, ?_⟩⟩
    have hs : Sub F' (frz2 H' F' x dx) := fun c o q => by
      unfold frz2
      by_cases hc : c = x ∨ c = dx
      · rcases hc with rfl | rfl
        · rw [np'] at q; cases q
        · rw [nd'] at q; cases q
      · rw [if_neg hc]; exact q
    refine kq (.ref x) H' (frz2 H' F' x dx) ⟨fun c o q => x'.h c o (x1.h c o q), x1.f.trans (x'.f.trans hs), fun c o q => ?_, fun c o q nq => ?_⟩ (.obj h2 (by unfold frz2; rw [if_pos (.inl rfl)]; exact hp) (by unfold frz2; rw [if_pos (.inr rfl)]; exact hd) (rf.mono hs))
    · unfold frz2 at q
      split at q
      · exact q
      · exact x'.s c o q
    · unfold frz2
      have c1 : c ≠ x := fun z => by have := x1.h c o q; rw [z, nx] at this; cases this
      have c2 : c ≠ dx := fun z => by have := x1.h c o q; rw [z, nd] at this; cases this
      rw [if_neg (fun z => z.elim c1 c2)]
      exact x'.n c o (x1.h c o q) (x1.n c o q nq)
/-! ### f(k = v, ..) -/
structure DK' (X : Cx) (kws : List Keyword) (t : TA) (f : Reg → Option (List D)) : Prop where
  p : PK X kws t
  q : EvA (kn X) t f
  len : ∀ ρ ds, f ρ = some ds → ds.length = kws.length
theorem dk_nil : DK' X [] tNil (fun _ => some []) := ⟨pk_nil, fun σ H F ρ d Q r e k => by cases e; exact k _ H F (.refl r.sub) .nil, fun ρ ds e => by cases e; rfl⟩
theorem dk_cons {nm : Option Str} {e : Expr} {kpos : Pos} {kws : List Keyword} {te : TE} {t : TA} {f : Reg → Option D} {fs : Reg → Option (List D)} (h : DE X e te f) (hs : DK' X kws t fs) : DK' X (⟨nm, e, kpos⟩ :: kws) (tCons te t) (consA f fs) := by
  refine ⟨pk_cons h.p hs.p, fun σ H F ρ d Q r e k => ?_, fun ρ ds e => ?_⟩
  · obtain ⟨d1, e1, e⟩ := Option.bind_eq_some_iff.mp e
    obtain ⟨d2, e2, e⟩ := Option.bind_eq_some_iff.mp e
    cases e
    refine h.q σ H F ρ d1 _ r e1 fun v H1 F1 x1 r1 => ?_
    exact hs.q σ H1 F1 ρ d2 _ (r.ext x1) e2 fun vs H2 F2 x2 r2 => k _ H2 F2 (x1.trans x2) (.cons (r1.mono x2.f) r2)
  · obtain ⟨d1, e1, e⟩ := Option.bind_eq_some_iff.mp e
    obtain ⟨d2, e2, e⟩ := Option.bind_eq_some_iff.mp e
    cases e
    rw [List.length_cons, List.length_cons, hs.len ρ d2 e2]
def tCallK (m : Nat) (sp : Sp) (gV : List V → List V) (E : XK) (tk : TA) : TE := fun σ H Q => tk σ H fun zs H2 => zs.length = m ∧ sp (gV zs) H2 Q E
theorem pe_callK {k : Nat} {f : Addr} {fd : FuncData} {ps ks : List Str} {sp : Sp} {E : XK} {x : Str} {p pos : Pos} {kws : List Keyword} {tk : TA} {g : List Value → List Value → List Value} {gV : List V → List V → List V} (F : FnOk X.prog X.w X.K X.mg X.base CX k f fd ps sp) (hr : Room k X.A) (hg : Gl X x) (hm : X.mg x = some (.ref f)) (hk : PySem.W.keepIn X.K (.ref f) = true) (hb : KBn X.K fd ps 0 ks g gV) (hx : Passes CX X E) (hkw : PK X kws tk)
    (hall : (backToKw pos (keywordEach kws X.env)).all (·.1.isSome) = true := by rfl) (hks : (backToKw pos (keywordEach kws X.env)).filterMap (·.1) = ks := by rfl) (hdb : (x == ("__debug__" : Str)) = false := by decide)
    (hpl : ((backTo pos (starEach [] X.env)).any (·.1) || (backToKw pos (keywordEach kws X.env)).any (·.1.isNone)) = false := by rfl) : PE X (.Call (.Name x p) [] kws pos) (tCallK ks.length sp (gV []) E tk) := by
  refine ⟨fun pins s σ H Q I h => ?_⟩
  refine wpAny_Call_Name_kw (ld_glob I hg hm ?_ hdb)
  refine PySem.W.callWith_KW0 (h₀ := X.base) I.ok.mod.kin hk hall ?_ hpl
  refine thn (hkw.run pos pins s σ H _ I h) fun ws s2 ⟨zs, H2, I2, rz, l2, q2⟩ => ⟨I2.kIn, ?_⟩
  rw [hks]
  exact run_fnN (us := []) (vs := []) F hr hb hx I2 .nil rz rfl l2 q2
/-- a def of keyword-only parameters; gV orders the values of the call and the defaults -/
def KwOk (P : Program) (w : World) (K : PySem.W.Frag) (mg : Str → Option Value) (base : Heap) (k : Nat) (x : Str) (ks : List Str) (n : Nat) (gD : List D → List D) (m : List D → Option D) : Prop :=
  ∃ f fd ps g gV, FnOk P w K mg base CX0 k f fd ps (spD ⟨K, mg⟩ n m) ∧ mg x = some (.ref f) ∧ PySem.W.keepIn K (.ref f) = true ∧ KBn K fd ps 0 ks g gV ∧ ∀ (F : Hp) (vs : List V) (ds : List D), Reps ⟨K, mg⟩ F vs ds → ds.length = ks.length → Reps ⟨K, mg⟩ F (gV [] vs) (gD ds)
theorem de_callK {P : Program} {w : World} {K : PySem.W.Frag} {mg : Str → Option Value} {base : Heap} {x : Str} {j n k : Nat} {ks : List Str} {gD : List D → List D} {m : List D → Option D} {p pos : Pos} {kws : List Keyword} {tk : TA} {fs : Reg → Option (List D)} (G : KwOk P w K mg base j x ks n gD m) (hr : Room k X.A) (hkw : DK' X kws tk fs) (hgl : ∀ ds, ds.length = ks.length → (gD ds).length = n) (hj : j ≤ k := by decide) (hkl : kws.length = ks.length := by rfl) (hg : Gl X x := by rfl)
    (hall : (backToKw pos (keywordEach kws X.env)).all (·.1.isSome) = true := by rfl) (hks : (backToKw pos (keywordEach kws X.env)).filterMap (·.1) = ks := by rfl) (hdb : (x == ("__debug__" : Str)) = false := by decide)
    (hpl : ((backTo pos (starEach [] X.env)).any (·.1) || (backToKw pos (keywordEach kws X.env)).any (·.1.isNone)) = false := by rfl)
    (hP : X.prog = P := by rfl) (hw : X.w = w := by rfl) (hK : X.K = K := by rfl) (hmg : X.mg = mg := by rfl) (hbs : X.base = base := by rfl) :
    DE X (.Call (.Name x p) [] kws pos) (fun σ H Q => ∃ gV : List V → List V, (∀ (F : Hp) (vs : List V) (ds : List D), Reps ⟨K, mg⟩ F vs ds → ds.length = ks.length → Reps ⟨K, mg⟩ F (gV vs) (gD ds)) ∧ tCallK ks.length (spD ⟨K, mg⟩ n m) gV E0 tk σ H Q ∧ ∃ f fd ps g gV', FnOk P w K mg base CX0 j f fd ps (spD ⟨K, mg⟩ n m) ∧ mg x = some (.ref f) ∧ PySem.W.keepIn K (.ref f) = true ∧ KBn K fd ps 0 ks g gV' ∧ gV = gV' []) (callV (fun ds => m (gD ds)) fs) := by
  subst hP hw hK hmg hbs
  obtain ⟨f, fd, ps, g, gV, h1, h2, h3, h4, h5⟩ := G
  refine ⟨⟨fun pins s σ H Q I ⟨gV1, _, q, f', fd', ps', g', gV', k1, k2, k3, k4, e⟩ => ?_⟩, fun σ H F ρ d Q r q kq => ?_⟩
  · subst e
    exact (pe_callK k1 (hr.mono hj) hg k2 k3 k4 pass0 hkw.p hall hks hdb hpl).run pins s σ H Q I q
  · refine ⟨gV [], h5, ?_, f, fd, ps, g, gV, h1, h2, h3, h4, rfl⟩
    obtain ⟨ds, e1, e2⟩ := Option.bind_eq_some_iff.mp q
    have hl := (hkw.len ρ ds e1).trans hkl
    refine hkw.q σ H F ρ ds _ r e1 fun vs H' F' x' r' => ⟨by rw [r'.length, hl], ?_⟩
    exact ⟨F', gD ds, d, x'.s, h5 F' vs ds r' hl, hgl ds hl, e2, fun v H2 F2 x2 r2 => kq v H2 F2 (x'.trans x2) r2⟩
end
end DL

/-! DL, reckoning: what a denotation comes to, as rules that simp uses. -/
namespace DL
open PySem PySem.Spec PyProof.Rows L2
section
/-- it is defined, and K holds of it -/
def Ev {α : Type} (o : Option α) (K : α → Prop) : Prop := ∃ a, o = some a ∧ K a
section
variable {α β : Type} {o : Option α} {K : α → Prop} {a : α} {p : Prop} [Decidable p] {o1 o2 : Option α}
@[simp] theorem ev_some : Ev (some a) K ↔ K a := ⟨fun ⟨_, e, k⟩ => by cases e; exact k, fun k => ⟨a, rfl, k⟩⟩
@[simp] theorem ev_none : Ev (none : Option α) K ↔ False := ⟨fun h => (by obtain ⟨_, e, _⟩ := h; cases e), False.elim⟩
@[simp] theorem ev_guard : Ev (if p then some a else none) K ↔ p ∧ K a := by by_cases h : p <;> simp [h]
@[simp] theorem ev_guard2 : Ev (if p then o1 else none) K ↔ p ∧ Ev o1 K := by by_cases h : p <;> simp [h]
theorem ev_ite : Ev (if p then o1 else o2) K ↔ (p → Ev o1 K) ∧ (¬ p → Ev o2 K) := by by_cases h : p <;> simp [h]
@[simp] theorem ev_bind {β : Type} {f : α → Option β} {K : β → Prop} : Ev (o.bind f) K ↔ Ev o fun a => Ev (f a) K := by cases o <;> simp
@[simp] theorem ev_map {β : Type} {f : α → β} {K : β → Prop} : Ev (o.map f) K ↔ Ev o fun a => K (f a) := by cases o <;> simp
theorem Ev.imp {K' : α → Prop} (h : Ev o K) (hk : ∀ a, K a → K' a) : Ev o K' := let ⟨a, e, k⟩ := h; ⟨a, e, hk a k⟩
theorem ev_of (h : o = some a) (k : K a) : Ev o K := ⟨a, h, k⟩
theorem ev_eq : Ev o (fun x => x = a) ↔ o = some a := ⟨fun ⟨_, e, k⟩ => by rw [e, k], fun e => ⟨a, e, rfl⟩⟩
end
/-- the block ends well: N behind it, R of what it hands back, Bk where it breaks, Ct where it goes on -/
def Ok (o : Out) (N : Reg → Prop) (R : D → Prop) (Bk Ct : Reg → Prop) : Prop := match o with
  | .nx ρ => N ρ
  | .rt d => R d
  | .bk ρ => Bk ρ
  | .ct ρ => Ct ρ
  | .bad => False
variable {N : Reg → Prop} {R : D → Prop} {Bk Ct : Reg → Prop} {A B : Reg → Out} {ρ : Reg} {f g h : Reg → Option D} {i j : Nat} {d e : D} {p q : Reg → Option Bool} {b : Bool} {fs : Reg → Option (List D)} {ds es : List D}
theorem Ok.imp {o : Out} {N' : Reg → Prop} {R' : D → Prop} {Bk' Ct' : Reg → Prop} (h : Ok o N R Bk Ct) (h1 : ∀ ρ, N ρ → N' ρ) (h2 : ∀ d, R d → R' d) (h3 : ∀ ρ, Bk ρ → Bk' ρ) (h4 : ∀ ρ, Ct ρ → Ct' ρ) : Ok o N' R' Bk' Ct' := by
  cases o with
  | nx ρ => exact h1 _ h
  | rt d => exact h2 _ h
  | bk ρ => exact h3 _ h
  | ct ρ => exact h4 _ h
  | bad => exact h
@[simp] theorem ok_nx : Ok (.nx ρ) N R Bk Ct ↔ N ρ := Iff.rfl
@[simp] theorem ok_rt : Ok (.rt d) N R Bk Ct ↔ R d := Iff.rfl
@[simp] theorem ok_bk : Ok (.bk ρ) N R Bk Ct ↔ Bk ρ := Iff.rfl
@[simp] theorem ok_ct : Ok (.ct ρ) N R Bk Ct ↔ Ct ρ := Iff.rfl
@[simp] theorem ok_bad : Ok .bad N R Bk Ct ↔ False := Iff.rfl
@[simp] theorem ok_sq : Ok (sq A B ρ) N R Bk Ct ↔ Ok (A ρ) (fun ρ' => Ok (B ρ') N R Bk Ct) R Bk Ct := by
  unfold sq
  cases A ρ <;> exact Iff.rfl
@[simp] theorem ok_skip : Ok (skip ρ) N R Bk Ct ↔ N ρ := Iff.rfl
@[simp] theorem ok_retS : Ok (retS f ρ) N R Bk Ct ↔ Ev (f ρ) R := by
  unfold retS
  cases f ρ <;> simp
@[simp] theorem ok_setS : Ok (setS i f ρ) N R Bk Ct ↔ Ev (f ρ) fun d => N (ρ.set i (.fz d)) := by
  unfold setS
  cases f ρ <;> simp
@[simp] theorem ok_setN : Ok (setN i f ρ) N R Bk Ct ↔ Ev (f ρ) fun d => N (ρ.set i (.ow d)) := by
  unfold setN
  cases f ρ <;> simp
@[simp] theorem ok_dropS : Ok (dropS f ρ) N R Bk Ct ↔ Ev (f ρ) fun _ => N ρ := by
  unfold dropS
  cases f ρ <;> simp
@[simp] theorem ok_iteS : Ok (iteS p A B ρ) N R Bk Ct ↔ Ev (p ρ) fun b => (b = true → Ok (A ρ) N R Bk Ct) ∧ (b = false → Ok (B ρ) N R Bk Ct) := by
  unfold iteS
  cases p ρ with
  | none => simp
  | some b => cases b <;> simp
@[simp] theorem ok_frzS : Ok (frzS i A ρ) N R Bk Ct ↔ Ok (A (freeze ρ i)) N R Bk Ct := Iff.rfl
@[simp] theorem ok_asgS {h : D → Reg → Option Reg} : Ok (asgS f h ρ) N R Bk Ct ↔ Ev (f ρ) fun d => Ev (h d ρ) N := by
  unfold asgS
  cases f ρ with
  | none => simp
  | some d => cases e : h d ρ <;> simp [e]
/-- a list of one's own -/
def asL : D → Option (List D)
  | .lst ds => some ds
  | _ => none
@[simp] theorem asL_l : asL (.lst ds) = some ds := rfl
@[simp] theorem ok_appS : Ok (appS i f ρ) N R Bk Ct ↔ Ev (owAt ρ i) fun l => Ev (asL l) fun ds => Ev (f ρ) fun d => ds.length < sizeLine ∧ N (ρ.set i (.ow (.lst (ds ++ [d])))) := by
  unfold appS
  cases owAt ρ i with
  | none => simp
  | some l =>
    cases f ρ with
    | none => cases l <;> simp [asL]
    | some d =>
      cases l <;> simp [asL]
      rename_i ds
      by_cases hz : ds.length < sizeLine <;> simp [hz]
def asI : D → Option Int
  | .int i => some i
  | _ => none
@[simp] theorem asI_i {z : Int} : asI (.int z) = some z := rfl
@[simp] theorem ok_setItS {k : Reg → Option D} : Ok (setItS i f k ρ) N R Bk Ct ↔ Ev (f ρ) fun d => Ev (owAt ρ i) fun l => Ev (asL l) fun ds => Ev (k ρ) fun y => Ev (asI y) fun z => Ev (ixN ds.length z) fun j => N (ρ.set i (.ow (.lst (ds.set j d)))) := by
  unfold setItS
  cases f ρ with
  | none => simp
  | some d =>
    cases owAt ρ i with
    | none => simp
    | some l =>
      cases k ρ with
      | none => cases l <;> simp [asL]
      | some z =>
        cases l <;> simp [asL]
        cases z <;> simp [asI]
        rename_i ds z
        cases e : ixN ds.length z <;> simp
@[simp] theorem ok_forS {h : D → Reg → Option Reg} : Ok (forS fs h B ρ) N R Bk Ct ↔ Ev (fs ρ) fun ds => Ok (loopD h B ds ρ) N R Bk Ct := by
  unfold forS
  cases fs ρ <;> simp
/-! slots -/
@[simp] theorem fz_0 : fzAt (.fz d :: ρ) 0 = some d := rfl
@[simp] theorem fz_0n : fzAt (.no :: ρ) 0 = none := rfl
@[simp] theorem fz_0o : fzAt (.ow d :: ρ) 0 = none := rfl
@[simp] theorem fz_s {s : Sl} : fzAt (s :: ρ) (i + 1) = fzAt ρ i := rfl
@[simp] theorem any_0 : anyAt (.fz d :: ρ) 0 = some d := rfl
@[simp] theorem any_0o : anyAt (.ow d :: ρ) 0 = some d := rfl
@[simp] theorem any_0n : anyAt (.no :: ρ) 0 = none := rfl
@[simp] theorem any_s {s : Sl} : anyAt (s :: ρ) (i + 1) = anyAt ρ i := rfl
@[simp] theorem ow_0 : owAt (.ow d :: ρ) 0 = some d := rfl
@[simp] theorem ow_0f : owAt (.fz d :: ρ) 0 = none := rfl
@[simp] theorem ow_0n : owAt (.no :: ρ) 0 = none := rfl
@[simp] theorem ow_s {s : Sl} : owAt (s :: ρ) (i + 1) = owAt ρ i := rfl
@[simp] theorem freeze_0 : freeze (.ow d :: ρ) 0 = .fz d :: ρ := rfl
@[simp] theorem freeze_0f : freeze (.fz d :: ρ) 0 = .fz d :: ρ := rfl
@[simp] theorem freeze_0n : freeze (.no :: ρ) 0 = .no :: ρ := rfl
@[simp] theorem freeze_s {s : Sl} : freeze (s :: ρ) (i + 1) = s :: freeze ρ i := by
  unfold freeze
  rw [List.getElem?_cons_succ]
  cases ρ[i]? with
  | none => rfl
  | some t => cases t <;> rfl
/-! expressions -/
section
variable {K : D → Prop} {KB : Bool → Prop} {KL : List D → Prop}
@[simp] theorem ev_bin2 {k : D → D → Option D} : Ev (bin2 f g k ρ) K ↔ Ev (f ρ) fun x => Ev (g ρ) fun y => Ev (k x y) K := by simp [bin2]
@[simp] theorem ev_cmp2 {k : D → D → Option Bool} : Ev (cmp2 f g k ρ) KB ↔ Ev (f ρ) fun x => Ev (g ρ) fun y => Ev (k x y) KB := by simp [cmp2]
@[simp] theorem ev_un1 {k : D → Option D} : Ev (un1 f k ρ) K ↔ Ev (f ρ) fun x => Ev (k x) K := by simp [un1]
@[simp] theorem ev_bV : Ev (bV p ρ) K ↔ Ev (p ρ) fun b => K (.bl b) := by simp [bV]
@[simp] theorem ev_truT : Ev (truT f ρ) KB ↔ Ev (f ρ) fun x => Ev (dTru x) KB := by simp [truT]
@[simp] theorem ev_notT : Ev (notT p ρ) KB ↔ Ev (p ρ) fun b => KB (!b) := by simp [notT]
@[simp] theorem ev_andT : Ev (andT p q ρ) KB ↔ Ev (p ρ) fun c => (c = true → Ev (q ρ) KB) ∧ (c = false → KB false) := by
  unfold andT
  cases p ρ with
  | none => simp
  | some c => cases c <;> simp
@[simp] theorem ev_orT : Ev (orT p q ρ) KB ↔ Ev (p ρ) fun c => (c = true → KB true) ∧ (c = false → Ev (q ρ) KB) := by
  unfold orT
  cases p ρ with
  | none => simp
  | some c => cases c <;> simp
@[simp] theorem ev_ifV : Ev (ifV p f g ρ) K ↔ Ev (p ρ) fun c => (c = true → Ev (f ρ) K) ∧ (c = false → Ev (g ρ) K) := by
  unfold ifV
  cases p ρ with
  | none => simp
  | some c => cases c <;> simp
@[simp] theorem ev_andV : Ev (andV f g ρ) K ↔ Ev (f ρ) fun d => Ev (dTru d) fun c => (c = true → Ev (g ρ) K) ∧ (c = false → K d) := by
  unfold andV
  cases f ρ with
  | none => simp
  | some d => cases e : dTru d with
    | none => simp [e]
    | some c => cases c <;> simp [e]
@[simp] theorem ev_orV : Ev (orV f g ρ) K ↔ Ev (f ρ) fun d => Ev (dTru d) fun c => (c = true → K d) ∧ (c = false → Ev (g ρ) K) := by
  unfold orV
  cases f ρ with
  | none => simp
  | some d => cases e : dTru d with
    | none => simp [e]
    | some c => cases c <;> simp [e]
@[simp] theorem ev_chn {k1 k2 : D → D → Option Bool} : Ev (chn f g h k1 k2 ρ) KB ↔ Ev (f ρ) fun x => Ev (g ρ) fun y => Ev (k1 x y) fun c => (c = true → Ev (h ρ) fun z => Ev (k2 y z) KB) ∧ (c = false → KB false) := by
  unfold chn
  cases f ρ with
  | none => simp
  | some x => cases g ρ with
    | none => simp
    | some y => cases e : k1 x y with
      | none => simp [e]
      | some c => cases c <;> simp [e]
@[simp] theorem ev_consA : Ev (consA f fs ρ) KL ↔ Ev (f ρ) fun x => Ev (fs ρ) fun xs => KL (x :: xs) := by simp [consA]
@[simp] theorem ev_lstV : Ev (lstV fs ρ) K ↔ Ev (fs ρ) fun xs => K (.lst xs) := by simp [lstV]
@[simp] theorem ev_tupV : Ev (tupV fs ρ) K ↔ Ev (fs ρ) fun xs => K (.tup xs) := by simp [tupV]
@[simp] theorem ev_callV {m : List D → Option D} : Ev (callV m fs ρ) K ↔ Ev (fs ρ) fun xs => Ev (m xs) K := by simp [callV]
@[simp] theorem ev_itV : Ev (itV f ρ) KL ↔ Ev (f ρ) fun x => Ev (itD x) KL := by simp [itV]
@[simp] theorem ev_parV {KO : Option Int → Prop} : Ev (parV f ρ) KO ↔ Ev (f ρ) fun x => Ev (asI x) fun z => KO (some z) := by
  unfold parV
  cases f ρ with
  | none => simp
  | some x => cases x <;> simp [asI]
@[simp] theorem ev_slV {lo hi : Reg → Option (Option Int)} {k : D → Option Int → Option Int → Option D} : Ev (slV f lo hi k ρ) K ↔ Ev (f ρ) fun x => Ev (lo ρ) fun l => Ev (hi ρ) fun u => Ev (k x l u) K := by simp [slV]
/-- 0, 1, .. n - 1 from lo on -/
def rngL (lo : Int) (n : Nat) : List D := (List.range n).map fun k => .int (lo + (k : Nat))
theorem rngL_len {lo : Int} {n : Nat} : (rngL lo n).length = n := by simp [rngL]
theorem rngL_at {lo : Int} {n j : Nat} {d : D} (h : (rngL lo n)[j]? = some d) : j < n ∧ d = .int (lo + (j : Nat)) := by
  unfold rngL at h
  rw [List.getElem?_map] at h
  obtain ⟨k, h3, h4⟩ := Option.map_eq_some_iff.mp h
  obtain ⟨hk, hk'⟩ := List.getElem?_eq_some_iff.mp h3
  have hk2 : k = j := by simpa using hk'.symm
  subst hk2
  exact ⟨by simpa using hk, h4.symm⟩
theorem rngL_succ {lo : Int} {n : Nat} : rngL lo (n + 1) = .int lo :: rngL (lo + 1) n := by
  unfold rngL
  rw [List.range_succ_eq_map, List.map_cons, List.map_map]
  congr 1
  · simp
  · apply List.map_congr_left
    intro k _
    simp only [Function.comp]
    congr 1
    omega
theorem rngL_zero {lo : Int} : rngL lo 0 = [] := rfl
def one1 : List D → Option Int
  | [.int z] => some z
  | _ => none
def two2 : List D → Option (Int × Int)
  | [.int z, .int w] => some (z, w)
  | _ => none
@[simp] theorem one1_i {z : Int} : one1 [.int z] = some z := rfl
@[simp] theorem two2_i {z w : Int} : two2 [.int z, .int w] = some (z, w) := rfl
@[simp] theorem ev_rng1 : Ev (rng1 fs ρ) KL ↔ Ev (fs ρ) fun xs => Ev (one1 xs) fun z => (-(2 ^ 62) ≤ z ∧ z < 2 ^ 62) ∧ KL (rngL 0 z.toNat) := by
  unfold rng1 rngL
  cases fs ρ with
  | none => simp
  | some xs =>
    simp only [Option.bind_some, ev_some]
    split
    · rename_i z
      simp only [one1, ev_some, ev_guard]
      simp
    · rename_i h0
      have : one1 xs = none := by
        unfold one1
        split
        · rename_i z; exact absurd rfl (h0 z)
        · rfl
      rw [this]
      simp
@[simp] theorem ev_rng2 : Ev (rng2 fs ρ) KL ↔ Ev (fs ρ) fun xs => Ev (two2 xs) fun z => (-(2 ^ 62) ≤ z.1 ∧ z.1 < 2 ^ 62 ∧ -(2 ^ 62) ≤ z.2 ∧ z.2 < 2 ^ 62) ∧ KL (rngL z.1 (z.2 - z.1).toNat) := by
  unfold rng2 rngL
  cases fs ρ with
  | none => simp
  | some xs =>
    simp only [Option.bind_some, ev_some]
    split
    · rename_i z w
      simp only [two2, ev_some, ev_guard]
    · rename_i h0
      have : two2 xs = none := by
        unfold two2
        split
        · rename_i z w; exact absurd rfl (h0 z w)
        · rfl
      rw [this]
      simp
@[simp] theorem ev_lcV {h : D → Reg → Option Reg} {vs : List Nat} : Ev (lcV fs h p f vs ρ) K ↔ Ev (fs ρ) fun ds => ds.length ≤ sizeLine ∧ Ev (lcD h p f (wipeR ρ vs) ds) fun ys => K (.lst ys) := by
  unfold lcV
  cases fs ρ with
  | none => simp
  | some ds => by_cases hz : ds.length ≤ sizeLine <;> simp [hz]
end
/-! targets -/
@[simp] theorem gN_ap : gN i d ρ = some (ρ.set i (.fz d)) := rfl
@[simp] theorem gT_apL {gs : List D → Reg → Option Reg} : gT gs (.lst ds) ρ = gs ds ρ := rfl
@[simp] theorem gT_ap {gs : List D → Reg → Option Reg} : gT gs (.tup ds) ρ = gs ds ρ := rfl
@[simp] theorem gsC_ap {g : D → Reg → Option Reg} {gs : List D → Reg → Option Reg} : gsC g gs (d :: ds) ρ = (g d ρ).bind fun ρ' => gs ds ρ' := rfl
@[simp] theorem gsN_ap : gsN [] ρ = some ρ := rfl
@[simp] theorem wipeR_nil : wipeR ρ [] = ρ := rfl
@[simp] theorem wipeR_cons {v : Nat} {vs : List Nat} : wipeR ρ (v :: vs) = (wipeR ρ vs).set v .no := rfl
/-! loops -/
theorem ok_loop {g : D → Reg → Option Reg} (I : Nat → Reg → Prop) : ∀ (ds : List D) (i : Nat) (ρ : Reg), I i ρ →
    (∀ (j : Nat) (d : D) (ρ : Reg), ds[j]? = some d → I (i + j) ρ → ∃ ρ1, g d ρ = some ρ1 ∧ Ok (B ρ1) (I (i + j + 1)) R N (I (i + j + 1))) → (∀ ρ, I (i + ds.length) ρ → N ρ) → Ok (loopD g B ds ρ) N R Bk Ct
  | [], i, ρ, h, _, hN => hN ρ h
  | d :: ds, i, ρ, h, st, hN => by
    obtain ⟨ρ1, e1, h1⟩ := st 0 d ρ rfl h
    have ih := fun ρ2 h2 => ok_loop (g := g) I ds (i + 1) ρ2 h2 (fun j d' ρ' e h' => by
      have := st (j + 1) d' ρ' (by simpa using e) (by rw [show i + (j + 1) = i + 1 + j by omega]; exact h')
      rw [show i + (j + 1) = i + 1 + j by omega] at this
      exact this) (fun ρ' h' => hN ρ' (by rw [List.length_cons, show i + (ds.length + 1) = i + 1 + ds.length by omega]; exact h'))
    unfold loopD
    rw [e1]
    dsimp only
    cases e : B ρ1 with
    | nx ρ2 => rw [e] at h1; exact ih ρ2 h1
    | ct ρ2 => rw [e] at h1; exact ih ρ2 h1
    | bk ρ2 => rw [e] at h1; exact h1
    | rt d => rw [e] at h1; exact h1
    | bad => rw [e] at h1; exact h1.elim
/-- over a range -/
theorem ok_range {g : D → Reg → Option Reg} {lo : Int} {n : Nat} (I : Nat → Reg → Prop) (h : I 0 ρ)
    (st : ∀ (j : Nat) (ρ : Reg), j < n → I j ρ → ∃ ρ1, g (.int (lo + (j : Nat))) ρ = some ρ1 ∧ Ok (B ρ1) (I (j + 1)) R N (I (j + 1))) (hN : ∀ ρ, I n ρ → N ρ) : Ok (loopD g B (rngL lo n) ρ) N R Bk Ct := by
  refine ok_loop I (rngL lo n) 0 ρ h (fun j d ρ e hj => ?_) fun ρ h => hN ρ (by rw [rngL_len, Nat.zero_add] at h; exact h)
  obtain ⟨h1, rfl⟩ := rngL_at e
  rw [Nat.zero_add] at hj ⊢
  exact st j ρ h1 hj
/-- over data that stand for items of a kind -/
theorem ok_each {α : Type} {g : D → Reg → Option Reg} (enc : α → D) (xs : List α) (I : Nat → Reg → Prop) (h : I 0 ρ)
    (st : ∀ (j : Nat) (x : α) (ρ : Reg), xs[j]? = some x → I j ρ → ∃ ρ1, g (enc x) ρ = some ρ1 ∧ Ok (B ρ1) (I (j + 1)) R N (I (j + 1))) (hN : ∀ ρ, I xs.length ρ → N ρ) : Ok (loopD g B (xs.map enc) ρ) N R Bk Ct := by
  refine ok_loop I (xs.map enc) 0 ρ h (fun j d ρ e hj => ?_) fun ρ h => hN ρ (by rw [List.length_map, Nat.zero_add] at h; exact h)
  rw [List.getElem?_map] at e
  obtain ⟨x, h3, rfl⟩ := Option.map_eq_some_iff.mp e
  rw [Nat.zero_add] at hj ⊢
  exact st j x ρ h3 hj
theorem ok_while {B : Reg → Out} (I : Reg → Prop) (μ : Reg → Nat) : ∀ (n : Nat) (ρ : Reg), I ρ → μ ρ < n →
    (∀ ρ, I ρ → ∃ b, p ρ = some b ∧ if b = true then Ok (B ρ) (fun ρ' => I ρ' ∧ μ ρ' < μ ρ) R N (fun ρ' => I ρ' ∧ μ ρ' < μ ρ) else N ρ) → Ok (whileD p B n ρ) N R Bk Ct
  | 0, ρ, _, hn, _ => absurd hn (Nat.not_lt_zero _)
  | n + 1, ρ, h, hn, st => by
    obtain ⟨b, e, h1⟩ := st ρ h
    unfold whileD
    rw [e]
    cases b with
    | false => exact h1
    | true =>
      rw [if_pos rfl] at h1
      dsimp only
      cases e : B ρ with
      | nx ρ2 => rw [e] at h1; exact ok_while I μ n ρ2 h1.1 (by have := h1.2; omega) st
      | ct ρ2 => rw [e] at h1; exact ok_while I μ n ρ2 h1.1 (by have := h1.2; omega) st
      | bk ρ2 => rw [e] at h1; exact h1
      | rt d => rw [e] at h1; exact h1
      | bad => rw [e] at h1; exact h1.elim
theorem lcD_map {h : D → Reg → Option Reg} (F : D → D) : ∀ (ds : List D), (∀ d ∈ ds, ∃ ρ1, h d ρ = some ρ1 ∧ p ρ1 = some true ∧ f ρ1 = some (F d)) → lcD h p f ρ ds = some (ds.map F)
  | [], _ => rfl
  | d :: ds, st => by
    obtain ⟨ρ1, e1, e2, e3⟩ := st d List.mem_cons_self
    unfold lcD
    rw [e1]
    simp only [Option.bind_some, e2, if_true, e3]
    rw [lcD_map F ds fun d' hd => st d' (List.mem_cons_of_mem _ hd)]
    rfl
theorem lcD_enc {α β : Type} {h : D → Reg → Option Reg} (enc : α → D) (enc' : β → D) (F : α → β) (xs : List α) (st : ∀ x ∈ xs, ∃ ρ1, h (enc x) ρ = some ρ1 ∧ p ρ1 = some true ∧ f ρ1 = some (enc' (F x))) : lcD h p f ρ (xs.map enc) = some ((xs.map F).map enc') := by
  induction xs with
  | nil => rfl
  | cons x xs ih =>
    obtain ⟨ρ1, e1, e2, e3⟩ := st x List.mem_cons_self
    rw [List.map_cons]
    unfold lcD
    rw [e1]
    simp only [Option.bind_some, e2, if_true, e3]
    rw [ih fun x' hx => st x' (List.mem_cons_of_mem _ hx)]
    rfl
theorem lcD_filter {α β : Type} {h : D → Reg → Option Reg} (enc : α → D) (enc' : β → D) (P : α → Bool) (F : α → β) (xs : List α) (st : ∀ x ∈ xs, ∃ ρ1, h (enc x) ρ = some ρ1 ∧ p ρ1 = some (P x) ∧ (P x = true → f ρ1 = some (enc' (F x)))) : lcD h p f ρ (xs.map enc) = some (((xs.filter P).map F).map enc') := by
  induction xs with
  | nil => rfl
  | cons x xs ih =>
    obtain ⟨ρ1, e1, e2, e3⟩ := st x List.mem_cons_self
    rw [List.map_cons]
    unfold lcD
    rw [e1]
    simp only [Option.bind_some, e2]
    rw [ih fun x' hx => st x' (List.mem_cons_of_mem _ hx), List.filter_cons]
    cases hP : P x with
    | false => simp
    | true => simp [e3 hP]
theorem lcD_ex {α β : Type} {h : D → Reg → Option Reg} (enc : α → D) (enc' : β → D) (P : α → β → Prop) : ∀ (xs : List α), (∀ x ∈ xs, Ev (h (enc x) ρ) fun ρ1 => p ρ1 = some true ∧ Ev (f ρ1) fun d => ∃ y, d = enc' y ∧ P x y) →
    Ev (lcD h p f ρ (xs.map enc)) fun ys => ∃ zs : List β, ys = zs.map enc' ∧ zs.length = xs.length ∧ ∀ z ∈ zs, ∃ x ∈ xs, P x z
  | [], _ => ⟨[], rfl, [], rfl, rfl, fun _ h => nomatch h⟩
  | x :: xs, st => by
    obtain ⟨ρ1, e1, e2, d, e3, y, rfl, py⟩ := st x List.mem_cons_self
    obtain ⟨ys, e4, zs, rfl, h1, h2⟩ := lcD_ex enc enc' P xs fun x' hx => st x' (List.mem_cons_of_mem _ hx)
    refine ⟨enc' y :: zs.map enc', ?_, y :: zs, rfl, by rw [List.length_cons, List.length_cons, h1], fun z hz => ?_⟩
    · rw [List.map_cons]
      unfold lcD
      rw [e1]
      simp only [Option.bind_some, e2, if_true, e3, e4]
    · rcases List.mem_cons.mp hz with rfl | hz
      · exact ⟨x, List.mem_cons_self, py⟩
      · obtain ⟨x', g1, g2⟩ := h2 z hz
        exact ⟨x', List.mem_cons_of_mem _ g1, g2⟩
/-- a def's data function: by its block -/
theorem fin_iff {o : Out} {P : D → Prop} : Ev (fin o) P ↔ Ok o (fun _ => P .non) P (fun _ => False) (fun _ => False) := by
  cases o <;> simp [fin]
theorem run {b : Reg → Out} {n : Nat} {m : List D → Option D} {ds : List D} {P : D → Prop} (hm : ∀ ds, m ds = fin (b (startR n ds))) (h : Ok (b (startR n ds)) (fun _ => P .non) P (fun _ => False) (fun _ => False)) : Ev (m ds) P := by
  rw [hm]
  exact fin_iff.mpr h
theorem run_eq {b : Reg → Out} {n : Nat} {m : List D → Option D} {ds : List D} {d0 : D} (hm : ∀ ds, m ds = fin (b (startR n ds))) (h : Ok (b (startR n ds)) (fun _ => .non = d0) (fun d => d = d0) (fun _ => False) (fun _ => False)) : m ds = some d0 := ev_eq.mp (run (P := fun d => d = d0) hm h)
@[simp] theorem startR_lit (n : Nat) : startR n ds = ds.map Sl.fz ++ List.replicate (n - ds.length) Sl.no := rfl
end
/-! ### data, kind by kind -/
section
variable {i j : Int} {x y : D} {l m : List Nat} {ds es : List D} {b c : Bool} {kvs : List (DK × D)} {cn : Str} {fs : List (Str × D)}
@[simp] theorem dPlus_ii : dPlus (.int i) (.int j) = some (.int (i + j)) := rfl
@[simp] theorem dPlus_ss : dPlus (.str l) (.str m) = if l.length + m.length ≤ sizeLine then some (.str (l ++ m)) else none := rfl
@[simp] theorem dPlus_ll : dPlus (.lst ds) (.lst es) = if ds.length + es.length ≤ sizeLine then some (.lst (ds ++ es)) else none := rfl
@[simp] theorem dPlus_tt : dPlus (.tup ds) (.tup es) = if ds ≠ [] ∧ ds.length + es.length ≤ sizeLine then some (.tup (ds ++ es)) else none := rfl
@[simp] theorem dCat_ll : dCat (.lst ds) (.lst es) = if ds.length + es.length ≤ sizeLine then some (.lst (ds ++ es)) else none := rfl
@[simp] theorem dSub_ii : dSub (.int i) (.int j) = some (.int (i - j)) := rfl
@[simp] theorem dMul_ii : dMul (.int i) (.int j) = if (-(2 ^ 64) < i ∧ i < 2 ^ 64) ∨ (-(2 ^ 64) < j ∧ j < 2 ^ 64) then some (.int (i * j)) else none := rfl
@[simp] theorem dMod_ii : dMod (.int i) (.int j) = if 0 < j then some (.int (i % j)) else none := rfl
@[simp] theorem dDiv_ii : dDiv (.int i) (.int j) = if 0 < j ∧ j < 1073741824 then some (.int (i / j)) else none := rfl
@[simp] theorem dPow_ii : dPow (.int i) (.int j) = if 0 ≤ j ∧ j ≤ 1000000 ∧ i.natAbs < 2 ^ 64 then some (.int (i ^ j.toNat)) else none := rfl
@[simp] theorem dNeg_i : dNeg (.int i) = some (.int (-i)) := rfl
@[simp] theorem dLt_ii : dLt (.int i) (.int j) = some (decide (i < j)) := rfl
@[simp] theorem dLe_ii : dLe (.int i) (.int j) = some (decide (i ≤ j)) := rfl
@[simp] theorem dGt_ii : dGt (.int i) (.int j) = some (decide (j < i)) := rfl
@[simp] theorem dGe_ii : dGe (.int i) (.int j) = some (decide (j ≤ i)) := rfl
@[simp] theorem dEq_nn : dEq .non .non = some true := rfl
@[simp] theorem dEq_ii : dEq (.int i) (.int j) = some (decide (i = j)) := rfl
@[simp] theorem dEq_ss : dEq (.str l) (.str m) = some (decide (l = m)) := rfl
@[simp] theorem dEq_bb : dEq (.bl b) (.bl c) = some (decide (b = c)) := rfl
@[simp] theorem dEq_ni : dEq .non (.int j) = some false := rfl
@[simp] theorem dEq_in : dEq (.int j) .non = some false := rfl
@[simp] theorem dEq_ns : dEq .non (.str l) = some false := rfl
@[simp] theorem dEq_sn : dEq (.str l) .non = some false := rfl
@[simp] theorem dEq_is : dEq (.int j) (.str l) = some false := rfl
@[simp] theorem dEq_si : dEq (.str l) (.int j) = some false := rfl
@[simp] theorem dNe_ev {K : Bool → Prop} : Ev (dNe x y) K ↔ Ev (dEq x y) fun b => K (!b) := by simp [dNe]
@[simp] theorem dIsN_n : dIsN .non .non = some true := rfl
@[simp] theorem dIsN_i : dIsN (.int i) .non = some false := rfl
@[simp] theorem dIsN_s : dIsN (.str l) .non = some false := rfl
@[simp] theorem dIsN_b : dIsN (.bl b) .non = some false := rfl
@[simp] theorem dIsN_l : dIsN (.lst ds) .non = some false := rfl
@[simp] theorem dIsN_t : dIsN (.tup ds) .non = some false := rfl
@[simp] theorem dIsN_d : dIsN (.dic kvs) .non = some false := rfl
@[simp] theorem dIsN_o : dIsN (.obj cn fs) .non = some false := rfl
@[simp] theorem dNotN_ev {K : Bool → Prop} : Ev (dNotN x y) K ↔ Ev (dIsN x y) fun b => K (!b) := by simp [dNotN]
@[simp] theorem dTru_n : dTru .non = some false := rfl
@[simp] theorem dTru_b : dTru (.bl b) = some b := rfl
@[simp] theorem dTru_i : dTru (.int i) = some (i != 0) := rfl
@[simp] theorem dTru_s : dTru (.str l) = if l.length ≤ sizeLine then some (!l.isEmpty) else none := rfl
@[simp] theorem dTru_l : dTru (.lst ds) = some (!ds.isEmpty) := rfl
@[simp] theorem dTru_t : dTru (.tup ds) = some (!ds.isEmpty) := rfl
@[simp] theorem dTru_d : dTru (.dic kvs) = some (!kvs.isEmpty) := rfl
@[simp] theorem dInt_i : dInt (.int i) = some (.int i) := rfl
@[simp] theorem dInt_b : dInt (.bl b) = some (.int (if b then 1 else 0)) := rfl
@[simp] theorem dLen_l : dLen (.lst ds) = some (.int ds.length) := rfl
@[simp] theorem dLen_t : dLen (.tup ds) = some (.int ds.length) := rfl
@[simp] theorem dLen_s : dLen (.str l) = if l.length ≤ sizeLine then some (.int l.length) else none := rfl
@[simp] theorem dList_l : dList (.lst ds) = some (.lst ds) := rfl
@[simp] theorem dList_t : dList (.tup ds) = some (.lst ds) := rfl
@[simp] theorem dTup_l : dTup (.lst ds) = some (.tup ds) := rfl
@[simp] theorem dTup_t : dTup (.tup ds) = some (.tup ds) := rfl
@[simp] theorem itD_l : itD (.lst ds) = some ds := rfl
@[simp] theorem itD_t : itD (.tup ds) = some ds := rfl
@[simp] theorem itD_s : itD (.str l) = some (l.map fun c => .str [c]) := rfl
@[simp] theorem dItem_l : dItem (.lst ds) (.int i) = atI ds i := by simp [dItem, dIxL, dGet]
@[simp] theorem dItem_t : dItem (.tup ds) (.int i) = atI ds i := by simp [dItem, dIxL, dGet]
@[simp] theorem dItem_s : dItem (.str l) (.int i) = if l.length ≤ sizeLine then (atI l i).map fun c => .str [c] else none := by simp [dItem, dIxL, dGet]
@[simp] theorem dItem_di : dItem (.dic kvs) (.int i) = lookD (.inl i) kvs := by simp [dItem, dIxL, dGet, dkD]
@[simp] theorem dItem_ds : dItem (.dic kvs) (.str l) = lookD (.inr l) kvs := by simp [dItem, dIxL, dGet, dkD]
@[simp] theorem dSlice_l {u v : Option Int} : dSlice (.lst ds) u v = some (.lst (cutG ds u v)) := by simp [dSlice, dSlL]
@[simp] theorem dSlice_s {u v : Option Int} : dSlice (.str l) u v = if l.length ≤ sizeLine then some (.str (cutG l u v)) else none := by
  simp [dSlice, dSlL, dSlS, dSlT]
@[simp] theorem dSlL_l {u v : Option Int} : dSlL (.lst ds) u v = some (.lst (cutG ds u v)) := rfl
@[simp] theorem dMem_sc {k : Nat} : dMem (.str [k]) (.str l) = some (decide (k ∈ l)) := by simp [dMem, dIn, seqD, dInS]
theorem dInS_l : dInS x (.lst ds) = none := by
  cases x with
  | str l => cases l with
    | nil => rfl
    | cons a t => cases t <;> rfl
  | _ => rfl
theorem dInS_t : dInS x (.tup ds) = none := by
  cases x with
  | str l => cases l with
    | nil => rfl
    | cons a t => cases t <;> rfl
  | _ => rfl
theorem dInK_l : dInK x (.lst ds) = none := by cases x <;> rfl
theorem dInK_t : dInK x (.tup ds) = none := by cases x <;> rfl
@[simp] theorem dMem_fl : dMem x (.lst ds) = if flatD x = true ∧ ds.all flatD = true then some (inD x ds) else none := by
  unfold dMem
  rw [dInS_l, dInK_l]
  show (if flatD x = true ∧ ds.all flatD = true then some (inD x ds) else none).or (Option.or none none) = _
  split <;> rfl
@[simp] theorem dMem_ft : dMem x (.tup ds) = if flatD x = true ∧ ds.all flatD = true then some (inD x ds) else none := by
  unfold dMem
  rw [dInS_t, dInK_t]
  show (if flatD x = true ∧ ds.all flatD = true then some (inD x ds) else none).or (Option.or none none) = _
  split <;> rfl
theorem dInS_d : dInS x (.dic kvs) = none := by
  cases x with
  | str l => cases l with
    | nil => rfl
    | cons a t => cases t <;> rfl
  | _ => rfl
@[simp] theorem dMem_ks : dMem (.str l) (.dic kvs) = some (lookD (.inr l) kvs).isSome := by
  unfold dMem
  rw [dInS_d]
  rfl
@[simp] theorem dMem_ki : dMem (.int i) (.dic kvs) = some (lookD (.inl i) kvs).isSome := by
  unfold dMem
  rw [dInS_d]
  rfl
@[simp] theorem dNotMem_ev {K : Bool → Prop} : Ev (dNotMem x y) K ↔ Ev (dMem x y) fun b => K (!b) := by simp [dNotMem]
@[simp] theorem flat_n : flatD .non = true := rfl
@[simp] theorem flat_b : flatD (.bl b) = true := rfl
@[simp] theorem flat_i : flatD (.int i) = true := rfl
@[simp] theorem flat_s : flatD (.str l) = true := rfl
@[simp] theorem all_strs : ∀ {ls : List (List Nat)}, (ls.map D.str).all flatD = true
  | [] => rfl
  | l :: ls => all_strs (ls := ls)
@[simp] theorem all_ints : ∀ {ls : List Int}, (ls.map D.int).all flatD = true
  | [] => rfl
  | l :: ls => all_ints (ls := ls)
@[simp] theorem in_strs : ∀ {ls : List (List Nat)}, inD (.str l) (ls.map D.str) = decide (l ∈ ls)
  | [] => rfl
  | m :: ls => by
    show ((m == l) || inD (.str l) (ls.map D.str)) = decide (l ∈ m :: ls)
    rw [in_strs, Bool.eq_iff_iff]
    simp only [Bool.or_eq_true, beq_iff_eq, decide_eq_true_eq, List.mem_cons]
    exact or_congr_left eq_comm
@[simp] theorem in_ints : ∀ {ls : List Int}, inD (.int i) (ls.map D.int) = decide (i ∈ ls)
  | [] => rfl
  | m :: ls => by
    show ((m == i) || inD (.int i) (ls.map D.int)) = decide (i ∈ m :: ls)
    rw [in_ints, Bool.eq_iff_iff]
    simp only [Bool.or_eq_true, beq_iff_eq, decide_eq_true_eq, List.mem_cons]
    exact or_congr_left eq_comm
@[simp] theorem inD_nil : inD x [] = false := rfl
@[simp] theorem inD_cons : inD x (y :: ds) = (eqvD y x || inD x ds) := rfl
@[simp] theorem eqv_ss : eqvD (.str l) (.str m) = (l == m) := rfl
@[simp] theorem eqv_ii : eqvD (.int i) (.int j) = (i == j) := rfl
@[simp] theorem dWords_s : dWords (.str l) = if l.length + 2 ≤ sizeLine then some (strsD (wordsL l)) else none := rfl
@[simp] theorem dStarts_ss : dStarts (.str l) (.str m) = if m ≠ [] then some (.bl (TL.pre m l)) else none := rfl
@[simp] theorem dJoin_sl : dJoin (.str l) (.lst ds) = (strsL ds).bind fun ls => if (ls.map List.length).sum + ls.length * l.length ≤ 16777216 then some (.str (TL.joinL l ls)) else none := rfl
@[simp] theorem strsL_map {ls : List (List Nat)} : strsL (ls.map D.str) = some ls := by
  induction ls with
  | nil => rfl
  | cons l ls ih => simp [strsL, strL, ih]
@[simp] theorem tyD_n : tyD .non = some "NoneType" := rfl
@[simp] theorem tyD_b : tyD (.bl b) = some "bool" := rfl
@[simp] theorem tyD_i : tyD (.int i) = some "int" := rfl
@[simp] theorem tyD_s : tyD (.str l) = some "str" := rfl
@[simp] theorem tyD_l : tyD (.lst ds) = some "list" := rfl
@[simp] theorem tyD_t : tyD (.tup ds) = some "tuple" := rfl
@[simp] theorem tyD_d : tyD (.dic kvs) = some "dict" := rfl
@[simp] theorem lit_nil : lit "" = [] := rfl
theorem lit_inj {s t : String} : lit s = lit t ↔ s = t := by
  unfold lit
  constructor
  · intro h
    have h2 : s.toList = t.toList := by
      have inj : ∀ (a b : List Char), a.map Char.toNat = b.map Char.toNat → a = b := by
        intro a
        induction a with
        | nil => intro b h; cases b with | nil => rfl | cons _ _ => cases h
        | cons x xs ih =>
          intro b h
          cases b with
          | nil => cases h
          | cons y ys =>
            rw [List.map_cons, List.map_cons] at h
            injection h with h1 h2
            rw [Char.toNat_inj.mp h1, ih ys h2]
      exact inj _ _ h
    exact String.toList_inj.mp h2
  · intro h; rw [h]
end
/-- the built-in classes: who is one of whom -/
theorem kit_list_list : kitB "list" "list" = some true := by decide +kernel
theorem kit_str_str : kitB "str" "str" = some true := by decide +kernel
theorem kit_bool_bool : kitB "bool" "bool" = some true := by decide +kernel
theorem kit_int_int : kitB "int" "int" = some true := by decide +kernel
theorem kit_bool_int : kitB "bool" "int" = some true := by decide +kernel
theorem kit_int_bool : kitB "int" "bool" = some false := by decide +kernel
@[simp] theorem isi_list {ds : List D} : dIsI "list" (.lst ds) = some (.bl true) := by simp [dIsI, kit_list_list]
@[simp] theorem isi_str {l : List Nat} : dIsI "str" (.str l) = some (.bl true) := by simp [dIsI, kit_str_str]
@[simp] theorem isi_bool {b : Bool} : dIsI "bool" (.bl b) = some (.bl true) := by simp [dIsI, kit_bool_bool]
@[simp] theorem isi_int {b : Int} : dIsI "int" (.int b) = some (.bl true) := by simp [dIsI, kit_int_int]
@[simp] theorem isi_intb {b : Int} : dIsI "bool" (.int b) = some (.bl false) := by simp [dIsI, kit_int_bool]
/-! ### f-strings, extend, steps, min and max, sorted -/
section
variable {i j : Int} {x y : D} {l m : List Nat} {ds es : List D} {fs : Reg → Option (List (List Nat))} {gs : Reg → Option (List D)} {ρ : Reg} {f : Reg → Option D} {N : Reg → Prop} {R : D → Prop} {Bk Ct : Reg → Prop} {k : Nat}
@[simp] theorem strL_s : strL (.str l) = some l := rfl
@[simp] theorem ev_joinedV {K : D → Prop} : Ev (joinedV fs ρ) K ↔ Ev (fs ρ) fun ls => (ls.map List.length).sum ≤ sizeLine ∧ K (.str ls.flatten) := by simp [joinedV]
@[simp] theorem ev_consJ {K : List (List Nat) → Prop} : Ev (consJ f fs ρ) K ↔ Ev (f ρ) fun d => Ev (strL d) fun l => Ev (fs ρ) fun ls => K (l :: ls) := by simp [consJ]
@[simp] theorem ev_fnV {K : D → Prop} {g : List D → Option D} : Ev (fnV gs g ρ) K ↔ Ev (gs ρ) fun ds => Ev (g ds) K := by simp [fnV]
@[simp] theorem dMin_ii : dMin [.int i, .int j] = some (.int (if j < i then j else i)) := rfl
@[simp] theorem dMax_ii : dMax [.int i, .int j] = some (.int (if j > i then j else i)) := rfl
@[simp] theorem dStr_s : dStr (.str l) = if l.length ≤ sizeLine then some (.str l) else none := rfl
@[simp] theorem dStr_i : dStr (.int i) = if i.natAbs.log2 < 1920 then some (.str (intL i)) else none := rfl
@[simp] theorem ok_extS : Ok (extS k f ρ) N R Bk Ct ↔ Ev (owAt ρ k) fun l => Ev (asL l) fun ds => Ev (f ρ) fun d => Ev (asL d) fun es => ds.length + es.length ≤ sizeLine ∧ N (ρ.set k (.ow (.lst (ds ++ es)))) := by
  unfold extS
  cases owAt ρ k with
  | none => simp
  | some l =>
    cases f ρ with
    | none => cases l <;> simp [asL]
    | some d =>
      cases l <;> simp [asL]
      rename_i ds
      cases d <;> simp
      rename_i es
      by_cases hz : ds.length + es.length ≤ sizeLine <;> simp [hz]
def three3 : List D → Option (Int × Int × Int)
  | [.int z, .int w, .int c] => some (z, w, c)
  | _ => none
@[simp] theorem three3_i {z w c : Int} : three3 [.int z, .int w, .int c] = some (z, w, c) := rfl
@[simp] theorem ev_rng3 {K : List D → Prop} : Ev (rng3 gs ρ) K ↔ Ev (gs ρ) fun xs => Ev (three3 xs) fun z => ((-(2 ^ 61) ≤ z.1 ∧ z.1 < 2 ^ 61 ∧ -(2 ^ 61) ≤ z.2.1 ∧ z.2.1 < 2 ^ 61) ∧ 0 < z.2.2 ∧ z.2.2 < 1000000) ∧ K (rngC z.1 z.2.2 (stepN z.1 z.2.1 z.2.2)) := by
  unfold rng3
  cases gs ρ with
  | none => simp
  | some xs =>
    simp only [Option.bind_some, ev_some]
    split
    · rename_i z w c
      simp only [three3, ev_some, ev_guard]
    · rename_i h0
      have : three3 xs = none := by
        unfold three3
        split
        · rename_i z w c; exact absurd rfl (h0 z w c)
        · rfl
      rw [this]
      simp
theorem rngC_len {lo c : Int} {n : Nat} : (rngC lo c n).length = n := by simp [rngC]
theorem rngC_at {lo c : Int} {n j : Nat} {d : D} (h : (rngC lo c n)[j]? = some d) : j < n ∧ d = .int (lo + (j : Nat) * c) := by
  unfold rngC at h
  rw [List.getElem?_map] at h
  obtain ⟨k, h3, h4⟩ := Option.map_eq_some_iff.mp h
  obtain ⟨hk, hk'⟩ := List.getElem?_eq_some_iff.mp h3
  have hk2 : k = j := by simpa using hk'.symm
  subst hk2
  exact ⟨by simpa using hk, h4.symm⟩
theorem ok_rangeC {B : Reg → Out} {g : D → Reg → Option Reg} {lo c : Int} {n : Nat} (I : Nat → Reg → Prop) (h : I 0 ρ)
    (st : ∀ (j : Nat) (ρ : Reg), j < n → I j ρ → ∃ ρ1, g (.int (lo + (j : Nat) * c)) ρ = some ρ1 ∧ Ok (B ρ1) (I (j + 1)) R N (I (j + 1))) (hN : ∀ ρ, I n ρ → N ρ) : Ok (loopD g B (rngC lo c n) ρ) N R Bk Ct := by
  refine ok_loop I (rngC lo c n) 0 ρ h (fun j d ρ e hj => ?_) fun ρ h => hN ρ (by rw [rngC_len, Nat.zero_add] at h; exact h)
  obtain ⟨h1, rfl⟩ := rngC_at e
  rw [Nat.zero_add] at hj ⊢
  exact st j ρ h1 hj
/-- an element of a list at a place -/
theorem atI_mem {α : Type} {xs : List α} {i : Int} (h0 : 0 ≤ i) (h1 : i < xs.length) : ∃ a, atI xs i = some a ∧ a ∈ xs := by
  obtain ⟨k, rfl⟩ := Int.eq_ofNat_of_zero_le h0
  have h2 : k < xs.length := by omega
  exact ⟨xs[k], atI_nat (List.getElem?_eq_getElem h2), List.getElem_mem h2⟩
theorem atI_0 {α : Type} {x : α} {xs : List α} : atI (x :: xs) 0 = some x := atI_nat (j := 0) rfl
theorem atI_1 {α : Type} {x y : α} {xs : List α} : atI (x :: y :: xs) 1 = some y := atI_nat (j := 1) rfl
theorem atI_2 {α : Type} {x y z : α} {xs : List α} : atI (x :: y :: z :: xs) 2 = some z := atI_nat (j := 2) rfl
theorem atI_3 {α : Type} {x y z w : α} {xs : List α} : atI (x :: y :: z :: w :: xs) 3 = some w := atI_nat (j := 3) rfl
theorem atI_4 {α : Type} {x y z w v : α} {xs : List α} : atI (x :: y :: z :: w :: v :: xs) 4 = some v := atI_nat (j := 4) rfl
theorem join_len (b : List Nat) : ∀ ls : List (List Nat), (TL.joinL b ls).length ≤ (ls.map List.length).sum + ls.length * b.length
  | [] => Nat.zero_le _
  | [l] => by show l.length ≤ _; simp
  | l :: m :: ls => by
    have ih := join_len b (m :: ls)
    show (l ++ (b ++ TL.joinL b (m :: ls))).length ≤ _
    rw [List.length_append, List.length_append, List.map_cons, List.sum_cons, List.length_cons, Nat.add_mul]
    omega
theorem sum_le {n : Nat} : ∀ {ls : List (List Nat)}, (∀ l ∈ ls, l.length ≤ n) → (ls.map List.length).sum ≤ ls.length * n
  | [], _ => Nat.zero_le _
  | l :: ls, h => by
    have h1 := h l List.mem_cons_self
    have ih := sum_le fun x hx => h x (List.mem_cons_of_mem _ hx)
    rw [List.map_cons, List.sum_cons, List.length_cons, Nat.add_mul]
    omega
theorem join_mem (b : List Nat) {c : Nat} : ∀ {ls : List (List Nat)}, c ∈ TL.joinL b ls → c ∈ b ∨ ∃ l ∈ ls, c ∈ l
  | [], h => by cases h
  | [l], h => .inr ⟨l, List.mem_cons_self, h⟩
  | l :: m :: ls, h => by
    have h : c ∈ l ++ (b ++ TL.joinL b (m :: ls)) := h
    rcases List.mem_append.mp h with h | h
    · exact .inr ⟨l, List.mem_cons_self, h⟩
    · rcases List.mem_append.mp h with h | h
      · exact .inl h
      · rcases join_mem b h with h | ⟨k, hk, h⟩
        · exact .inl h
        · exact .inr ⟨k, List.mem_cons_of_mem _ hk, h⟩
/-- the digits of an int -/
theorem intL_len {i : Int} {k : Nat} (hk : 1 ≤ k) (h : i.natAbs < 10 ^ k) : (intL i).length ≤ k + 1 := by
  have e := int_text_length_le10 hk h
  have e2 := TL.len_tl (Str.ofString (toString i))
  rw [TL.tl_ofString, PySem.ofString_length] at e2
  unfold intL lit
  omega
end
/-! ### any, all, enumerate, zip, chains, objects -/
section
variable {i j : Int} {x y : D} {l m : List Nat} {ds es : List D} {gs : Reg → Option (List D)} {ρ : Reg} {f g h h' : Reg → Option D} {b c : Bool} {bs : List Bool} {cn fld : Str} {fds : Fds}
@[simp] theorem bls_map : ∀ {bs : List Bool}, blsD (bs.map D.bl) = some bs
  | [] => rfl
  | b :: bs => by
    rw [List.map_cons]
    unfold blsD
    rw [bls_map]
    rfl
@[simp] theorem dAny_m : dAny (.lst (bs.map D.bl)) = some (.bl (bs.any id)) := by simp [dAny]
@[simp] theorem dAll_m : dAll (.lst (bs.map D.bl)) = some (.bl (bs.all id)) := by simp [dAll]
def oneL : List D → Option (List D)
  | [.lst xs] => some xs
  | _ => none
def twoL : List D → Option (List D × List D)
  | [.lst xs, .lst ys] => some (xs, ys)
  | _ => none
@[simp] theorem oneL_l : oneL [.lst ds] = some ds := rfl
@[simp] theorem twoL_l : twoL [.lst ds, .lst es] = some (ds, es) := rfl
@[simp] theorem ev_enumV {K : List D → Prop} : Ev (enumV gs ρ) K ↔ Ev (gs ρ) fun xs => Ev (oneL xs) fun ds => K (enumD 0 ds) := by
  unfold enumV
  cases gs ρ with
  | none => simp
  | some xs =>
    simp only [Option.bind_some, ev_some]
    split
    · simp [oneL]
    · rename_i h0
      have : oneL xs = none := by
        unfold oneL
        split
        · rename_i z; exact absurd rfl (h0 z)
        · rfl
      rw [this]
      simp
@[simp] theorem ev_zipV {K : List D → Prop} : Ev (zipV gs ρ) K ↔ Ev (gs ρ) fun xs => Ev (twoL xs) fun z => K (zipD z.1 z.2) := by
  unfold zipV
  cases gs ρ with
  | none => simp
  | some xs =>
    simp only [Option.bind_some, ev_some]
    split
    · simp [twoL]
    · rename_i h0
      have : twoL xs = none := by
        unfold twoL
        split
        · rename_i z w; exact absurd rfl (h0 z w)
        · rfl
      rw [this]
      simp
@[simp] theorem ev_chn3 {k1 k2 k3 : D → D → Option Bool} {KB : Bool → Prop} : Ev (chn3 f g h h' k1 k2 k3 ρ) KB ↔ Ev (f ρ) fun x => Ev (g ρ) fun y => Ev (k1 x y) fun c => (c = true → Ev (h ρ) fun z => Ev (k2 y z) fun c => (c = true → Ev (h' ρ) fun w => Ev (k3 z w) KB) ∧ (c = false → KB false)) ∧ (c = false → KB false) := by
  unfold chn3
  cases f ρ with
  | none => simp
  | some x => cases g ρ with
    | none => simp
    | some y => cases e : k1 x y with
      | none => simp [e]
      | some c => cases c with
        | false => simp [e]
        | true => cases h ρ with
          | none => simp [e]
          | some z => cases e2 : k2 y z with
            | none => simp [e, e2]
            | some c => cases c <;> simp [e, e2]
@[simp] theorem ev_mkV {mm : List D → Option Fds} {K : D → Prop} : Ev (mkV cn mm gs ρ) K ↔ Ev (gs ρ) fun xs => Ev (mm xs) fun fs => K (.obj cn fs) := by simp [mkV]
@[simp] theorem ev_tstV {k : D → Option Bool} {KB : Bool → Prop} : Ev (tstV f k ρ) KB ↔ Ev (f ρ) fun x => Ev (k x) KB := by simp [tstV]
@[simp] theorem dIsX_bb : dIsX (.bl b) (.bl c) = some (decide (b = c)) := rfl
@[simp] theorem dIsX_ib : dIsX (.int i) (.bl c) = some false := rfl
@[simp] theorem dIsX_sb : dIsX (.str l) (.bl c) = some false := rfl
@[simp] theorem dIsX_nb : dIsX .non (.bl c) = some false := rfl
@[simp] theorem dIsX_lb : dIsX (.lst ds) (.bl c) = some false := rfl
@[simp] theorem dIsX_tb : dIsX (.tup ds) (.bl c) = some false := rfl
end
/-! ### places -/
theorem atI_in {α : Type} {xs : List α} {i : Int} (h0 : 0 ≤ i) (h1 : i < xs.length) (a : α) : atI xs i = some (xs.getD i.toNat a) := by
  obtain ⟨k, rfl⟩ := Int.eq_ofNat_of_zero_le h0
  have h2 : k < xs.length := by omega
  rw [atI_nat (v := xs.getD k a)]
  · rfl
  · simp [List.getD_eq_getElem?_getD, h2]
theorem atI_map {α β : Type} {f : α → β} {xs : List α} {i : Int} : atI (xs.map f) i = (atI xs i).map f := by
  unfold atI
  rw [List.length_map]
  cases ixN xs.length i with
  | none => rfl
  | some j => simp
theorem atI_ints {xs : List Int} {i : Int} (h0 : 0 ≤ i) (h1 : i < xs.length) : atI (xs.map D.int) i = some (.int (xs.getD i.toNat 0)) := by
  rw [atI_map, atI_in h0 h1 0]
  rfl
theorem cutG_map {α β : Type} {f : α → β} {xs : List α} {l u : Option Int} : cutG (xs.map f) l u = (cutG xs l u).map f := by
  unfold cutG
  rw [List.length_map, List.map_take, List.map_drop]
theorem cutG_mem {α : Type} {xs : List α} {l u : Option Int} {x : α} (h : x ∈ cutG xs l u) : x ∈ xs := List.mem_of_mem_drop (List.mem_of_mem_take h)
theorem cutG_len {α : Type} {xs : List α} {l u : Option Int} : (cutG xs l u).length ≤ xs.length := by
  unfold cutG
  rw [List.length_take, List.length_drop]
  omega
theorem sIx_nn {n d : Nat} {i : Int} (h0 : 0 ≤ i) : HT.sIx n d (some i) = min i.toNat n := by
  obtain ⟨k, rfl⟩ := Int.eq_ofNat_of_zero_le h0
  exact HT.sIx_nat n d k
theorem cutG_nn {α : Type} {xs : List α} {i j : Int} (h0 : 0 ≤ i) (h1 : 0 ≤ j) : cutG xs (some i) (some j) = (xs.drop (min i.toNat xs.length)).take (min j.toNat xs.length - min i.toNat xs.length) := by
  unfold cutG
  rw [sIx_nn h0, sIx_nn h1]
/-- lengths -/
theorem line_big : (1000000 : Nat) ≤ sizeLine := by decide
end DL

/-! DL, loops that look for something. -/
namespace DL
open PySem PySem.Spec PyProof.Rows L2
variable {N : Reg → Prop} {R : D → Prop} {Bk Ct : Reg → Prop} {B : Reg → Out} {ρ : Reg}
/-- a loop that hands back at the first item for which P holds -/
theorem ok_find {α : Type} {g : D → Reg → Option Reg} (enc : α → D) (P : α → Bool) (r : α → D) (I : Reg → Prop) : ∀ (xs : List α) (ρ : Reg), I ρ →
    (∀ x ∈ xs, ∀ ρ, I ρ → ∃ ρ1, g (enc x) ρ = some ρ1 ∧ (P x = true → Ok (B ρ1) (fun _ => False) (fun d => d = r x) (fun _ => False) (fun _ => False)) ∧ (P x = false → Ok (B ρ1) I (fun _ => False) (fun _ => False) I)) →
    (∀ x, xs.find? P = some x → R (r x)) → (xs.find? P = none → ∀ ρ, I ρ → N ρ) → Ok (loopD g B (xs.map enc) ρ) N R Bk Ct
  | [], ρ, h, _, _, hN => hN rfl ρ h
  | x :: xs, ρ, h, st, hR, hN => by
    obtain ⟨ρ1, e1, h1, h2⟩ := st x List.mem_cons_self ρ h
    rw [List.map_cons]
    unfold loopD
    rw [e1]
    dsimp only
    cases hP : P x with
    | true =>
      have h1 := h1 hP
      have hr := hR x (by rw [List.find?_cons, hP])
      cases e : B ρ1 with
      | rt d => rw [e] at h1; have h1 : d = r x := h1; rw [h1]; exact hr
      | nx ρ2 => rw [e] at h1; exact h1.elim
      | ct ρ2 => rw [e] at h1; exact h1.elim
      | bk ρ2 => rw [e] at h1; exact h1.elim
      | bad => rw [e] at h1; exact h1.elim
    | false =>
      have h2 := h2 hP
      have ih := fun ρ2 h2 => ok_find (g := g) enc P r I xs ρ2 h2 (fun y hy => st y (List.mem_cons_of_mem _ hy)) (fun y hy => hR y (by rw [List.find?_cons, hP]; exact hy)) (fun hn => hN (by rw [List.find?_cons, hP]; exact hn))
      cases e : B ρ1 with
      | rt d => rw [e] at h2; exact h2.elim
      | nx ρ2 => rw [e] at h2; exact ih ρ2 h2
      | ct ρ2 => rw [e] at h2; exact ih ρ2 h2
      | bk ρ2 => rw [e] at h2; exact h2.elim
      | bad => rw [e] at h2; exact h2.elim
/-- a loop that hands back d as soon as P holds of one -/
theorem ok_any {α : Type} {g : D → Reg → Option Reg} (enc : α → D) (P : α → Bool) (d : D) (I : Reg → Prop) (xs : List α) (h : I ρ)
    (st : ∀ x ∈ xs, ∀ ρ, I ρ → ∃ ρ1, g (enc x) ρ = some ρ1 ∧ (P x = true → Ok (B ρ1) (fun _ => False) (fun e => e = d) (fun _ => False) (fun _ => False)) ∧ (P x = false → Ok (B ρ1) I (fun _ => False) (fun _ => False) I))
    (hR : xs.any P = true → R d) (hN : xs.any P = false → ∀ ρ, I ρ → N ρ) : Ok (loopD g B (xs.map enc) ρ) N R Bk Ct := by
  refine ok_find enc P (fun _ => d) I xs ρ h st (fun x hx => hR ?_) (fun hn => hN ?_)
  · exact List.any_eq_true.mpr ⟨x, List.mem_of_find?_eq_some hx, List.find?_some hx⟩
  · refine Bool.eq_false_iff.mpr fun ha => ?_
    obtain ⟨x, h1, h2⟩ := List.any_eq_true.mp ha
    exact (List.find?_eq_none.mp hn) x h1 h2
/-- the same over a range -/
theorem ok_anyR {g : D → Reg → Option Reg} {lo : Int} {n : Nat} (P : Nat → Bool) (d : D) (I : Reg → Prop) (h : I ρ)
    (st : ∀ k < n, ∀ ρ, I ρ → ∃ ρ1, g (.int (lo + (k : Nat))) ρ = some ρ1 ∧ (P k = true → Ok (B ρ1) (fun _ => False) (fun e => e = d) (fun _ => False) (fun _ => False)) ∧ (P k = false → Ok (B ρ1) I (fun _ => False) (fun _ => False) I))
    (hR : (List.range n).any P = true → R d) (hN : (List.range n).any P = false → ∀ ρ, I ρ → N ρ) : Ok (loopD g B (rngL lo n) ρ) N R Bk Ct :=
  ok_any (fun k : Nat => D.int (lo + (k : Nat))) P d I (List.range n) h (fun x hx => st x (List.mem_range.mp hx)) hR hN
theorem ok_findR {g : D → Reg → Option Reg} {lo : Int} {n : Nat} (P : Nat → Bool) (r : Nat → D) (I : Reg → Prop) (h : I ρ)
    (st : ∀ k < n, ∀ ρ, I ρ → ∃ ρ1, g (.int (lo + (k : Nat))) ρ = some ρ1 ∧ (P k = true → Ok (B ρ1) (fun _ => False) (fun d => d = r k) (fun _ => False) (fun _ => False)) ∧ (P k = false → Ok (B ρ1) I (fun _ => False) (fun _ => False) I))
    (hR : ∀ x, (List.range n).find? P = some x → R (r x)) (hN : (List.range n).find? P = none → ∀ ρ, I ρ → N ρ) : Ok (loopD g B (rngL lo n) ρ) N R Bk Ct :=
  ok_find (fun k : Nat => D.int (lo + (k : Nat))) P r I (List.range n) ρ h (fun x hx => st x (List.mem_range.mp hx)) hR hN
/-- it goes on with ρ1 -/
theorem ok_to {o : Out} {ρ1 : Reg} (h : Ok o (fun ρ' => ρ' = ρ1) (fun _ => False) (fun _ => False) (fun _ => False)) (k : N ρ1) : Ok o N R Bk Ct :=
  h.imp (fun _ e => by rw [e]; exact k) (fun _ e => e.elim) (fun _ e => e.elim) (fun _ e => e.elim)
end DL

/-! DL: xs[::-1], d[k] = v of one's own dict, min of a list of ints, sorted of ints, lcm. -/
namespace DL
open PySem PySem.Spec PyProof.Rows L2
section
variable {X : Cx} {pos : Pos} {a b e : Expr} {ta tb te : TE} {f g : Reg → Option D}
def dRev : D → Option D
  | .lst ds => some (.lst ds.reverse)
  | _ => none
theorem Reps.rev {Y : Kn} {F : Hp} : ∀ {vs : List V} {ds : List D}, Reps Y F vs ds → Reps Y F vs.reverse ds.reverse
  | _, _, .nil => .nil
  | _, _, .cons h t => by
    rw [List.reverse_cons, List.reverse_cons]
    exact t.rev.append (.cons h .nil)
theorem dn_rev {k : Nat} {p1 p2 p3 : Pos} (ha : DB X a ta f) : DN X (.Subscript a (.Slice none none (some (.UnaryOp .USub (.Constant (.int 1) k p1) p2)) p3) pos) (tRevL X.K ta) (un1 f dRev) := by
  refine ⟨pe_revL ha.p, fun σ H F ρ d Q r e k => ?_⟩
  obtain ⟨x, e1, e2⟩ := Option.bind_eq_some_iff.mp e
  refine ha.q σ H F ρ x _ r e1 fun v H' F' x' rv => ?_
  unfold dRev at e2
  split at e2
  · cases e2
    obtain ⟨p, vs, rfl, h1, r1⟩ := rv.lst x'.s
    exact ⟨p, vs, rfl, h1, fun q hq => k q _ F' (x'.trans (ext_new x'.s hq)) (none_of_sub x'.h hq) (none_of_sub x'.s hq) ⟨_, upd_same, r1.rev⟩⟩
  · cases e2
theorem dn_if {c : Expr} {tA : TT} {p : Reg → Option Bool} (hc : DT X c tA p) (ha : DN X a ta f) (hb : DN X b tb g) : DN X (.IfExp c a b pos) (tIf tA ta tb) (ifV p f g) := by
  refine ⟨pe_ifExp hc.p ha.p hb.p, fun σ H F ρ d Q r e k => ?_⟩
  obtain ⟨c1, e1, e2⟩ := Option.bind_eq_some_iff.mp e
  refine hc.q σ H F ρ c1 _ r e1 fun H' F' x => ?_
  cases c1 with
  | true => exact iteT (ha.q σ H' F' ρ d _ (r.ext x) e2 fun v H2 F2 x2 n0 n1 o => k v H2 F2 (x.trans x2) (none_of_sub x.h n0) n1 o)
  | false => exact iteF (hb.q σ H' F' ρ d _ (r.ext x) e2 fun v H2 F2 x2 n0 n1 o => k v H2 F2 (x.trans x2) (none_of_sub x.h n0) n1 o)
/-! ### d[k] = v -/
def putDK (kvs : List (DK × D)) (k : DK) (d : D) : List (DK × D) := if (kvs.any fun kv => decide (kv.1 = k)) = true then kvs.map (fun kv => if kv.1 = k then (kv.1, d) else kv) else kvs ++ [(k, d)]
theorem RepK.anyK {Y : Kn} {F : Hp} {k : DK} : ∀ {kvs : List (Key × V)} {ds : List (DK × D)}, RepK Y F kvs ds → (kvs.any fun kv => decide (kv.1 = keyOf k)) = ds.any fun kv => decide (kv.1 = k)
  | _, _, .nil => rfl
  | _, _, .cons (k := j) h t => by
    rw [List.any_cons, List.any_cons, t.anyK]
    congr 1
    by_cases hj : j = k
    · rw [decide_eq_true hj, decide_eq_true (congrArg keyOf hj)]
    · rw [decide_eq_false hj, decide_eq_false fun z => hj (keyOf_inj.mp z)]
theorem RepK.mapK {Y : Kn} {F : Hp} {k : DK} {v : V} {d : D} (r : Rep Y F v d) : ∀ {kvs : List (Key × V)} {ds : List (DK × D)}, RepK Y F kvs ds → RepK Y F (kvs.map fun kv => if kv.1 = keyOf k then (kv.1, v) else kv) (ds.map fun kv => if kv.1 = k then (kv.1, d) else kv)
  | _, _, .nil => .nil
  | _, _, .cons (k := j) h t => by
    rw [List.map_cons, List.map_cons]
    by_cases hj : j = k
    · rw [if_pos hj, if_pos (congrArg keyOf hj)]
      exact .cons r (t.mapK r)
    · rw [if_neg hj, if_neg fun z => hj (keyOf_inj.mp z)]
      exact .cons h (t.mapK r)
theorem RepK.snoc {Y : Kn} {F : Hp} {k : DK} {v : V} {d : D} (r : Rep Y F v d) : ∀ {kvs : List (Key × V)} {ds : List (DK × D)}, RepK Y F kvs ds → RepK Y F (kvs ++ [(keyOf k, v)]) (ds ++ [(k, d)])
  | _, _, .nil => .cons r .nil
  | _, _, .cons h t => .cons h (t.snoc r)
theorem RepK.put {Y : Kn} {F : Hp} {k : DK} {v : V} {d : D} {kvs : List (Key × V)} {ds : List (DK × D)} (h : RepK Y F kvs ds) (r : Rep Y F v d) : RepK Y F (putK kvs (keyOf k) v) (putDK ds k d) := by
  unfold putK putDK
  rw [h.anyK (k := k)]
  split
  · exact h.mapK r
  · exact h.snoc r
theorem RepK.length {Y : Kn} {F : Hp} : ∀ {kvs : List (Key × V)} {ds : List (DK × D)}, RepK Y F kvs ds → kvs.length = ds.length
  | _, _, .nil => rfl
  | _, _, .cons h t => by rw [List.length_cons, List.length_cons, t.length]
def setKeyS (i : Nat) (fe fi : Reg → Option D) : Reg → Out := fun ρ => match fe ρ, owAt ρ i, (fi ρ).bind dkD with
  | some d, some (.dic ds), some k => if ds.length < sizeLine then .nx (ρ.set i (.ow (.dic (putDK ds k d)))) else .bad
  | _, _, _ => .bad
theorem ds_setKey (i : Nat) {k : Nat} {x : Str} {xp sp : Pos} {ix : Expr} {ti : TE} {fi : Reg → Option D} (hr : Room k X.A) (he : DE X e te f) (hi : DB X ix ti fi) (hN : X.N[i]? = some x := by rfl) (hv : Vis X.env.scope x := by first | exact Or.inl rfl | exact Or.inr (Or.inl rfl) | exact Or.inr (Or.inr rfl))
    (hd : (x == ("__debug__" : Str)) = false := by decide) (hcd : (x == ("__classdict__" : Str)) = false := by decide)
    (hs : swapsWith e (some (.Subscript (.Name x xp) ix sp)) pos.line X.env = pure false := by rfl) :
    DS X (.Assign [.Subscript (.Name x xp) ix sp] e pos) (sDPut (tVar i) ti te) (setKeyS i f fi) := by
  refine ⟨ps_dput (hu_of hr) (pe_var hN hv hd hcd) hi.p he.p hs, fun σ H F ρ H0 F0 D s k => ?_⟩
  unfold setKeyS at k
  split at k
  · rename_i d ds kk e1 e2 e3
    split at k
    · rename_i hz
      obtain ⟨a, g1, g2, g3, g4⟩ := s.r.ow e2
      obtain ⟨kvs, h1, r1⟩ := _root_.id g3
      obtain ⟨y, e4, e5⟩ := Option.bind_eq_some_iff.mp e3
      refine he.q σ H F ρ d _ s.r e1 fun v H' F' x' rv => ⟨.ref a, g1, hi.q σ H' F' ρ _ _ (s.r.ext x') e4 fun w H2 F2 x2 rw' => ?_⟩
      have xx := x'.trans x2
      have h2 : H2 a = some (.dK kvs) := xx.h _ _ h1
      have n2 : F2 a = none := xx.n _ _ h1 g2
      have ew := dkD_rep rw' e5
      subst ew
      refine ⟨a, _, rfl, DPut.k h2 (by rw [r1.length]; exact hz), k σ _ F2 ((s.ext xx).mutO g4 g1 n2 ⟨_, upd_same, (r1.mono xx.f).put (rv.mono x2.f)⟩)⟩
    · exact k.elim
  · exact k.elim
/-! ### ints -/
def intsD : List D → Option (List Int)
  | [] => some []
  | .int i :: xs => (intsD xs).map fun ns => i :: ns
  | _ :: _ => none
theorem ints_reps {Y : Kn} {F : Hp} : ∀ {vs : List V} {ds : List D} {ns : List Int}, Reps Y F vs ds → intsD ds = some ns → vs = ns.map V.int
  | _, _, _, .nil, e => by cases e; rfl
  | _, _, _, .cons (d := d) h t, e => by
    cases d with
    | int i =>
      obtain ⟨ms, e1, e2⟩ := Option.map_eq_some_iff.mp (show (intsD _).map (fun ns => i :: ns) = some _ from e)
      subst e2
      cases h
      rw [ints_reps t e1]
      rfl
    | _ => cases e
theorem ints_map : ∀ ns : List Int, intsD (ns.map D.int) = some ns
  | [] => rfl
  | n :: ns => by
    show (intsD (ns.map D.int)).map (fun ms => n :: ms) = _
    rw [ints_map ns]
    rfl
theorem ints_eq : ∀ {ds : List D} {ns : List Int}, intsD ds = some ns → ds = ns.map D.int
  | [], _, e => by cases e; rfl
  | d :: ds, ns, e => by
    cases d with
    | int i =>
      obtain ⟨ms, e1, e2⟩ := Option.map_eq_some_iff.mp (show (intsD ds).map (fun ns => i :: ns) = some _ from e)
      subst e2
      rw [ints_eq e1]
      rfl
    | _ => cases e
def leastI (ns : List Int) : Option Int := ns.find? fun m => ns.all fun y => decide (m ≤ y)
def dMinL : D → Option D
  | .lst ds => (intsD ds).bind fun ns => (leastI ns).map D.int
  | _ => none
theorem rc_minL {Y : Kn} : RcE Y (rMin Y.K) dMinL := by
  intro H F x da d Q s rx e k
  unfold dMinL at e
  split at e
  · obtain ⟨ns, e1, e2⟩ := Option.bind_eq_some_iff.mp e
    obtain ⟨m, e3, e4⟩ := Option.map_eq_some_iff.mp e2
    subst e4
    obtain ⟨p, vs, rfl, h1, r1⟩ := rx.lst s
    have ev := ints_reps r1 e1
    subst ev
    have hm := List.mem_of_find?_eq_some e3
    have e5 : (ns.all fun y => decide (m ≤ y)) = true := by unfold leastI at e3; exact List.find?_some (p := fun m => ns.all fun y => decide (m ≤ y)) e3
    have hl : ∀ y ∈ ns, m ≤ y := fun y hy => of_decide_eq_true (List.all_eq_true.mp e5 y hy)
    refine ⟨p, ns, rfl, h1, List.length_pos_iff.mpr (fun z => by rw [z] at hm; cases hm), fun m' h2 h3 => ?_⟩
    have : m' = m := Int.le_antisymm (h3 m hm) (hl m' h2)
    subst this
    exact k _ H F (.refl s) (.int _)
  · cases e
def de_minL {p : Pos} (hcm : X.calm = true) (hm : X.mg "min" = none) (ha : DB X a ta f) (hg : Gl X "min" := by rfl) (hs : starEach [a] X.env = (false, eval a X.env) :: starEach [] X.env := by rfl) (hpl : (backTo pos (starEach [] X.env)).any (·.1) = false := by rfl) :=
  (de_callB (cr_min hcm) rc_minL hm (by decide +kernel) ha hg (by decide) (by decide) hs hpl : DE X (.Call (.Name "min" p) [a] [] pos) (tCB _ (tCons ta tNil)) (un1 f dMinL))
def greatI (ns : List Int) : Option Int := ns.find? fun m => ns.all fun y => decide (y ≤ m)
def dMaxL : D → Option D
  | .lst ds => (intsD ds).bind fun ns => (greatI ns).map D.int
  | _ => none
theorem rc_maxL {Y : Kn} : RcE Y (rMax Y.K) dMaxL := by
  intro H F x da d Q s rx e k
  unfold dMaxL at e
  split at e
  · obtain ⟨ns, e1, e2⟩ := Option.bind_eq_some_iff.mp e
    obtain ⟨m, e3, e4⟩ := Option.map_eq_some_iff.mp e2
    subst e4
    obtain ⟨p, vs, rfl, h1, r1⟩ := rx.lst s
    have ev := ints_reps r1 e1
    subst ev
    have hm := List.mem_of_find?_eq_some e3
    have e5 : (ns.all fun y => decide (y ≤ m)) = true := by unfold greatI at e3; exact List.find?_some (p := fun m => ns.all fun y => decide (y ≤ m)) e3
    have hl : ∀ y ∈ ns, y ≤ m := fun y hy => of_decide_eq_true (List.all_eq_true.mp e5 y hy)
    refine ⟨p, ns, rfl, h1, List.length_pos_iff.mpr (fun z => by rw [z] at hm; cases hm), fun m' h2 h3 => ?_⟩
    have : m' = m := Int.le_antisymm (hl m' h2) (h3 m hm)
    subst this
    exact k _ H F (.refl s) (.int _)
  · cases e
def de_maxL {p : Pos} (hcm : X.calm = true) (hm : X.mg "max" = none) (ha : DB X a ta f) (hg : Gl X "max" := by rfl) (hs : starEach [a] X.env = (false, eval a X.env) :: starEach [] X.env := by rfl) (hpl : (backTo pos (starEach [] X.env)).any (·.1) = false := by rfl) :=
  (de_callB (cr_max hcm) rc_maxL hm (by decide +kernel) ha hg (by decide) (by decide) hs hpl : DE X (.Call (.Name "max" p) [a] [] pos) (tCB _ (tCons ta tNil)) (un1 f dMaxL))
/-- sorted, ints -/
def ltI (x y : Int) : Bool := decide (x < y)
theorem insI_sorted (x : Int) : ∀ {l : List Int}, l.Pairwise (· ≤ ·) → (insB ltI x l).Pairwise (· ≤ ·)
  | [], _ => by simp [insB]
  | y :: l, h => by
    unfold insB
    rw [List.pairwise_cons] at h
    by_cases hy : y < x
    · have hb : ltI y x = true := decide_eq_true hy
      rw [if_pos hb, List.pairwise_cons]
      refine ⟨fun z hz => ?_, insI_sorted x h.2⟩
      rcases List.mem_cons.mp ((ins_perm x l).mem_iff.mp hz) with rfl | hz
      · omega
      · exact h.1 z hz
    · have hb : ¬ ltI y x = true := by simpa [ltI] using hy
      rw [if_neg hb, List.pairwise_cons]
      refine ⟨fun z hz => ?_, List.pairwise_cons.mpr h⟩
      rcases List.mem_cons.mp hz with rfl | hz
      · omega
      · have := h.1 z hz; omega
theorem sortI_sorted : ∀ l : List Int, (sortB ltI l).Pairwise (· ≤ ·)
  | [] => .nil
  | x :: l => insI_sorted x (sortI_sorted l)
theorem sorted_uniq : ∀ {l m : List Int}, l.Perm m → l.Pairwise (· ≤ ·) → m.Pairwise (· ≤ ·) → l = m
  | [], m, p, _, _ => (List.Perm.nil_eq p)
  | x :: l, [], p, _, _ => absurd p.symm (by simp)
  | x :: l, y :: m, p, h1, h2 => by
    rw [List.pairwise_cons] at h1 h2
    have e : x = y := by
      rcases List.mem_cons.mp (p.mem_iff.mp List.mem_cons_self) with e | e
      · exact e
      · rcases List.mem_cons.mp (p.mem_iff.mpr (List.mem_cons_self : y ∈ y :: m)) with e' | e'
        · exact e'.symm
        · have a1 := h1.1 y e'
          have a2 := h2.1 x e
          omega
    subst e
    rw [sorted_uniq (List.Perm.cons_inv p) h1.2 h2.2]
def dSortI : D → Option D
  | .lst ds => (intsD ds).map fun ns => .lst ((sortB ltI ns).map D.int)
  | _ => none
theorem rc_sortI {Y : Kn} : RcN Y (rSortedI Y.K) dSortI := by
  intro H F x da d Q s rx e k
  unfold dSortI at e
  split at e
  · obtain ⟨ns, e1, e2⟩ := Option.map_eq_some_iff.mp e
    subst e2
    obtain ⟨p, vs, rfl, h1, r1⟩ := rx.lst s
    have ev := ints_reps r1 e1
    subst ev
    refine ⟨p, ns, rfl, h1, fun ns' q hp hs hq => ?_⟩
    have e3 := sorted_uniq (hp.trans (sortB_perm (lt := ltI) ns).symm) hs (sortI_sorted ns)
    rw [e3]
    exact k q _ F (ext_new s hq) hq (none_of_sub s hq) ⟨_, upd_same, Reps.ints _⟩
  · cases e
def dn_sortI {p : Pos} (hm : X.mg "sorted" = none) (ha : DB X a ta f) (hg : Gl X "sorted" := by rfl) (hs : starEach [a] X.env = (false, eval a X.env) :: starEach [] X.env := by rfl) (hpl : (backTo pos (starEach [] X.env)).any (·.1) = false := by rfl) :=
  (dn_callB cr_sortedI rc_sortI hm (by decide +kernel) ha hg (by decide) (by decide) hs hpl : DN X (.Call (.Name "sorted" p) [a] [] pos) (tCB _ (tCons ta tNil)) (un1 f dSortI))
/-! ### lcm -/
def rLcm : List V → Hp → VK → Prop := fun vs H Q => ∃ a b : Int, vs = [.int a, .int b] ∧ (a.natAbs < 2 ^ 64 ∧ b.natAbs < 2 ^ 64) ∧ Q (.int ((Nat.lcm a.natAbs b.natAbs : Nat) : Int)) H
theorem cr_lcm : CallR X (.builtin "math.lcm") rLcm := by
  intro pins s σ H vs us Q I r h
  obtain ⟨a, b, rfl, ⟨h1, h2⟩, q⟩ := h
  obtain ⟨t, u, rfl⟩ := Vals.int2 r
  exact PySem.W.mc_lcm h1 h2 fun _ => ⟨.int _, H, I.tok _, ⟨_, rfl⟩, q⟩
def dLcm : List D → Option D
  | [.int i, .int j] => if i.natAbs < 2 ^ 64 ∧ j.natAbs < 2 ^ 64 then some (.int ((Nat.lcm i.natAbs j.natAbs : Nat) : Int)) else none
  | _ => none
theorem ra_lcm {Y : Kn} : RaE Y rLcm dLcm := by
  intro H F vs ds d Q s rv e k
  unfold dLcm at e
  split at e
  · split at e
    · rename_i hz
      cases e
      cases rv with
      | cons a b => cases b with
        | cons c d => cases d; cases a; cases c; exact ⟨_, _, rfl, hz, k _ H F (.refl s) (.int _)⟩
    · cases e
  · cases e
theorem de_lcm {p : Pos} {x : Str} {ts : TA} {fs : Reg → Option (List D)} (hm : X.mg x = some (.builtin "math.lcm")) (ha : DA X [a, b] ts fs) (hg : Gl X x := by rfl) (hdb : (x == ("__debug__" : Str)) = false := by decide)
    (hs : starEach [a, b] X.env = (false, eval a X.env) :: starEach [b] X.env := by rfl) (hpl : (backTo pos (starEach [b] X.env)).any (·.1) = false := by rfl) : DE X (.Call (.Name x p) [a, b] [] pos) (tCB rLcm ts) (fnV fs dLcm) := by
  refine ⟨pe_callBfun cr_lcm hg hm ha.p hdb hs hpl, fun σ H F ρ d Q r0 e k => ?_⟩
  obtain ⟨ds, e1, e2⟩ := Option.bind_eq_some_iff.mp e
  exact ha.q σ H F ρ ds _ r0 e1 fun vs H' F' x' rv => ra_lcm H' F' vs ds d Q x'.s rv e2 fun v H2 F2 x2 r2 => k v H2 F2 (x'.trans x2) r2
/-! ### range(i, j, -1) -/
@[irreducible] def rngD (f : Reg → Option (List D)) : Reg → Option (List D) := fun ρ => (f ρ).bind fun
  | [.int i, .int j, .int c] => if c = -1 ∧ -(2 ^ 62) ≤ i ∧ i < 2 ^ 62 ∧ -(2 ^ 62) ≤ j ∧ j < 2 ^ 62 then some (rngC i c (i - j).toNat) else none
  | _ => none
theorem di_rangeD {tg c : Expr} {fs : Reg → Option (List D)} {ts : TA} {p : Pos} (hm : X.mg "range" = none) (ha : DA X [a, b, c] ts fs) (hg : Gl X "range" := by rfl)
    (hs : starEach [a, b, c] X.env = (false, eval a X.env) :: starEach [b, c] X.env := by rfl) (hpl : (backTo pos (starEach [b, c] X.env)).any (·.1) = false := by rfl) : DI X tg (.Call (.Name "range" p) [a, b, c] [] pos) (iRng3 ts) (rngD fs) := by
  refine ⟨pi_range3 hg hm ha.p hs hpl, fun σ H F ρ ds R r q k => ?_⟩
  unfold rngD at q
  obtain ⟨es, e1, e2⟩ := Option.bind_eq_some_iff.mp q
  refine ha.q σ H F ρ es _ r e1 fun vs H' F' x rv => ?_
  split at e2
  · rename_i i j c
    split at e2
    · rename_i hb
      obtain ⟨rfl, hb⟩ := hb
      cases e2
      cases rv with
      | cons a b =>
        cases b with
        | cons c d =>
          cases d with
          | cons d e =>
            cases e
            cases a
            cases c
            cases d
            exact ⟨i, j, _, (i - j).toNat, rfl, RgC.neg hb.1 hb.2.1 hb.2.2.1 hb.2.2.2, k _ H' F' x (wlk_rangeC rfl)⟩
    · cases e2
  · cases e2
/-- hi, hi - 1, .. : n of them -/
def dwnL (hi : Int) (n : Nat) : List D := (List.range n).map fun k => .int (hi - (k : Nat))
theorem dwnL_eq {hi : Int} {n : Nat} : rngC hi (-1) n = dwnL hi n := by
  unfold rngC dwnL
  apply List.map_congr_left
  intro k _
  congr 1
  omega
end
/-! ### reckoning -/
section
variable {gs : Reg → Option (List D)} {i j : Int} {x y : D} {ds es : List D} {ρ : Reg} {f k : Reg → Option D} {N : Reg → Prop} {R : D → Prop} {Bk Ct : Reg → Prop} {n : Nat}
def asK : D → Option (List (DK × D))
  | .dic ds => some ds
  | _ => none
@[simp] theorem asK_d {kvs : List (DK × D)} : asK (.dic kvs) = some kvs := rfl
@[simp] theorem dkD_i : dkD (.int i) = some (.inl i) := rfl
@[simp] theorem dkD_s {l : List Nat} : dkD (.str l) = some (.inr l) := rfl
@[simp] theorem ok_setKeyS : Ok (setKeyS n f k ρ) N R Bk Ct ↔ Ev (f ρ) fun d => Ev (owAt ρ n) fun l => Ev (asK l) fun ds => Ev (k ρ) fun y => Ev (dkD y) fun z => ds.length < sizeLine ∧ N (ρ.set n (.ow (.dic (putDK ds z d)))) := by
  unfold setKeyS
  cases f ρ with
  | none => simp
  | some d =>
    cases owAt ρ n with
    | none => simp
    | some l =>
      cases k ρ with
      | none => cases l <;> simp [asK]
      | some z =>
        cases l <;> simp [asK]
        cases dkD z with
        | none => simp
        | some w =>
          rename_i kvs
          by_cases h : kvs.length < sizeLine <;> simp [h]
@[simp] theorem ev_rngD {K : List D → Prop} : Ev (rngD gs ρ) K ↔ Ev (gs ρ) fun xs => Ev (three3 xs) fun z => (z.2.2 = -1 ∧ -(2 ^ 62) ≤ z.1 ∧ z.1 < 2 ^ 62 ∧ -(2 ^ 62) ≤ z.2.1 ∧ z.2.1 < 2 ^ 62) ∧ K (dwnL z.1 (z.1 - z.2.1).toNat) := by
  unfold rngD
  cases gs ρ with
  | none => simp
  | some xs =>
    simp only [Option.bind_some, ev_some]
    split
    · rename_i z w c
      simp only [three3, ev_some, ev_guard]
      constructor
      · rintro ⟨⟨rfl, h⟩, k⟩
        rw [dwnL_eq] at k
        exact ⟨⟨rfl, h⟩, k⟩
      · rintro ⟨⟨rfl, h⟩, k⟩
        rw [dwnL_eq]
        exact ⟨⟨rfl, h⟩, k⟩
    · rename_i h0
      have : three3 xs = none := by
        unfold three3
        split
        · rename_i z w c; exact absurd rfl (h0 z w c)
        · rfl
      rw [this]
      simp
theorem ok_down {B : Reg → Out} {g : D → Reg → Option Reg} {hi : Int} {n : Nat} (I : Nat → Reg → Prop) (h : I 0 ρ)
    (st : ∀ (j : Nat) (ρ : Reg), j < n → I j ρ → ∃ ρ1, g (.int (hi - (j : Nat))) ρ = some ρ1 ∧ Ok (B ρ1) (I (j + 1)) R N (I (j + 1))) (hN : ∀ ρ, I n ρ → N ρ) : Ok (loopD g B (dwnL hi n) ρ) N R Bk Ct := by
  refine ok_each (fun k : Nat => D.int (hi - (k : Nat))) (List.range n) I h (fun j x ρ e hj => ?_) fun ρ h => hN ρ (by rw [List.length_range] at h; exact h)
  obtain ⟨hk, hk'⟩ := List.getElem?_eq_some_iff.mp e
  have hk2 : x = j := by simpa using hk'.symm
  subst hk2
  exact st x ρ (by simpa using hk) hj
/-- a while, the turns that may still come counted by an index -/
theorem ok_whileI {p : Reg → Option Bool} {B : Reg → Out} (I : Nat → Reg → Prop) : ∀ (fuel i : Nat) (ρ : Reg), I i ρ → i < fuel →
    (∀ i ρ, I i ρ → ∃ b, p ρ = some b ∧ (b = true → ∃ i', i = i' + 1 ∧ Ok (B ρ) (I i') R N (I i')) ∧ (b = false → N ρ)) → Ok (whileD p B fuel ρ) N R Bk Ct
  | 0, i, ρ, _, hi, _ => absurd hi (Nat.not_lt_zero _)
  | n + 1, i, ρ, h, hi, st => by
    obtain ⟨b, e, h1, h2⟩ := st i ρ h
    unfold whileD
    rw [e]
    cases b with
    | false => exact h2 rfl
    | true =>
      obtain ⟨i', rfl, h3⟩ := h1 rfl
      dsimp only
      cases e : B ρ with
      | nx ρ2 => rw [e] at h3; exact ok_whileI I n i' ρ2 h3 (by omega) st
      | ct ρ2 => rw [e] at h3; exact ok_whileI I n i' ρ2 h3 (by omega) st
      | bk ρ2 => rw [e] at h3; exact h3
      | rt d => rw [e] at h3; exact h3
      | bad => rw [e] at h3; exact h3.elim
@[simp] theorem dRev_l : dRev (.lst ds) = some (.lst ds.reverse) := rfl
@[simp] theorem dSortI_l {ns : List Int} : dSortI (.lst (ns.map D.int)) = some (.lst ((sortB ltI ns).map D.int)) := by
  unfold dSortI
  dsimp only
  rw [ints_map]
  rfl
@[simp] theorem dMinL_l {ns : List Int} : dMinL (.lst (ns.map D.int)) = (leastI ns).map D.int := by
  unfold dMinL
  dsimp only
  rw [ints_map]
  rfl
@[simp] theorem dMaxL_l {ns : List Int} : dMaxL (.lst (ns.map D.int)) = (greatI ns).map D.int := by
  unfold dMaxL
  dsimp only
  rw [ints_map]
  rfl
@[simp] theorem dLcm_ii : dLcm [.int i, .int j] = if i.natAbs < 2 ^ 64 ∧ j.natAbs < 2 ^ 64 then some (.int ((Nat.lcm i.natAbs j.natAbs : Nat) : Int)) else none := rfl
/-! ### blocks that raise -/
/-- the block before ends, and then it raises -/
def thenX (A : Reg → Out) (p : Reg → Option Bool) : Reg → Option Bool := fun ρ => match A ρ with
  | .nx ρ' => p ρ'
  | _ => none
def callX (x : List D → Option Bool) (fs : Reg → Option (List D)) : Reg → Option Bool := fun ρ => (fs ρ).bind x
/-- a call that raises, caught: what is handed back then -/
def tryS (x : List D → Option Bool) (fs : Reg → Option (List D)) (d : D) : Reg → Out := fun ρ => match callX x fs ρ with
  | some true => .rt d
  | _ => .bad
theorem look_put {kvs : List (DK × D)} {k j : DK} {d : D} : lookD j (putDK kvs k d) = if k = j then some d else lookD j kvs := by
  unfold putDK
  split
  · rename_i h
    induction kvs with
    | nil => simp at h
    | cons kv kvs ih =>
      obtain ⟨k0, d0⟩ := kv
      rw [List.map_cons]
      by_cases hk : k0 = k
      · subst hk
        rw [if_pos rfl]
        by_cases hj : k0 = j
        · subst hj; simp [lookD]
        · rw [if_neg hj]
          unfold lookD
          rw [if_neg hj, if_neg hj]
          clear ih h
          induction kvs with
          | nil => rfl
          | cons kv kvs ih =>
            obtain ⟨k1, d1⟩ := kv
            rw [List.map_cons]
            by_cases h1 : k1 = k0
            · subst h1
              rw [if_pos rfl]
              unfold lookD
              rw [if_neg hj, if_neg hj]
              exact ih
            · rw [if_neg h1]
              unfold lookD
              rw [ih]
      · rw [if_neg hk]
        have h2 : (kvs.any fun kv => decide (kv.1 = k)) = true := by
          rw [List.any_cons] at h
          simpa [hk] using h
        by_cases hj : k0 = j
        · subst hj
          rw [if_neg (fun z => hk z.symm)]
          simp [lookD]
        · unfold lookD
          rw [if_neg hj, if_neg hj]
          exact ih h2
  · rename_i h
    induction kvs with
    | nil => simp [lookD]
    | cons kv kvs ih =>
      obtain ⟨k0, d0⟩ := kv
      rw [List.any_cons] at h
      simp only [Bool.or_eq_true, decide_eq_true_eq, not_or] at h
      rw [List.cons_append]
      by_cases hj : k0 = j
      · subst hj
        rw [if_neg (fun z => h.1 z.symm)]
        simp [lookD]
      · unfold lookD
        rw [if_neg hj, if_neg hj]
        exact ih h.2
theorem put_len {kvs : List (DK × D)} {k : DK} {d : D} : (putDK kvs k d).length ≤ kvs.length + 1 := by
  unfold putDK
  split
  · rw [List.length_map]; omega
  · simp
end
end DL

/-! DL: enumerate of a tuple. -/
namespace PySem
open PySem.Spec PyProof.Rows PySem.W
set_option maxHeartbeats 1000000 in
theorem meets_enumerate_newB1 {v : Value} {o : Obj} {H : Heap → Prop} (B : Begins v o H) :
    Meets (Builtin.«enumerate.__new__» ⟨[.type "enumerate", v], []⟩) (fun _ R s => H s.heap ∧
      R (.ok (.ret (.ref (s.heap.push o).objs.size))) { s with heap := (s.heap.push o).push { cls := .type "enumerate", data := .fields #[.none, .bool false, .ref s.heap.objs.size, rawInt 0, .none, .none] } }) :=
  .of_wp fun prog w A R s h => by
    obtain ⟨hp, g, d, tk, os⟩ := s; obtain ⟨h1, h⟩ := h
    have hsub := sub_enumerate
    have q1 : ∀ {A' : Around} {E : Value → Shared → Prop} {Q : Value → Shared → Prop}, Q (.ref hp.objs.size) ⟨hp.push o, g, d, tk, os⟩ → wpAny (model prog w) A' (pyIter v) Q E ⟨hp, g, d, tk, os⟩ :=
      fun q => B.iter prog w _ _ ⟨hp, g, d, tk, os⟩ _ h1 q
    wp_walk using q1
    refine wpAny_stack_any fun st => wpAny_pure ?_
    split
    · rename_i c _ _ _ _ _
      cases (c == Value.type "enumerate")
      · wp_walk using q1
        exact ⟨_, rfl, h⟩
      · wp_walk using q1
        exact ⟨_, rfl, h⟩
    · wp_walk using q1
      exact ⟨_, rfl, h⟩
theorem enum_begins1 {prog : Program} {w : World} {A : Around} {E : Value → Shared → Prop} {s : Shared} {v : Value} {o : Obj} {H : Heap → Prop} {Q : Value → Shared → Prop} (B : Begins v o H) (h1 : H s.heap)
    (h : ∀ h', IsEnum h' (s.heap.objs.size + 1) s.heap.objs.size 0 .none → h'.get? s.heap.objs.size = some o → h'.objs.size = s.heap.objs.size + 2 →
      (∀ b o, s.heap.get? b = some o → h'.get? b = some o) → Q (.ref (s.heap.objs.size + 1)) { s with heap := h' }) :
    wpAny (model prog w) A (call (.type "enumerate") [v]) Q E s := by
  refine callType_new F.called_enumerate (by decide) (F.typeCall_enumerate_1 _) (F.newCall_enumerate_1 _) (fun obj => F.args_object_init_2 obj _) F.entry_enumerate_new
    (meets_enumerate_newB1 B) ⟨h1, ?_⟩
  have hz : (s.heap.push o).objs.size = s.heap.objs.size + 1 := Heap.size_push ..
  show _ ∧ _
  rw [hz]
  have he : IsEnum ((s.heap.push o).push { cls := .type "enumerate", data := .fields #[.none, .bool false, .ref s.heap.objs.size, rawInt 0, .none, .none] }) (s.heap.objs.size + 1) s.heap.objs.size 0 .none := by
    have := Heap.get?_push_size (s.heap.push o) (o := { cls := .type "enumerate", data := .fields #[.none, .bool false, .ref s.heap.objs.size, rawInt 0, .none, .none] }) rfl
    rw [hz] at this; exact this
  refine ⟨⟨_, he, rfl⟩, h _ he (Heap.get?_push_of_some _ (Heap.get?_push_size _ B.free)) (by rw [Heap.size_push, hz]) fun b o x => Heap.get?_push_of_some _ (Heap.get?_push_of_some _ x)⟩
theorem wpAny_pyNext_enum_endT {prog : Program} {w : World} {A : Around} {E : Value → Shared → Prop} {s : Shared} {e it t : Addr} {items : Array Value} {i : Nat} {c : Int} {old : Value} {Q : Option Value → Shared → Prop}
    (hh : A.handled = none) (he : IsEnum s.heap e it c old) (hit : s.heap.IsTupleIter it t i) (ht : s.heap.IsTuple t items) (hx : items[i]? = none)
    (hQ : ∀ h', Heap.ExtBut it s.heap h' → Q none { s with heap := h' }) : wpAny (model prog w) A (pyNext (.ref e)) Q E s := by
  have hT : s.TypeIs (.ref e) "enumerate" := ⟨_, he, rfl⟩
  unfold pyNext
  refine wpAny_bind (wpAny_attempt (wpAny_callSpecial?_slot (name := Str.ofString "__next__") hT F.slot_enumerate_next
    (wpAny_call_entry F.slot_enumerate_next hT F.entry_enumerate_next ?_ (F.args_enumerate_next_1 _))))
  show wpAny _ _ (field (.ref e) 2 >>= _) _ _ _
  refine wpAny_bind (wpAny_field he rfl (x := .ref it) rfl ?_)
  refine wpAny_bind (wpAny_nextOf_tuple_end (show A.in1.handled = none from hh) hit ht hx fun h' x he' hx' => ?_)
  obtain ⟨o, ho, hc⟩ := hx'
  refine wpAny_bind (wpAny_isInstance (T := "StopIteration") (b := true) ⟨o, ho, hc⟩ isSubtype_stop ?_)
  exact wpAny_pure (hQ _ he')
end PySem
namespace DL
open PySem PySem.Spec PyProof.Rows L2
theorem tup_isTuple {h : Heap} {a : Addr} {its : Array Value} (x : IsTup h a its) : h.IsTuple a its := by
  obtain ⟨o, ho, hc, n, hd⟩ := x
  exact ⟨o, ho, hc, n, hd⟩
/-- the tuple at a, each item in a new pair -/
def IteT (K : PySem.W.Frag) (a : Addr) : It :=
  ⟨fun i H => ∃ (xs : List V) (x : V), SqT K H a xs ∧ xs[i]? = some x, fun i H v H' => ∃ T x, v = .ref T ∧ H T = none ∧ H' = upd H T (.tup [.int (i : Nat), x]) ∧ ∀ xs, SqT K H a xs → xs[i]? = some x, fun i H => ∃ xs : List V, SqT K H a xs ∧ xs.length ≤ i⟩
theorem turn_enumT {P : Program} {w : World} {K : PySem.W.Frag} {elts : List Expr} {kk : Nat} {tpos : Pos} (a e it : Addr) :
    Turn P w K (.Tuple elts kk tpos) (IteT K a) [e, it] e (fun i h => (∃ old, IsEnum h e it ((i : Nat) : Int) old) ∧ h.IsTupleIter it a i ∧ e ≠ it ∧ e ≠ a ∧ a ≠ it) where
  mem := by simp
  obj := fun i h st b hb => by
    obtain ⟨⟨old, he⟩, ⟨o, ho, hc, hd⟩, _⟩ := st
    have e' : b = e ∨ b = it := by simpa using hb
    rcases e' with z | z
    · rw [z]; exact ⟨_, he, fun v q => nomatch q⟩
    · rw [z]; exact ⟨o, ho, fun v q => by rw [hd] at q; cases q⟩
  keep := fun i h h' st k => let ⟨⟨old, he⟩, hi, hne⟩ := st; ⟨⟨old, k e (by simp) _ he⟩, hi.at fun o q => k it (by simp) o q, hne⟩
  item := by
    intro X hP hw hK hc i pins s σ H E I hf st hg
    subst hP hw hK
    obtain ⟨⟨old, he⟩, hit, hne, hea, hai⟩ := st
    obtain ⟨xs, x, hq, hx⟩ := hg
    obtain ⟨its, rv, p, hz⟩ := I.tuple hq
    obtain ⟨u, hu, ru⟩ := rv.get hx
    have hel : e < s.heap.objs.size := Heap.lt_size he
    have hil : it < s.heap.objs.size := by obtain ⟨_, q, _⟩ := hit; exact Heap.lt_size q
    have hu' : its.toArray[i]? = some u := by simpa using hu
    have hlt : i < its.toArray.size := (Array.getElem?_eq_some_iff.mp hu').1
    refine wpAny_pyNext_enum_itemD (Draws.tuple (show X.A.in1.handled = none from I.ok.hd hc) it a hai its.toArray) he ⟨hit, tup_isTuple p⟩ hlt hne (by simp [hne, hea]) fun y h' tk hy ho hit' hT hsz hk => ?_
    have ey : y = u := Option.some.inj (hy.symm.trans hu')
    subst ey
    refine ⟨_, rfl, wpAny_letOwnedTupleGo_enum (s := { s with heap := h', toks := tk + 1 }) ho fun h'' he' sb => ?_⟩
    have hT2 : h''.get? s.heap.objs.size = some { cls := .type "tuple", data := .seq #[.int i tk, y] } := (sb.2 _ (Nat.ne_of_gt hel)).trans hT
    have new : ObjOk X.prog X.w (upd H s.heap.objs.size (.tup [.int (i : Nat), x])) h'' s.heap.objs.size (.tup [.int (i : Nat), x]) :=
      ⟨by show 2 ≤ sizeLine; decide, [.int i tk, y], .cons ⟨_, rfl⟩ (.cons ru .nil), ⟨_, hT2, rfl, _, rfl⟩⟩
    have I1 : Inv X pins σ (upd H s.heap.objs.size (.tup [.int (i : Nat), x])) { s with heap := h'', toks := tk + 1 } :=
      I.turnedNew (ch := [e, it]) (fun b ob hb q => (sb.2 b (fun z => hb (by simp [z]))).trans (hk b ob (fun z => hb (by simp [z])) (fun z => hb (by simp [z])) q)) hf (Nat.le_refl _) new
    refine ⟨.ref s.heap.objs.size, _, I1, rfl, ⟨_, x, rfl, I.hok.fresh (Nat.le_refl _), rfl, fun ys hy => by rw [I.tuple_inj hy hq]; exact hx⟩, ⟨⟨y, ?_⟩, hit'.1.at fun o q => (sb.2 it (Ne.symm hne)).trans q, hne, hea, hai⟩, fun b hb => ?_⟩
    · have e1 : ((i + 1 : Nat) : Int) = (i : Int) + 1 := by omega
      rw [e1]; exact he'
    · have hb' : b < s.heap.objs.size := by
        have e' : b = e ∨ b = it := by simpa using hb
        rcases e' with z | z
        · rw [z]; exact hel
        · rw [z]; exact hil
      rw [upd_ne (Nat.ne_of_lt hb')]
      exact (hf b hb).1
  done := by
    intro X hP hw hK hc i pins s σ H E I hf st hg
    subst hP hw hK
    obtain ⟨⟨old, he⟩, hit, hne, hea, hai⟩ := st
    obtain ⟨xs, hq, hx⟩ := hg
    obtain ⟨its, rv, p, hz⟩ := I.tuple hq
    obtain ⟨f0, f1, f2, f3, f4, f5⟩ := hf it (by simp)
    have hl := rv.length
    have hsz : its.toArray[i]? = none := by simp; omega
    refine wpAny_pyNext_enum_endT (I.ok.hd hc) he hit (tup_isTuple p) hsz fun h' eb => ⟨rfl, I.turned (t' := s.toks) (fun b o hb q => eb b o hb q) f0 f1 f3 f4 f5⟩
  self := fun A i s Q E st h => let ⟨⟨_, he⟩, _⟩ := st; wpAny_pyIter_enum he h
def iEnumT (K : PySem.W.Frag) (ta : TA) : TI := fun σ H R => ta σ H fun vs H1 => ∃ a xs, vs = [.ref a] ∧ SqT K H1 a xs ∧ R (IteT K a) H1
theorem pi_enumT {X : Cx} {e : Expr} {ta : TA} {p pos tpos : Pos} {elts : List Expr} {kk : Nat} (hg : Gl X "enumerate") (hm : X.mg "enumerate" = none) (ha : PA X [e] ta) (hs : starEach [e] X.env = [(false, eval e X.env)] := by rfl) :
    PI X (.Tuple elts kk tpos) (.Call (.Name "enumerate" p) [e] [] pos) (iEnumT X.K ta) := by
  refine ⟨fun pins s σ H R I h => ?_⟩
  refine Call_ (ld_blt I hg hm boot_enumerate (PyProof.Rows.callWith_type1 (thn (ha.run pos pins s σ H _ I h) fun us s1 ⟨vs, H1, I1, r1, q1⟩ => ?_) hs rfl))
  obtain ⟨a, xs, ex, hq, q⟩ := q1
  subst ex
  cases r1 with
  | cons r rr =>
    cases rr
    cases r
    obtain ⟨its, rv, p', hz⟩ := I1.tuple hq
    refine enum_begins1 (begins_tuple a its.toArray) (tup_isTuple p') fun h' he hit hsz hk => wpAny_pyIter_enum he ?_
    have I2 : Inv X pins σ H1 { s1 with heap := h' } := I1.kept (t' := s1.toks) hk
    have hal : a < s1.heap.objs.size := by obtain ⟨_, q, _⟩ := p'; exact Heap.lt_size q
    refine ⟨s1.heap.objs.size + 1, [s1.heap.objs.size + 1, s1.heap.objs.size], _, _, H1, rfl, I2, turn_enumT a (s1.heap.objs.size + 1) s1.heap.objs.size, ⟨⟨.none, he⟩, ⟨_, hit, rfl, rfl⟩, Nat.succ_ne_self _, Nat.ne_of_gt (Nat.lt_succ_of_lt hal), Nat.ne_of_lt hal⟩, fun b hb => ?_, q⟩
    have e' : b = s1.heap.objs.size + 1 ∨ b = s1.heap.objs.size := by simpa using hb
    have hle : s1.heap.objs.size ≤ b := by
      rcases e' with z | z
      · rw [z]; exact Nat.le_add_right _ _
      · rw [z]; exact Nat.le_refl _
    exact I1.fpOk hle (I1.hok.fresh hle)
def enumT (fs : Reg → Option (List D)) : Reg → Option (List D) := fun ρ => (fs ρ).bind fun
  | [.tup xs] => some (enumD 0 xs)
  | _ => none
theorem wlk_enumT {Y : Kn} {a : Addr} {F1 : Hp} {xs : List V} {ds : List D} (h1 : SqT Y.K F1 a xs) (r1 : Reps Y F1 xs ds) : Wlk Y (IteT Y.K a) F1 (enumD 0 ds) := by
  have l1 := r1.length
  refine ⟨fun i H F hi s1 s2 => ?_, fun H F s1 s2 => ?_, fun i H F x H' d e s1 s2 y => ?_⟩
  · rw [enumD_len] at hi
    have i1 : i < xs.length := by omega
    exact ⟨xs, xs[i], sqT_sub (s1.trans s2) h1, by simp [i1]⟩
  · exact ⟨xs, sqT_sub (s1.trans s2) h1, by rw [enumD_len]; omega⟩
  · obtain ⟨T, u, rfl, hT, rfl, k1⟩ := y
    obtain ⟨x, e1, rfl⟩ := enumD_at e
    obtain ⟨u', eu, ru⟩ := r1.get e1
    have z1 := k1 xs (sqT_sub (s1.trans s2) h1)
    rw [eu] at z1
    cases z1
    have x2 := ext_newF (o := .tup [.int ((i : Nat) : Int), u]) s2 hT
    refine ⟨_, x2, .tup (.inl (.inl upd_same)) (.cons ?_ (.cons ((ru.mono s1).mono x2.f) .nil))⟩
    rw [Nat.zero_add]
    exact .int _
theorem di_enumT {X : Cx} {pos : Pos} {a : Expr} {elts : List Expr} {kk : Nat} {tpos : Pos} {fs : Reg → Option (List D)} {ts : TA} {p : Pos} (hm : X.mg "enumerate" = none) (ha : DA X [a] ts fs) (hg : Gl X "enumerate" := by rfl)
    (hs : starEach [a] X.env = [(false, eval a X.env)] := by rfl) : DI X (.Tuple elts kk tpos) (.Call (.Name "enumerate" p) [a] [] pos) (iEnumT X.K ts) (enumT fs) := by
  refine ⟨pi_enumT hg hm ha.p hs, fun σ H F ρ ds R r q k => ?_⟩
  obtain ⟨es, e1, e2⟩ := Option.bind_eq_some_iff.mp q
  refine ha.q σ H F ρ es _ r e1 fun vs H' F' x rv => ?_
  split at e2
  · cases e2
    cases rv with
    | cons a b =>
      cases b
      cases a with
      | tup h1 r1 => exact ⟨_, _, rfl, sqT_sub x.s h1, k _ H' F' x (wlk_enumT h1 r1)⟩
  · cases e2
def oneT : List D → Option (List D)
  | [.tup xs] => some xs
  | _ => none
@[simp] theorem oneT_l {ds : List D} : oneT [.tup ds] = some ds := rfl
@[simp] theorem ev_enumT {gs : Reg → Option (List D)} {ρ : Reg} {K : List D → Prop} : Ev (enumT gs ρ) K ↔ Ev (gs ρ) fun xs => Ev (oneT xs) fun ds => K (enumD 0 ds) := by
  unfold enumT
  cases gs ρ with
  | none => simp
  | some xs =>
    simp only [Option.bind_some, ev_some]
    split
    · simp [oneT]
    · rename_i h0
      have : oneT xs = none := by
        unfold oneT
        split
        · rename_i z; exact absurd rfl (h0 z)
        · rfl
      rw [this]
      simp
end DL

/-! DL, what raises: blocks that raise an own error, defs that raise, a call that raises and is caught. -/
namespace DL
open PySem PySem.Spec PyProof.Rows L2
theorem thenX_of {A : Reg → Out} {p : Reg → Option Bool} {ρ : Reg} {b : Option Bool} (h : Ok (A ρ) (fun ρ' => p ρ' = b) (fun _ => False) (fun _ => False) (fun _ => False)) : thenX A p ρ = b := by
  unfold thenX
  cases e : A ρ with
  | nx ρ' => rw [e] at h; exact h
  | rt d => rw [e] at h; exact h.elim
  | bk ρ' => rw [e] at h; exact h.elim
  | ct ρ' => rw [e] at h; exact h.elim
  | bad => rw [e] at h; exact h.elim
theorem callX_of {x : List D → Option Bool} {fs : Reg → Option (List D)} {ρ : Reg} {b : Bool} (h : Ev (fs ρ) fun ds => x ds = some b) : callX x fs ρ = some b := by
  obtain ⟨ds, e, h⟩ := h
  unfold callX
  rw [e]
  exact h
theorem thenX_sq {A B : Reg → Out} {p : Reg → Option Bool} : thenX (sq A B) p = thenX A (thenX B p) := by
  funext ρ
  unfold thenX sq
  cases e : A ρ with
  | nx ρ' => rfl
  | rt d => rfl
  | bk ρ' => rfl
  | ct ρ' => rfl
  | bad => rfl
/-- .. the error is held by slot i -/
def tryI (i : Nat) (x : List D → Option Bool) (fs : Reg → Option (List D)) (d : D) : Reg → Out := fun ρ => if i < ρ.length then tryS x fs d ρ else .bad
@[simp] theorem ok_tryS {x : List D → Option Bool} {fs : Reg → Option (List D)} {d : D} {ρ : Reg} {N : Reg → Prop} {R : D → Prop} {Bk Ct : Reg → Prop} : Ok (tryS x fs d ρ) N R Bk Ct ↔ Ev (fs ρ) fun ds => x ds = some true ∧ R d := by
  unfold tryS callX
  cases fs ρ with
  | none => simp
  | some ds =>
    simp only [Option.bind_some, ev_some]
    cases x ds with
    | none => simp
    | some b => cases b <;> simp
@[simp] theorem ok_tryI {i : Nat} {x : List D → Option Bool} {fs : Reg → Option (List D)} {d : D} {ρ : Reg} {N : Reg → Prop} {R : D → Prop} {Bk Ct : Reg → Prop} : Ok (tryI i x fs d ρ) N R Bk Ct ↔ i < ρ.length ∧ Ev (fs ρ) fun ds => x ds = some true ∧ R d := by
  unfold tryI
  by_cases h : i < ρ.length
  · rw [if_pos h, ok_tryS]
    exact ⟨fun z => ⟨h, z⟩, fun z => z.2⟩
  · rw [if_neg h]
    exact ⟨fun z => z.elim, fun z => absurd z.1 h⟩

/-! ### an own error class -/
structure OwnX (K : PySem.W.Frag) (mg : Str → Option Value) (cn : Str) (C : Addr) : Prop where
  g : mg cn = some (.ref C)
  x : PySem.W.excIn K C [.type "ValueError", .type "Exception", .type "BaseException", .type "object"] "ValueError.__new__" = true
  k : PySem.W.keepIn K (.ref C) = true
  b : PySem.W.subIn K (.ref C) (.type "BaseException") = some true
  t : PySem.W.typeIn K (.ref C) = some (.type "type")
  e : PySem.W.exmOne K (.ref C) (.ref C) = some true
  i : ExcC K C
/-- X() -/
theorem pmk_own0 {X : Cx} {C : Addr} {bmB : List Value} {B newId initId : String} {x : Str} {p pos : Pos} (F : ExcBaseFacts B newId initId bmB) (q : PySem.W.excIn X.K C bmB newId = true) (gC : X.mg x = some (.ref C)) (kC : PySem.W.keepIn X.K (.ref C) = true) (r : Raises X (.ref C)) (hg : Gl X x)
    (hdb : (x == ("__debug__" : Str)) = false := by decide) : PMk X (.Call (.Name x p) [] [] pos) (fun _ H Q => Q (.ref C) none H) := by
  intro pins s σ H Q I h
  refine wpAny_Call_Name_kw (ld_glob I hg gC ?_ hdb)
  refine PySem.W.callWith_K0 I.kIn kC ?_
  show wpAny _ _ (call (.ref C) []) _ _ _
  obtain ⟨bm, N, nm, qn, bs, hdct, sn, sub, ab, col, dd, k0, k1, k2, k3, k5, mN, hC, hN, hni, T⟩ := exc_obj I.kIn q
  refine wpAny_call_exc_subT F T hC hN hni (fun h' e hm => ?_) (by show 0 ≤ sizeLine; omega)
  exact mk_of I hm r h (I.hok.gone hm.new)

/-! ### blocks that raise -/
/-- from slots of which p holds the block raises C -/
structure XSs (X : Cx) (E : XK) (C : Addr) (sts : List Stmt) (t : TS) (c : Reg → Option Bool) : Prop where
  p : PSs X sts t
  q : ∀ (σ : L2.St) (H F : Hp) (ρ : Reg) (H0 F0 : Hp) (D : Ends), RS (kn X) H0 F0 H F σ ρ → c ρ = some true → (∀ H' F', Ext H0 F0 H' F' → E (.ref C) none H') → t D σ H
section
variable {X : Cx} {E : XK} {C : Addr} {st : Stmt} {rest : List Stmt} {t u : TS} {A : Reg → Out} {p p' : Reg → Option Bool} {pos : Pos}
theorem xs_eq (e : p' = p) (h : XSs X E C rest t p) : XSs X E C rest t p' := e ▸ h
theorem xs_pre (h1 : DS X st t A) (h2 : XSs X E C rest u p) : XSs X E C (st :: rest) (tSeq t u) (thenX A p) := by
  refine ⟨pss_cons h1.p h2.p, fun σ H F ρ H0 F0 D s e k => h1.q σ H F ρ H0 F0 _ s ?_⟩
  unfold thenX at e
  cases q : A ρ with
  | nx ρ' => rw [q] at e; exact fun σ' H' F' s' => h2.q σ' H' F' ρ' H0 F0 D s' e k
  | rt d => rw [q] at e; cases e
  | bk ρ' => rw [q] at e; cases e
  | ct ρ' => rw [q] at e; cases e
  | bad => rw [q] at e; cases e
/-- if c: raise X() -/
theorem xs_if {c : Expr} {tc : TT} {x : Str} {cp rp : Pos} {np : Pos} (hc : X.calm = true) (tk : Takes X (fun cls d _ H => E cls d H)) (O : OwnX X.K X.mg x C) (hg : Gl X x) (h : DT X c tc p) (hdb : (x == ("__debug__" : Str)) = false := by decide) :
    XSs X E C (.If c [.Raise (some (.Call (.Name x np) [] [] cp)) none rp] [] pos :: rest) (tSeq (tIfS tc (fun _ σ H => E (.ref C) none H) tNext) tNever) p := by
  refine ⟨pss_cons (ps_if h.p (pss_one (ps_raise hc tk (pmk_own0 PySem.F.excBase_ValueError O.x O.g O.k (raises_own O.b O.t) hg hdb))) pss_nil) pss_never, fun σ H F ρ H0 F0 D s e k => ?_⟩
  exact h.q σ H F ρ true _ s.r e fun H' F' x => iteT (k H' F' (s.x.trans x))
/-- what a def that raises promises -/
def spX (Y : Kn) (n : Nat) (xm : List D → Option Bool) (C : Addr) : Sp := fun vs H _ E => ∃ (F : Hp) (ds : List D), Sub F H ∧ Reps Y F vs ds ∧ ds.length = n ∧ xm ds = some true ∧ ∀ H' F', Ext H F H' F' → E (.ref C) none H'
def NameX (P : Program) (w : World) (K : PySem.W.Frag) (mg : Str → Option Value) (base : Heap) (k : Nat) (x : Str) (n : Nat) (xm : List D → Option Bool) (C : Addr) : Prop :=
  ∃ f fd ps, FnOk P w K mg base (L2.CX P w) k f fd ps (spX ⟨K, mg⟩ n xm C) ∧ mg x = some (.ref f) ∧ PySem.W.keepIn K (.ref f) = true ∧ Binds K fd ps []
theorem nameX_data {P : Program} {w : World} {K : PySem.W.Frag} {mg : Str → Option Value} {base : Heap} {x : Str} {st : Stmt} {N ps : List Str} {k : Nat} {xm : List D → Option Bool} (h : Here K mg x st ps) (sc : FnScope N ps (defScope st)) (hm : ∀ ds, ds.length = ps.length → xm ds = some true → p (startR N.length ds) = some true)
    (hB : ∀ (f : Addr) (cdv : Value) (A : Around) (outer : List PySem.Env) (s : Shared) (H : Hp) (E : XK), Room k (A.deeper (envOfC x (defScope st) s.heap.objs.size f cdv)) → ∃ t, XSs (cxOf (L2.CX P w) P w K mg base N x (defScope st) f cdv A outer s H E) E C (defBody st) t p) :
    NameX P w K mg base (k + 1) x ps.length xm C := by
  obtain ⟨f, fd, F, hg, hb⟩ := h
  refine ⟨f, fd, ps, F.okX sc (fun vs H Q E h => ?_) (fun cdv A outer s H vs Q E hr h => ?_), hg, F.kp, hb⟩
  · obtain ⟨F0, ds, _, r, hl, _⟩ := h
    rw [r.length, hl]
  · obtain ⟨F0, ds, s0, r, hl, e, kq⟩ := h
    obtain ⟨t, ht⟩ := hB f cdv A outer s H E hr
    refine ⟨t, ht.p, ht.q _ H F0 (startR N.length ds) H F0 _ ⟨start_r0 s0 r, .refl s0, fun i d a h => ?_⟩ (hm ds hl e) kq⟩
    have q := h
    unfold startR at q
    by_cases hi : i < ds.length
    · rw [List.getElem?_append_left (by simpa using hi), List.getElem?_map, List.getElem?_eq_getElem hi] at q
      cases q
    · rw [List.getElem?_append_right (by simpa using hi), List.getElem?_replicate] at q
      split at q <;> cases q
/-- a, b = f(e, ..), f raises -/
theorem xs_asg {P : Program} {w : World} {K : PySem.W.Frag} {mg : Str → Option Value} {base : Heap} {x : Str} {j n k : Nat} {xm : List D → Option Bool} {tg e : Expr} {es : List Expr} {np cp : Pos} {ta : TA} {fs : Reg → Option (List D)} {g : TG} {h : D → Reg → Option Reg} {is : List Nat}
    (G : NameX P w K mg base j x n xm C) (hr : Room k X.A) (tk : Takes X (fun cls d _ H => E cls d H)) (ha : DA X (e :: es) ta fs) (hgt : DG X tg g h is) (hj : j ≤ k := by decide) (hn : (e :: es).length = n := by rfl) (hg : Gl X x := by rfl) (hdb : (x == ("__debug__" : Str)) = false := by decide)
    (he : starEach (e :: es) X.env = (false, eval e X.env) :: starEach es X.env := by rfl) (hpl : (backTo cp (starEach es X.env)).any (·.1) = false := by rfl)
    (hs : swapsWithSole [tg] (.Call (.Name x np) (e :: es) [] cp) pos.line X.env = pure false := by rfl) (hw : swappedStores [tg] (.Call (.Name x np) (e :: es) [] cp) X.env = pure none := by rfl)
    (h1 : (assignEach [tg] X.env).map (·.2) = [assign tg X.env] := by rfl)
    (hP : X.prog = P := by rfl) (hwd : X.w = w := by rfl) (hK : X.K = K := by rfl) (hmg : X.mg = mg := by rfl) (hbs : X.base = base := by rfl) :
    XSs X E C (.Assign [tg] (.Call (.Name x np) (e :: es) [] cp) pos :: rest) (tSeq (tAsg (tCallS (spX ⟨K, mg⟩ n xm C) (WE fun cls d _ H => E cls d H) ta) g) tNever) (callX xm fs) := by
  subst hP hwd hK hmg hbs
  obtain ⟨f, fd, ps, G1, G2, G3, G4⟩ := G
  refine ⟨pss_cons (ps_asg (pe_callS G1 (hr.mono hj) hg G2 G3 G4 (fun σ => passAt tk σ) ha.p hdb he hpl) hgt.p hs hw h1) pss_never, fun σ H F ρ H0 F0 D s e kq => ?_⟩
  unfold callX at e
  obtain ⟨ds, e1, e2⟩ := Option.bind_eq_some_iff.mp e
  exact ha.q σ H F ρ ds _ s.r e1 fun vs H' F' x' r' => ⟨F', ds, x'.s, r', (ha.len ρ ds e1).trans hn, e2, fun H2 F2 x2 => kq H2 F2 ((s.x.trans x').trans x2)⟩
end

/-! ### a call that raises, caught -/
section
variable {X : Cx} {C : Addr}
/-- isinstance(n, c), n the error that is held -/
theorem pe_isHeld {a : Addr} {oe : Obj} {pn : List (Addr × Obj)} {c n : Str} {W : Addr} {i : Nat} {p px pn' pos : Pos} (I : ExcC X.K C) (hz : Zc (.ref C) none oe) (hf : ∃ vs, oe.data = .fields vs) (hm : X.mg "isinstance" = none) (hW : X.mg c = some (.ref W))
    (hvar : PE (X.suite a ((a, oe) :: pn)) (.Name n pn') (tVar i)) (hg : Gl X "isinstance" := by rfl) (hgc : Gl X c := by rfl) (hdc : (c == ("__debug__" : Str)) = false := by decide)
    (hs : starEach [.Name n pn', .Name c px] X.env = (false, eval (.Name n pn') X.env) :: starEach [.Name c px] X.env := by rfl) (hs2 : starEach [.Name c px] X.env = (false, eval (.Name c px) X.env) :: starEach [] X.env := by rfl) (hpl : (backTo pos (starEach [.Name c px] X.env)).any (·.1) = false := by rfl) :
    PE (X.suite a ((a, oe) :: pn)) (.Call (.Name "isinstance" p) [.Name n pn', .Name c px] [] pos) (tCB (rIsE X.K C a) (tCons (tVar i) (tCons (tC (.ref W)) tNil))) :=
  pe_callB (call_isE I hz hf) hg hm (by decide +kernel) (pa_cons hvar (pa_cons (pe_glob hgc hW rfl hdc) pa_nil hs2) hs) (by decide) (by decide) hs hpl
/-- the suite's reading, of an error of class C -/
def tHeld (C : Addr) (t : Addr → TS) : Addr → Value → Option Addr → TS := fun a cls d Dn σ H => (cls = .ref C ∧ d = none) ∧ t a Dn σ H
def tTryIs (K : PySem.W.Frag) (mg : Str → Option Value) (C W1 W2 : Addr) (i nn : Nat) (xm : List D → Option Bool) (ta : TA) : TS := fun D σ H => tDrop (tCallS (spX ⟨K, mg⟩ nn xm C) (WE (wAs K (.ref C) i (tHeld C (fun a => tRet (tAndV (tCB (rIsE K C a) (tCons (tVar i) (tCons (tC (.ref W1)) tNil))) (tNotV (tCB (rIsE K C a) (tCons (tVar i) (tCons (tC (.ref W2)) tNil))))))) (fun _ _ _ _ => False) D)) ta) D σ H
/-- try: f(e, ..) / except C as n: return isinstance(n, c1) and not isinstance(n, c2) -/
theorem ds_tryIs (i : Nat) {P : Program} {w : World} {K : PySem.W.Frag} {mg : Str → Option Value} {base : Heap} {x cn n c1 c2 : Str} {W1 W2 : Addr} {j nn k : Nat} {xm : List D → Option Bool} {e : Expr} {es : List Expr} {ta : TA} {fs : Reg → Option (List D)} {np cp ep p1 p2 q1 q2 q3 q4 r1 r2 r3 r4 r5 xp hp pos : Pos}
    (G : NameX P w K mg base j x nn xm C) (O : OwnX X.K X.mg cn C) (h1 : X.mg c1 = some (.ref W1)) (k1 : PySem.W.kitOne X.K (.ref C) (.ref W1) = some true) (h2 : X.mg c2 = some (.ref W2)) (k2 : PySem.W.kitOne X.K (.ref C) (.ref W2) = some false) (hmi : X.mg "isinstance" = none)
    (hr : Room k X.A) (hN : X.N.Nodup) (ha : ∀ pn xe, DA (X.tr pn xe) (e :: es) ta fs) (hst : X.stack = X.env :: X.outer := by rfl) (hfr : X.env.frame = some X.env.locals := by rfl) (hi : X.N[i]? = some n := by rfl) (hln : X.env.kindOf n = some .local := by rfl) (hv : Vis X.env.scope n := by exact Or.inl rfl)
    (hd : (n == ("__debug__" : Str)) = false := by decide) (hcd : (n == ("__classdict__" : Str)) = false := by decide) (hgc : Gl X cn := by rfl) (hdc : (cn == ("__debug__" : Str)) = false := by decide)
    (hg1 : Gl X c1 := by rfl) (hd1 : (c1 == ("__debug__" : Str)) = false := by decide) (hg2 : Gl X c2 := by rfl) (hd2 : (c2 == ("__debug__" : Str)) = false := by decide) (hgi : Gl X "isinstance" := by rfl)
    (hj : j ≤ k := by decide) (hnn : (e :: es).length = nn := by rfl) (hg : Gl X x := by rfl) (hdb : (x == ("__debug__" : Str)) = false := by decide) (he : starEach (e :: es) X.env = (false, eval e X.env) :: starEach es X.env := by rfl) (hpl : (backTo cp (starEach es X.env)).any (·.1) = false := by rfl)
    (hsw : swapsWith (.Call (.Name x np) (e :: es) [] cp) none ep.line X.env = pure false := by rfl)
    (s1 : starEach [.Name n q1, .Name c1 q2] X.env = (false, eval (.Name n q1) X.env) :: starEach [.Name c1 q2] X.env := by rfl) (s2 : starEach [.Name c1 q2] X.env = (false, eval (.Name c1 q2) X.env) :: starEach [] X.env := by rfl) (s3 : (backTo r1 (starEach [.Name c1 q2] X.env)).any (·.1) = false := by rfl)
    (s4 : starEach [.Name n q3, .Name c2 q4] X.env = (false, eval (.Name n q3) X.env) :: starEach [.Name c2 q4] X.env := by rfl) (s5 : starEach [.Name c2 q4] X.env = (false, eval (.Name c2 q4) X.env) :: starEach [] X.env := by rfl) (s6 : (backTo r2 (starEach [.Name c2 q4] X.env)).any (·.1) = false := by rfl)
    (hP : X.prog = P := by rfl) (hwd : X.w = w := by rfl) (hK : X.K = K := by rfl) (hmg : X.mg = mg := by rfl) (hbs : X.base = base := by rfl) :
    DS X (.Try [.Expr (.Call (.Name x np) (e :: es) [] cp) ep] [.ExceptHandler (some (.Name cn xp)) (some n) [.Return (some (.BoolOp .And [.Call (.Name "isinstance" p1) [.Name n q1, .Name c1 q2] [] r1, .UnaryOp .Not (.Call (.Name "isinstance" p2) [.Name n q3, .Name c2 q4] [] r2) r3] r4)) r5] hp] [] [] pos) (tTryIs K mg C W1 W2 i nn xm ta) (tryI i xm fs (.bl true)) := by
  subst hP hwd hK hmg hbs
  obtain ⟨f, fd, ps, G1, G2, G3, G4⟩ := G
  have suite : ∀ (a : Addr) (oe : Obj) (cls : Value) (d : Option Addr) (pn : List (Addr × Obj)), Zc cls d oe → (∃ vs, oe.data = .fields vs) → PSs (X.suite a ((a, oe) :: pn)) [.Return (some (.BoolOp .And [.Call (.Name "isinstance" p1) [.Name n q1, .Name c1 q2] [] r1, .UnaryOp .Not (.Call (.Name "isinstance" p2) [.Name n q3, .Name c2 q4] [] r2) r3] r4)) r5]
      (tHeld C (fun a => tRet (tAndV (tCB (rIsE X.K C a) (tCons (tVar i) (tCons (tC (.ref W1)) tNil))) (tNotV (tCB (rIsE X.K C a) (tCons (tVar i) (tCons (tC (.ref W2)) tNil)))))) a cls d) := by
    intro a oe cls d pn hz hf
    refine ⟨fun pins s σ H D I ⟨⟨e1, e2⟩, h⟩ => ?_⟩
    subst e1 e2
    have v1 : PE (X.suite a ((a, oe) :: pn)) (.Name n q1) (tVar i) := pe_var hi hv hd hcd
    have v2 : PE (X.suite a ((a, oe) :: pn)) (.Name n q3) (tVar i) := pe_var hi hv hd hcd
    exact (pss_one (ps_ret (pe_and (pe_isHeld O.i hz hf hmi h1 v1 hgi hg1 hd1 s1 s2 s3) (pe_one (pe_not (pe_isHeld O.i hz hf hmi h2 v2 hgi hg2 hd2 s4 s5 s6)))))).run pins s σ H D I h
  refine ⟨ps_try_as (i := i) hst hfr hN hi hln ⟨hgc, hdc, .inl O.g⟩ takes0 (fun W pn xe tk _ => pss_one (ps_expr (pe_callS (X := X.tr pn xe) (E := WE W) G1 (hr.mono hj) hg G2 G3 G4 (fun σ => passAt tk σ) (ha pn xe).p hdb he hpl) hsw)) suite, fun σ H F ρ H0 F0 D s k => ?_⟩
  have k' : Ok (tryI i xm fs (.bl true) ρ) (fun _ => False) (fun d => d = .bl true) (fun _ => False) (fun _ => False) := by
    unfold tryI tryS at k ⊢
    by_cases hl : i < ρ.length
    · rw [if_pos hl] at k ⊢
      cases q : callX xm fs ρ with
      | none => rw [q] at k; exact k.elim
      | some b =>
        rw [q] at k
        cases b with
        | true => exact rfl
        | false => exact k.elim
    · rw [if_neg hl] at k; exact k.elim
  obtain ⟨hl, ds, e1, e2, _⟩ := ok_tryI.mp k'
  have k2 : ∀ v H F, Ext H0 F0 H F → Rep (kn X) F v (.bl true) → D.rt v H := by
    have : tryI i xm fs (.bl true) ρ = .rt (.bl true) := by
      unfold tryI tryS callX
      rw [if_pos hl, e1, Option.bind_some, e2]
    rw [this] at k
    exact k
  refine (ha [] fun _ _ => False).q σ H F ρ ds _ s.r e1 fun vs H' F' x' r' => ?_
  refine ⟨F', ds, x'.s, r', ((ha [] fun _ _ => False).len ρ ds e1).trans hnn, e2, fun H2 F2 x2 => ?_⟩
  refine ⟨true, O.e, fun _ a na => ?_, fun z => by cases z⟩
  have hσ : (σ.set i (some (V.ref a)))[i]? = some (some (V.ref a)) := List.getElem?_set_self (by rw [s.r.len]; exact hl)
  refine ⟨⟨rfl, rfl⟩, V.ref a, hσ, .ref W1, .ref W1, true, rfl, fun u hu => hu, k1, true, rfl, iteT ⟨V.ref a, hσ, .ref W2, .ref W2, false, rfl, fun u hu => hu, ‹_›, false, rfl, k2 _ _ _ ((s.x.trans x').trans x2) (.bl true)⟩⟩
end
/-- what the walk needs of an error class cn below c1 and not below c2 -/
def RaiseT (K : PySem.W.Frag) (mg : Str → Option Value) (cn c1 c2 : Str) : Prop := ∃ C W1 W2, OwnX K mg cn C ∧ (mg c1 = some (.ref W1) ∧ PySem.W.kitOne K (.ref C) (.ref W1) = some true) ∧ mg c2 = some (.ref W2) ∧ PySem.W.kitOne K (.ref C) (.ref W2) = some false
theorem kit_own {K : PySem.W.Frag} {C W : Addr} {b : Bool} (h1 : PySem.W.isClsIn K W = true) (h2 : PySem.W.typeIn K (.ref W) = some (.type "type")) (h3 : PySem.W.subIn K (.ref C) (.ref W) = some b) (h4 : b = false → (Value.ref C == Value.ref W) = false) : PySem.W.kitOne K (.ref C) (.ref W) = some b := by
  have e2 : ((PySem.W.clsIn K W).isSome && PySem.W.typeIn K (.ref W) == some (.type "type")) = true := by
    rw [h2]
    unfold PySem.W.isClsIn at h1
    rw [h1]
    rfl
  unfold PySem.W.kitOne
  split
  · rename_i h
    cases b with
    | true => rfl
    | false => rw [h4 rfl] at h; cases h
  · show (if ((PySem.W.clsIn K W).isSome && PySem.W.typeIn K (.ref W) == some (.type "type")) = true then PySem.W.subIn K (.ref C) (.ref W) else none) = some b
    rw [if_pos e2]
    exact h3
theorem raise_mk {K : PySem.W.Frag} {mg : Str → Option Value} {cn c1 c2 : Str} {C W1 W2 : Addr} (g : mg cn = some (.ref C)) (x : PySem.W.excIn K C [.type "ValueError", .type "Exception", .type "BaseException", .type "object"] "ValueError.__new__" = true) (k : PySem.W.keepIn K (.ref C) = true) (b : PySem.W.subIn K (.ref C) (.type "BaseException") = some true)
    (t : PySem.W.typeIn K (.ref C) = some (.type "type")) (s : PySem.W.subIn K (.ref C) (.ref C) = some true) (d : PySem.W.hasDictIn K C = true) (i1 : PySem.W.findIn K (.ref C) "__getattribute__" = some (some (.builtin "BaseException.__getattribute__"))) (i2 : PySem.W.findIn K (.ref C) "__getattr__" = some none)
    (i3 : PySem.W.findIn K (.ref C) "__class__" = some (some (.builtin "object.__class__"))) (i4 : PySem.W.specialIn K (.builtin "object.__class__") "__get__" = some (some (.builtin "getset_descriptor.__get__"))) (i5 : PySem.W.takesIn K (.builtin "object.__class__") = some true) (i6 : PySem.W.mroIn K C (.type "object") = some true)
    (g1 : mg c1 = some (.ref W1)) (u1 : PySem.W.isClsIn K W1 = true) (v1 : PySem.W.typeIn K (.ref W1) = some (.type "type")) (w1 : PySem.W.subIn K (.ref C) (.ref W1) = some true)
    (g2 : mg c2 = some (.ref W2)) (u2 : PySem.W.isClsIn K W2 = true) (v2 : PySem.W.typeIn K (.ref W2) = some (.type "type")) (w2 : PySem.W.subIn K (.ref C) (.ref W2) = some false) (n2 : (Value.ref C == Value.ref W2) = false) : RaiseT K mg cn c1 c2 :=
  ⟨C, W1, W2, ⟨g, x, k, b, t, PySem.W.exm_ref b d t s, ⟨i1, i2, b, d, i3, i4, i5, i6⟩⟩, ⟨g1, kit_own u1 v1 w1 fun z => nomatch z⟩, g2, kit_own u2 v2 w2 fun _ => n2⟩
end DL

namespace G74
open PySem PySem.Spec PyProof.Rows L2 DL
def top (i : Nat) : Stmt := PySem.Challenge.pw_watchfloor_k74_analysis_sure_by_ticks.main.body.getD i (.Pass ⟨0, 0, 0, 0⟩)
abbrev s_Setup_init : Stmt := inClass (top 56) 0
abbrev s__law_words : Stmt := top 87
abbrev s__law_cell : Stmt := top 84
abbrev s__law_worths : Stmt := top 88
abbrev s__law_draws : Stmt := top 85
abbrev s__law_layer : Stmt := top 95
abbrev s__law_rota : Stmt := top 96
abbrev s__law_ladder : Stmt := top 102
abbrev s__law_shutter : Stmt := top 103
abbrev s__law_matcher : Stmt := top 90
abbrev s__law_route : Stmt := top 94
abbrev s__law_holds : Stmt := top 104
abbrev s_require : Stmt := top 59
abbrev s_is_between : Stmt := top 36
abbrev s_is_value : Stmt := top 23
abbrev s_is_name : Stmt := top 24
abbrev s_names_of : Stmt := top 57
abbrev s_is_new_name : Stmt := top 58
abbrev s_all_true : Stmt := top 37
abbrev s_span_fits : Stmt := top 38
abbrev s_layer_fits : Stmt := top 41
abbrev s_standin_fits : Stmt := top 42
abbrev s_schedule_fits : Stmt := top 43
abbrev s_check_people : Stmt := top 60
abbrev s_policy_fits : Stmt := top 44
abbrev s_window_fits : Stmt := top 45
abbrev s_label_fits : Stmt := top 39
abbrev s_matcher_fits : Stmt := top 46
abbrev s_matchers_fit : Stmt := top 47
abbrev s_labels_fit : Stmt := top 40
abbrev s_settings_fit : Stmt := top 48
abbrev s_route_fits : Stmt := top 49
abbrev s_holdback_fits : Stmt := top 50
abbrev s_check_routes : Stmt := top 61
abbrev s_store_fits : Stmt := top 53
abbrev s_check_rest : Stmt := top 62
abbrev s_setup : Stmt := top 63
abbrev s__law_setup : Stmt := top 101
abbrev s__law_world : Stmt := top 105
abbrev s__law_labels : Stmt := top 89
abbrev s__law_value : Stmt := top 91
abbrev s__law_matches : Stmt := top 92
abbrev s__law_way : Stmt := top 93
abbrev s__law_case : Stmt := top 119
abbrev s__law_find : Stmt := top 106
abbrev s__law_lcm : Stmt := top 98
abbrev s__law_period : Stmt := top 99
abbrev s__law_settled : Stmt := top 100
abbrev s__law_muted : Stmt := top 107
abbrev s__law_on : Stmt := top 97
abbrev s__law_is_sure : Stmt := top 110
abbrev s__law_delay : Stmt := top 111
abbrev s__law_sums : Stmt := top 120
abbrev s__law_slack : Stmt := top 108
abbrev s__law_same : Stmt := top 86
abbrev s_value_of : Stmt := top 25
abbrev s_matches : Stmt := top 26
abbrev s_matches_all : Stmt := top 27
abbrev s__later : Stmt := top 77
abbrev s_way : Stmt := top 78
abbrev s_end_of : Stmt := top 79
abbrev s_entry_of : Stmt := top 64
abbrev s_policy_of : Stmt := top 67
abbrev s_schedule_of : Stmt := top 66
abbrev s_period : Stmt := top 6
abbrev s_settled : Stmt := top 5
abbrev s__horizon : Stmt := top 81
abbrev s_in_spans : Stmt := top 2
abbrev s_window_of : Stmt := top 68
abbrev s_is_muted : Stmt := top 70
abbrev s_on_layer : Stmt := top 3
abbrev s_on_call : Stmt := top 4
abbrev s_channels_of : Stmt := top 65
abbrev s_is_sure : Stmt := top 71
abbrev s_plan : Stmt := top 72
abbrev s_delay : Stmt := top 73
abbrev s_slack : Stmt := top 75
abbrev s_sure_limit : Stmt := top 82
abbrev s_law : Stmt := top 121
def g_setup (ds : List D) : List D := ds.take 11 ++ (.tup [.int 0, .int 10, .int 2, .int 0] :: ds.drop 11)
theorem gl_setup : ∀ ds : List D, ds.length = 12 → (g_setup ds).length = 13 := fun ds h => by unfold g_setup; rw [List.length_append, List.length_cons, List.length_take, List.length_drop]; omega
structure Txt (K : PySem.W.Frag) (mg : Str → Option Value) : Prop where
  q_Setup : ClsK K mg "Setup" ["week", "people", "schedules", "policies", "windows", "routes", "holdbacks", "groups", "replicas", "pause", "down", "store", "lookback"]
  i_Setup : ∃ C f fd, mg "Setup" = some (.ref C) ∧ Mk K C f ∧ Fun K "__init__" "Setup.__init__" s_Setup_init f fd ∧ Binds K fd ["self", "week", "people", "schedules", "policies", "windows", "routes", "holdbacks", "groups", "numbers"] []
  f__law_words : Here K mg "_law_words" s__law_words ["_law_cell_here", "_law_many"]
  f__law_cell : Here K mg "_law_cell" s__law_cell ["_law_script_here", "_law_k"]
  f__law_worths : Here K mg "_law_worths" s__law_worths ["_law_cell_here", "_law_many"]
  f__law_draws : Here K mg "_law_draws" s__law_draws ["_law_cell_here", "_law_many"]
  f__law_layer : Here K mg "_law_layer" s__law_layer ["_law_part", "_law_crew", "_law_days"]
  f__law_rota : Here K mg "_law_rota" s__law_rota ["_law_cell_here", "_law_name", "_law_crew", "_law_days"]
  f__law_ladder : Here K mg "_law_ladder" s__law_ladder ["_law_draws_here", "_law_name", "_law_titles"]
  f__law_shutter : Here K mg "_law_shutter" s__law_shutter ["_law_draws_here", "_law_name", "_law_days"]
  f__law_matcher : Here K mg "_law_matcher" s__law_matcher ["_law_first", "_law_second", "_law_names", "_law_worths_here"]
  f__law_route : Here K mg "_law_route" s__law_route ["_law_cell_here", "_law_place", "_law_names", "_law_worths_here", "_law_ladders", "_law_shutters"]
  f__law_holds : Here K mg "_law_holds" s__law_holds ["_law_cell_here", "_law_names", "_law_worths_here"]
  f_require : Here K mg "require" s_require ["part", "flags"]
  f_is_between : Here K mg "is_between" s_is_between ["low", "n", "high"]
  f_is_value : Here K mg "is_value" s_is_value ["text"]
  f_is_name : Here K mg "is_name" s_is_name ["text"]
  f_names_of : Here K mg "names_of" s_names_of ["entries"]
  f_is_new_name : Here K mg "is_new_name" s_is_new_name ["entries", "place"]
  f_all_true : Here K mg "all_true" s_all_true ["flags"]
  f_span_fits : Here K mg "span_fits" s_span_fits ["week", "span"]
  f_layer_fits : Here K mg "layer_fits" s_layer_fits ["week", "people", "layer"]
  f_standin_fits : Here K mg "standin_fits" s_standin_fits ["people", "standin"]
  f_schedule_fits : Here K mg "schedule_fits" s_schedule_fits ["week", "people", "schedule"]
  f_check_people : Here K mg "check_people" s_check_people ["made"]
  f_policy_fits : Here K mg "policy_fits" s_policy_fits ["schedules", "policy"]
  f_window_fits : Here K mg "window_fits" s_window_fits ["week", "window"]
  f_label_fits : Here K mg "label_fits" s_label_fits ["name"]
  f_matcher_fits : Here K mg "matcher_fits" s_matcher_fits ["matcher"]
  f_matchers_fit : Here K mg "matchers_fit" s_matchers_fit ["matchers"]
  f_labels_fit : Here K mg "labels_fit" s_labels_fit ["names"]
  f_settings_fit : Here K mg "settings_fit" s_settings_fit ["windows", "policies", "settings"]
  f_route_fits : Here K mg "route_fits" s_route_fits ["windows", "policies", "place", "route"]
  f_holdback_fits : Here K mg "holdback_fits" s_holdback_fits ["holdback"]
  f_check_routes : Here K mg "check_routes" s_check_routes ["made"]
  f_store_fits : Here K mg "store_fits" s_store_fits ["store"]
  f_check_rest : Here K mg "check_rest" s_check_rest ["made"]
  k_setup : ∃ f fd g gV, Fun K "setup" "setup" s_setup f fd ∧ mg "setup" = some (.ref f) ∧ PySem.W.keepIn K (.ref f) = true ∧ KBn K fd ["week", "people", "schedules", "policies", "windows", "routes", "holdbacks", "groups", "replicas", "pause", "down", "store", "lookback"] 0 ["week", "people", "schedules", "policies", "windows", "routes", "holdbacks", "groups", "replicas", "pause", "down", "lookback"] g gV ∧ ∀ (F : Hp) (vs : List V) (ds : List D), Reps ⟨K, mg⟩ F vs ds → ds.length = 12 → Reps ⟨K, mg⟩ F (gV [] vs) (g_setup ds)
  f__law_setup : Here K mg "_law_setup" s__law_setup ["_law_days", "_law_staff", "_law_rotas", "_law_ladders", "_law_shutters", "_law_tree", "_law_holds_here", "_law_books", "_law_numbers"]
  f__law_world : Here K mg "_law_world" s__law_world ["_law_script_here"]
  f__law_labels : Here K mg "_law_labels" s__law_labels ["_law_draws_here", "_law_names", "_law_worths_here"]
  f__law_value : Here K mg "_law_value" s__law_value ["_law_labels_here", "_law_name"]
  f__law_matches : Here K mg "_law_matches" s__law_matches ["_law_matchers", "_law_labels_here"]
  f__law_way : Here K mg "_law_way" s__law_way ["_law_tree", "_law_labels_here"]
  f__law_case : Here K mg "_law_case" s__law_case ["_law_script_here"]
  f__law_find : Here K mg "_law_find" s__law_find ["_law_rows", "_law_name"]
  f__law_lcm : Here K mg "_law_lcm" s__law_lcm ["_law_a", "_law_b"]
  f__law_period : Here K mg "_law_period" s__law_period ["_law_days", "_law_rota_here"]
  f__law_settled : Here K mg "_law_settled" s__law_settled ["_law_rota_here"]
  f__law_muted : Here K mg "_law_muted" s__law_muted ["_law_made", "_law_mutes", "_law_time"]
  f__law_on : Here K mg "_law_on" s__law_on ["_law_days", "_law_rota_here", "_law_time"]
  f__law_is_sure : Here K mg "_law_is_sure" s__law_is_sure ["_law_made", "_law_person"]
  f__law_delay : Here K mg "_law_delay" s__law_delay ["_law_made", "_law_settings", "_law_time"]
  f__law_sums : Here K mg "_law_sums" s__law_sums ["_law_made", "_law_settings", "_law_begin", "_law_many", "_law_end"]
  f__law_slack : Here K mg "_law_slack" s__law_slack ["_law_made"]
  f__law_same : Here K mg "_law_same" s__law_same ["_law_told", "_law_due_here"]
  f_value_of : Here K mg "value_of" s_value_of ["labels", "name"]
  f_matches : Here K mg "matches" s_matches ["matcher", "labels"]
  f_matches_all : Here K mg "matches_all" s_matches_all ["matchers", "labels"]
  f__later : Here K mg "_later" s__later ["routes", "at", "labels"]
  f_way : Here K mg "way" s_way ["routes", "labels"]
  f_end_of : Here K mg "end_of" s_end_of ["routes", "labels"]
  f_entry_of : Here K mg "entry_of" s_entry_of ["entries", "name", "word"]
  f_policy_of : Here K mg "policy_of" s_policy_of ["made", "name"]
  f_schedule_of : Here K mg "schedule_of" s_schedule_of ["made", "name"]
  f_period : Here K mg "period" s_period ["week", "schedule"]
  f_settled : Here K mg "settled" s_settled ["schedule"]
  f__horizon : Here K mg "_horizon" s__horizon ["setup", "settings", "time"]
  f_in_spans : Here K mg "in_spans" s_in_spans ["week", "spans", "time"]
  f_window_of : Here K mg "window_of" s_window_of ["made", "name"]
  f_is_muted : Here K mg "is_muted" s_is_muted ["setup", "mutes", "time"]
  f_on_layer : Here K mg "on_layer" s_on_layer ["week", "layer", "time"]
  f_on_call : Here K mg "on_call" s_on_call ["week", "schedule", "time"]
  f_channels_of : Here K mg "channels_of" s_channels_of ["made", "person"]
  f_is_sure : Here K mg "is_sure" s_is_sure ["setup", "person"]
  f_plan : Here K mg "plan" s_plan ["setup", "policy", "begun"]
  f_delay : Here K mg "delay" s_delay ["setup", "policy", "begun"]
  f_slack : Here K mg "slack" s_slack ["setup"]
  f_sure_limit : Here K mg "sure_limit" s_sure_limit ["setup", "labels", "time"]
  f_law : Here K mg "law" s_law ["_law_script_here"]
  z_any : mg "any" = none
  z_bool : mg "bool" = none
  z_enumerate : mg "enumerate" = none
  z_int : mg "int" = none
  z_isinstance : mg "isinstance" = none
  z_len : mg "len" = none
  z_list : mg "list" = none
  z_max : mg "max" = none
  z_min : mg "min" = none
  z_range : mg "range" = none
  z_sorted : mg "sorted" = none
  z_str : mg "str" = none
  z_tuple : mg "tuple" = none
  c_LAST_TIME : Cst mg "LAST_TIME" (.int 10000)
  c_LETTERS : Cst mg "LETTERS" (.str (Str.ofString "abcdefghijklmnopqrstuvwxyz"))
  c_LONGEST_checks : Cst mg "LONGEST_checks" (.int 1000)
  c_LONGEST_setup : Cst mg "LONGEST_setup" (.int 1000)
  c_MOST : Cst mg "MOST" (.int 6)
  c_MOST_CHARS : Cst mg "MOST_CHARS" (.int 20)
  c_MOST_PERIOD : Cst mg "MOST_PERIOD" (.int 2000)
  c_RESERVED : Cst mg "RESERVED" (.str (Str.ofString "zzzzzzzzzzzzzzzzzzzz"))
  c_WORD_CHARS : Cst mg "WORD_CHARS" (.str (Str.ofString "abcdefghijklmnopqrstuvwxyz0123456789_"))
  b_lcm : mg "lcm" = some (.builtin "math.lcm")
  x_PeriodTooLong : RaiseT K mg "PeriodTooLong" "WatchError" "TooManySamples"
section
variable {P : Program} {w : World} {K : PySem.W.Frag} {mg : Str → Option Value} {base : Heap}
/-! Setup -/
theorem sc_Setup_init : FnScope ["self", "week", "people", "schedules", "policies", "windows", "routes", "holdbacks", "groups", "numbers"] ["self", "week", "people", "schedules", "policies", "windows", "routes", "holdbacks", "groups", "numbers"] (defScope s_Setup_init) := ⟨rfl, rfl, rfl, by decide +kernel, rfl, by decide +kernel, by decide +kernel⟩
def b_Setup_init : Reg → Fds → Option Fds := (sqI (setI "week" (fun ρ => fzAt ρ 1)) (sqI (setI "people" (un1 (fun ρ => fzAt ρ 2) dList)) (sqI (setI "schedules" (un1 (fun ρ => fzAt ρ 3) dList)) (sqI (setI "policies" (un1 (fun ρ => fzAt ρ 4) dList)) (sqI (setI "windows" (un1 (fun ρ => fzAt ρ 5) dList)) (sqI (setI "routes" (un1 (fun ρ => fzAt ρ 6) dList)) (sqI (setI "holdbacks" (un1 (fun ρ => fzAt ρ 7) dList)) (sqI (setI "groups" (un1 (fun ρ => fzAt ρ 8) dList)) (tupI ["replicas", "pause", "down", "store", "lookback"] (fun ρ => fzAt ρ 9))))))))))
def m_Setup : List D → Option Fds := fun xs => b_Setup_init (Sl.no :: startR 9 xs) []
theorem mk_Setup (T : Txt K mg) : MakeOk P w K mg base 1 "Setup" 9 m_Setup := by
  obtain ⟨C, f, fd, hm, M, F, hb⟩ := T.i_Setup
  obtain ⟨C2, hm2, hc, hn⟩ := T.q_Setup.ex
  rw [hm] at hm2
  cases hm2
  exact ⟨C, f, fd, _, fn_init F sc_Setup_init (fun _ _ _ h => h) fun cdv A outer s H E hr => ⟨_, (din_cons (din_set hc (hn "week" (by decide +kernel)) (de_var 1)) (din_cons (din_set hc (hn "people" (by decide +kernel)) (dn_list T.z_list (de_var 2).toB).toE) (din_cons (din_set hc (hn "schedules" (by decide +kernel)) (dn_list T.z_list (de_var 3).toB).toE) (din_cons (din_set hc (hn "policies" (by decide +kernel)) (dn_list T.z_list (de_var 4).toB).toE) (din_cons (din_set hc (hn "windows" (by decide +kernel)) (dn_list T.z_list (de_var 5).toB).toE) (din_cons (din_set hc (hn "routes" (by decide +kernel)) (dn_list T.z_list (de_var 6).toB).toE) (din_cons (din_set hc (hn "holdbacks" (by decide +kernel)) (dn_list T.z_list (de_var 7).toB).toE) (din_cons (din_set hc (hn "groups" (by decide +kernel)) (dn_list T.z_list (de_var 8).toB).toE) (din_one (din_tup 5 rfl (dig_cons hc (hn "replicas" (by decide +kernel)) (dig_cons hc (hn "pause" (by decide +kernel)) (dig_cons hc (hn "down" (by decide +kernel)) (dig_cons hc (hn "store" (by decide +kernel)) (dig_cons hc (hn "lookback" (by decide +kernel)) dig_nil))))) rfl (de_var 9)))))))))))⟩, hm, M, hb⟩
/-! _law_words -/
theorem sc__law_words : FnScope ["_law_cell_here", "_law_many", "_law_letters", "_law_place", "_law_k"] ["_law_cell_here", "_law_many"] (defScope s__law_words) := ⟨rfl, rfl, rfl, by decide +kernel, rfl, by decide +kernel, by decide +kernel⟩
def C1__law_words : Reg → Option D := (bin2 (bin2 (slV (fun _ => some (.str (lit "xyz"))) (fun _ => some none) (parV (fun ρ => fzAt ρ 3)) dSlice) (bin2 (fun ρ => fzAt ρ 2) (bin2 (un1 (bin2 (un1 (fun ρ => fzAt ρ 0) dInt) (bin2 (fun _ => some (.int 3)) (fun ρ => fzAt ρ 4) dMul) dPlus) dInt) (fun _ => some (.int 26)) dMod) dItem) dPlus) (slV (fun _ => some (.str (lit "xyzw"))) (parV (fun ρ => fzAt ρ 3)) (fun _ => some none) dSlice) dPlus)
def b__law_words : Reg → Out := (sq (setS 2 (fun _ => some (.str (lit "abcdefghijklmnopqrstuvwxyz")))) (sq (setS 3 (bin2 (un1 (bin2 (un1 (fun ρ => fzAt ρ 0) dInt) (fun _ => some (.int 26)) dDiv) dInt) (fun _ => some (.int 4)) dMod)) (retS (lcV (rng1 (consA (fun ρ => fzAt ρ 1) (fun _ => some []))) (gN 4) (fun _ => some true) C1__law_words [4]))))
def m__law_words : List D → Option D := fun ds => fin (b__law_words (startR 5 ds))
theorem ok__law_words (T : Txt K mg) : NameOk P w K mg base 1 "_law_words" 2 m__law_words :=
  name_data T.f__law_words sc__law_words (fun _ _ _ h => h) fun f cdv A outer s H E hr => ⟨_, (dss_cons (ds_set 2 sc__law_words.nd de_str) (dss_cons (ds_set 3 sc__law_words.nd (de_mod (de_toInt T.z_int (de_div (de_toInt T.z_int (de_var 0).toB).toB de_int.toB).toB).toB de_int.toB)) (dss_one (ds_ret (dn_lc [("_law_k", 4)] rfl sc__law_words.nd (di_range1 T.z_range (da_cons (de_var 1) da_nil)) (fun _ _ _ _ _ => ⟨_, (dg_name 4 sc__law_words.nd)⟩) (fun _ _ _ _ _ => ⟨_, dts_nil⟩) (fun _ _ _ _ _ => ⟨_, (de_plus (de_plus (de_slice de_str.toB do_none (do_some (de_var 3).toB)).toB (de_item hr (de_var 2).toB (de_mod (de_toInt T.z_int (de_plus (de_toInt T.z_int (de_var 0).toB).toB (de_mul de_int.toB (de_var 4).toB).toB).toB).toB de_int.toB).toB).toB).toB (de_slice de_str.toB (do_some (de_var 3).toB) do_none).toB)⟩) (ok := blkOk_by (N := ["_law_cell_here", "_law_many", "_law_letters", "_law_place", "_law_k"]) (sc := defScope s__law_words) (by decide +kernel))).toE))))⟩
/-! _law_cell -/
theorem sc__law_cell : FnScope ["_law_script_here", "_law_k"] ["_law_script_here", "_law_k"] (defScope s__law_cell) := ⟨rfl, rfl, rfl, by decide +kernel, rfl, by decide +kernel, by decide +kernel⟩
def b__law_cell : Reg → Out := (sq (iteS (cmp2 (fun ρ => fzAt ρ 1) (un1 (fun ρ => fzAt ρ 0) dLen) dLt) (retS (un1 (bin2 (fun ρ => fzAt ρ 0) (fun ρ => fzAt ρ 1) dItem) dInt)) skip) (retS (fun _ => some (.int 0))))
def m__law_cell : List D → Option D := fun ds => fin (b__law_cell (startR 2 ds))
theorem ok__law_cell (T : Txt K mg) : NameOk P w K mg base 1 "_law_cell" 2 m__law_cell :=
  name_data T.f__law_cell sc__law_cell (fun _ _ _ h => h) fun f cdv A outer s H E hr => ⟨_, (dss_cons (ds_if (dt_lt (de_var 1).toB (de_len T.z_len (de_var 0).toB).toB) (dss_one (ds_ret (de_toInt T.z_int (de_item hr (de_var 0).toB (de_var 1).toB).toB))) dss_nil) (dss_one (ds_ret de_int)))⟩
/-! _law_worths -/
theorem sc__law_worths : FnScope ["_law_cell_here", "_law_many", "_law_letters", "_law_place", "_law_k"] ["_law_cell_here", "_law_many"] (defScope s__law_worths) := ⟨rfl, rfl, rfl, by decide +kernel, rfl, by decide +kernel, by decide +kernel⟩
def C1__law_worths : Reg → Option D := (bin2 (bin2 (slV (fun _ => some (.str (lit "v7_"))) (fun _ => some none) (parV (fun ρ => fzAt ρ 3)) dSlice) (bin2 (fun ρ => fzAt ρ 2) (bin2 (un1 (bin2 (un1 (fun ρ => fzAt ρ 0) dInt) (bin2 (fun _ => some (.int 5)) (fun ρ => fzAt ρ 4) dMul) dPlus) dInt) (fun _ => some (.int 37)) dMod) dItem) dPlus) (slV (fun _ => some (.str (lit "0_"))) (parV (fun ρ => fzAt ρ 3)) (fun _ => some none) dSlice) dPlus)
def b__law_worths : Reg → Out := (sq (setS 2 (fun _ => some (.str (lit "0123456789_abcdefghijklmnopqrstuvwxyz")))) (sq (setS 3 (bin2 (un1 (bin2 (un1 (fun ρ => fzAt ρ 0) dInt) (fun _ => some (.int 37)) dDiv) dInt) (fun _ => some (.int 3)) dMod)) (retS (lcV (rng1 (consA (fun ρ => fzAt ρ 1) (fun _ => some []))) (gN 4) (fun _ => some true) C1__law_worths [4]))))
def m__law_worths : List D → Option D := fun ds => fin (b__law_worths (startR 5 ds))
theorem ok__law_worths (T : Txt K mg) : NameOk P w K mg base 1 "_law_worths" 2 m__law_worths :=
  name_data T.f__law_worths sc__law_worths (fun _ _ _ h => h) fun f cdv A outer s H E hr => ⟨_, (dss_cons (ds_set 2 sc__law_worths.nd de_str) (dss_cons (ds_set 3 sc__law_worths.nd (de_mod (de_toInt T.z_int (de_div (de_toInt T.z_int (de_var 0).toB).toB de_int.toB).toB).toB de_int.toB)) (dss_one (ds_ret (dn_lc [("_law_k", 4)] rfl sc__law_worths.nd (di_range1 T.z_range (da_cons (de_var 1) da_nil)) (fun _ _ _ _ _ => ⟨_, (dg_name 4 sc__law_worths.nd)⟩) (fun _ _ _ _ _ => ⟨_, dts_nil⟩) (fun _ _ _ _ _ => ⟨_, (de_plus (de_plus (de_slice de_str.toB do_none (do_some (de_var 3).toB)).toB (de_item hr (de_var 2).toB (de_mod (de_toInt T.z_int (de_plus (de_toInt T.z_int (de_var 0).toB).toB (de_mul de_int.toB (de_var 4).toB).toB).toB).toB de_int.toB).toB).toB).toB (de_slice de_str.toB (do_some (de_var 3).toB) do_none).toB)⟩) (ok := blkOk_by (N := ["_law_cell_here", "_law_many", "_law_letters", "_law_place", "_law_k"]) (sc := defScope s__law_worths) (by decide +kernel))).toE))))⟩
/-! _law_draws -/
theorem sc__law_draws : FnScope ["_law_cell_here", "_law_many", "_law_rows", "_law_rest", "_law_k", "_law_state"] ["_law_cell_here", "_law_many"] (defScope s__law_draws) := ⟨rfl, rfl, rfl, by decide +kernel, rfl, by decide +kernel, by decide +kernel⟩
def L1__law_draws : Reg → Out := (iteS (cmp2 (fun ρ => fzAt ρ 3) (fun _ => some (.int 0)) dGt) (sq (appS 2 (bin2 (un1 (fun ρ => fzAt ρ 3) dInt) (fun _ => some (.int 1000)) dMod)) (setS 3 (bin2 (fun ρ => fzAt ρ 3) (fun _ => some (.int 1000)) dDiv))) skip)
def L2__law_draws : Reg → Out := (sq (setS 5 (bin2 (un1 (bin2 (bin2 (bin2 (fun ρ => fzAt ρ 5) (fun _ => some (.int 48271)) dMul) (bin2 (fun ρ => fzAt ρ 4) (fun _ => some (.int 69621)) dMul) dPlus) (fun _ => some (.int 7)) dPlus) dInt) (fun _ => some (.int 2147483647)) dMod)) (iteS (cmp2 (un1 (fun ρ => anyAt ρ 2) dLen) (fun ρ => fzAt ρ 1) dLt) (appS 2 (bin2 (un1 (bin2 (un1 (bin2 (bin2 (fun ρ => fzAt ρ 5) (fun _ => some (.int 69621)) dMul) (fun _ => some (.int 5)) dPlus) dInt) (fun _ => some (.int 2147483629)) dMod) dInt) (fun _ => some (.int 1000)) dMod)) skip))
def b__law_draws : Reg → Out := (sq (setN 2 (lstV (fun _ => some []))) (sq (setS 3 (un1 (fun ρ => fzAt ρ 0) dInt)) (sq (iteS (cmp2 (fun ρ => fzAt ρ 3) (bin2 (fun _ => some (.int 10)) (fun _ => some (.int 18)) dPow) dGe) (forS (rng1 (consA (fun ρ => fzAt ρ 1) (fun _ => some []))) (gN 4) L1__law_draws) skip) (sq (setS 5 (bin2 (un1 (bin2 (bin2 (un1 (fun ρ => fzAt ρ 0) dInt) (fun _ => some (.int 48271)) dMul) (fun _ => some (.int 11)) dPlus) dInt) (fun _ => some (.int 2147483647)) dMod)) (sq (forS (rng1 (consA (fun ρ => fzAt ρ 1) (fun _ => some []))) (gN 4) L2__law_draws) (frzS 2 (retS (fun ρ => fzAt ρ 2))))))))
def m__law_draws : List D → Option D := fun ds => fin (b__law_draws (startR 6 ds))
theorem ok__law_draws (T : Txt K mg) : NameOk P w K mg base 1 "_law_draws" 2 m__law_draws :=
  name_data T.f__law_draws sc__law_draws (fun _ _ _ h => h) fun f cdv A outer s H E hr => ⟨_, (dss_cons (ds_setN 2 sc__law_draws.nd (dn_lst da_nil)) (dss_cons (ds_set 3 sc__law_draws.nd (de_toInt T.z_int (de_var 0).toB)) (dss_cons (ds_if (dt_ge (de_var 3).toB (de_pow de_int.toB de_int.toB).toB) (dss_one (ds_for PassesOwn.never rfl (di_range1 T.z_range (da_cons (de_var 1) da_nil)) (dg_name 4 sc__law_draws.nd) (dss_one (ds_if (dt_gt (de_var 3).toB de_int.toB) (dss_cons (ds_append 2 (de_mod (de_toInt T.z_int (de_var 3).toB).toB de_int.toB)) (dss_one (ds_set 3 sc__law_draws.nd (de_div (de_var 3).toB de_int.toB)))) dss_nil)))) dss_nil) (dss_cons (ds_set 5 sc__law_draws.nd (de_mod (de_toInt T.z_int (de_plus (de_mul (de_toInt T.z_int (de_var 0).toB).toB de_int.toB).toB de_int.toB).toB).toB de_int.toB)) (dss_cons (ds_for PassesOwn.never rfl (di_range1 T.z_range (da_cons (de_var 1) da_nil)) (dg_name 4 sc__law_draws.nd) (dss_cons (ds_set 5 sc__law_draws.nd (de_mod (de_toInt T.z_int (de_plus (de_plus (de_mul (de_var 5).toB de_int.toB).toB (de_mul (de_var 4).toB de_int.toB).toB).toB de_int.toB).toB).toB de_int.toB)) (dss_one (ds_if (dt_lt (de_len T.z_len (db_var 2)).toB (de_var 1).toB) (dss_one (ds_append 2 (de_mod (de_toInt T.z_int (de_mod (de_toInt T.z_int (de_plus (de_mul (de_var 5).toB de_int.toB).toB de_int.toB).toB).toB de_int.toB).toB).toB de_int.toB))) dss_nil)))) (dss_one (ds_frz 2 (ds_ret (de_var 2)))))))))⟩
/-! _law_layer -/
theorem sc__law_layer : FnScope ["_law_part", "_law_crew", "_law_days", "_law_members", "_law_spans", "_law_k", "_law_first", "_law_j"] ["_law_part", "_law_crew", "_law_days"] (defScope s__law_layer) := ⟨rfl, rfl, rfl, by decide +kernel, rfl, by decide +kernel, by decide +kernel⟩
def C1__law_layer : Reg → Option D := (bin2 (fun ρ => fzAt ρ 1) (bin2 (un1 (bin2 (fun ρ => fzAt ρ 0) (fun ρ => fzAt ρ 7) dItem) dInt) (un1 (fun ρ => fzAt ρ 1) dLen) dMod) dItem)
def L1__law_layer : Reg → Out := (sq (setS 6 (bin2 (un1 (bin2 (fun ρ => fzAt ρ 0) (bin2 (fun _ => some (.int 7)) (bin2 (fun _ => some (.int 2)) (fun ρ => fzAt ρ 5) dMul) dPlus) dItem) dInt) (fun ρ => fzAt ρ 2) dMod)) (appS 4 (tupV (consA (fun ρ => fzAt ρ 6) (consA (bin2 (bin2 (fun ρ => fzAt ρ 6) (fun _ => some (.int 1)) dPlus) (bin2 (un1 (bin2 (fun ρ => fzAt ρ 0) (bin2 (fun _ => some (.int 8)) (bin2 (fun _ => some (.int 2)) (fun ρ => fzAt ρ 5) dMul) dPlus) dItem) dInt) (bin2 (fun ρ => fzAt ρ 2) (fun ρ => fzAt ρ 6) dSub) dMod) dPlus) (fun _ => some []))))))
def b__law_layer : Reg → Out := (sq (setS 3 (lcV (rng1 (consA (bin2 (fun _ => some (.int 1)) (bin2 (un1 (bin2 (fun ρ => fzAt ρ 0) (fun _ => some (.int 3)) dItem) dInt) (fun _ => some (.int 3)) dMod) dPlus) (fun _ => some []))) (gN 7) (fun _ => some true) C1__law_layer [7])) (sq (setN 4 (lstV (fun _ => some []))) (sq (forS (rng1 (consA (bin2 (un1 (bin2 (fun ρ => fzAt ρ 0) (fun _ => some (.int 6)) dItem) dInt) (fun _ => some (.int 3)) dMod) (fun _ => some []))) (gN 5) L1__law_layer) (retS (tupV (consA (un1 (fun ρ => fzAt ρ 3) dTup) (consA (bin2 (un1 (bin2 (fun ρ => fzAt ρ 0) (fun _ => some (.int 4)) dItem) dInt) (fun _ => some (.int 13)) dMod) (consA (bin2 (fun _ => some (.int 1)) (bin2 (un1 (bin2 (fun ρ => fzAt ρ 0) (fun _ => some (.int 5)) dItem) dInt) (fun _ => some (.int 9)) dMod) dPlus) (consA (un1 (fun ρ => anyAt ρ 4) dTup) (fun _ => some []))))))))))
def m__law_layer : List D → Option D := fun ds => fin (b__law_layer (startR 8 ds))
theorem ok__law_layer (T : Txt K mg) : NameOk P w K mg base 1 "_law_layer" 3 m__law_layer :=
  name_data T.f__law_layer sc__law_layer (fun _ _ _ h => h) fun f cdv A outer s H E hr => ⟨_, (dss_cons (ds_setLc 3 [("_law_j", 7)] rfl sc__law_layer.nd (di_range1 T.z_range (da_cons (de_plus de_int.toB (de_mod (de_toInt T.z_int (de_item hr (de_var 0).toB de_int.toB).toB).toB de_int.toB).toB) da_nil)) (fun _ _ _ _ _ => ⟨_, (dg_name 7 sc__law_layer.nd)⟩) (fun _ _ _ _ _ => ⟨_, dts_nil⟩) (fun _ _ _ _ _ => ⟨_, (de_item hr (de_var 1).toB (de_mod (de_toInt T.z_int (de_item hr (de_var 0).toB (de_var 7).toB).toB).toB (de_len T.z_len (de_var 1).toB).toB).toB)⟩) (ok := blkOk_by (N := ["_law_part", "_law_crew", "_law_days", "_law_members", "_law_spans", "_law_k", "_law_first", "_law_j"]) (sc := defScope s__law_layer) (by decide +kernel))) (dss_cons (ds_setN 4 sc__law_layer.nd (dn_lst da_nil)) (dss_cons (ds_for PassesOwn.never rfl (di_range1 T.z_range (da_cons (de_mod (de_toInt T.z_int (de_item hr (de_var 0).toB de_int.toB).toB).toB de_int.toB) da_nil)) (dg_name 5 sc__law_layer.nd) (dss_cons (ds_set 6 sc__law_layer.nd (de_mod (de_toInt T.z_int (de_item hr (de_var 0).toB (de_plus de_int.toB (de_mul de_int.toB (de_var 5).toB).toB).toB).toB).toB (de_var 2).toB)) (dss_one (ds_append 4 (de_tup (da_cons (de_var 6) (da_cons (de_plus (de_plus (de_var 6).toB de_int.toB).toB (de_mod (de_toInt T.z_int (de_item hr (de_var 0).toB (de_plus de_int.toB (de_mul de_int.toB (de_var 5).toB).toB).toB).toB).toB (de_sub (de_var 2).toB (de_var 6).toB).toB).toB) da_nil))))))) (dss_one (ds_ret (de_tup (da_cons (de_tuple T.z_tuple (de_var 3).toB) (da_cons (de_mod (de_toInt T.z_int (de_item hr (de_var 0).toB de_int.toB).toB).toB de_int.toB) (da_cons (de_plus de_int.toB (de_mod (de_toInt T.z_int (de_item hr (de_var 0).toB de_int.toB).toB).toB de_int.toB).toB) (da_cons (de_tuple T.z_tuple (db_var 4)) da_nil))))))))))⟩
/-! _law_rota -/
theorem sc__law_rota : FnScope ["_law_cell_here", "_law_name", "_law_crew", "_law_days", "_law_draws_here", "_law_layers", "_law_k", "_law_standins", "_law_first"] ["_law_cell_here", "_law_name", "_law_crew", "_law_days"] (defScope s__law_rota) := ⟨rfl, rfl, rfl, by decide +kernel, rfl, by decide +kernel, by decide +kernel⟩
def L1__law_rota : Reg → Out := (appS 5 (callV m__law_layer (consA (slV (fun ρ => fzAt ρ 4) (parV (bin2 (fun _ => some (.int 2)) (bin2 (fun _ => some (.int 11)) (fun ρ => fzAt ρ 6) dMul) dPlus)) (parV (bin2 (fun _ => some (.int 13)) (bin2 (fun _ => some (.int 11)) (fun ρ => fzAt ρ 6) dMul) dPlus)) dSlice) (consA (fun ρ => fzAt ρ 2) (consA (fun ρ => fzAt ρ 3) (fun _ => some []))))))
def L2__law_rota : Reg → Out := (sq (setS 8 (bin2 (un1 (bin2 (fun ρ => fzAt ρ 4) (bin2 (fun _ => some (.int 24)) (bin2 (fun _ => some (.int 3)) (fun ρ => fzAt ρ 6) dMul) dPlus) dItem) dInt) (fun _ => some (.int 30)) dMod)) (appS 7 (tupV (consA (fun ρ => fzAt ρ 8) (consA (bin2 (bin2 (fun ρ => fzAt ρ 8) (fun _ => some (.int 1)) dPlus) (bin2 (un1 (bin2 (fun ρ => fzAt ρ 4) (bin2 (fun _ => some (.int 25)) (bin2 (fun _ => some (.int 3)) (fun ρ => fzAt ρ 6) dMul) dPlus) dItem) dInt) (fun _ => some (.int 12)) dMod) dPlus) (consA (bin2 (fun ρ => fzAt ρ 2) (bin2 (un1 (bin2 (fun ρ => fzAt ρ 4) (bin2 (fun _ => some (.int 26)) (bin2 (fun _ => some (.int 3)) (fun ρ => fzAt ρ 6) dMul) dPlus) dItem) dInt) (un1 (fun ρ => fzAt ρ 2) dLen) dMod) dItem) (fun _ => some [])))))))
def b__law_rota : Reg → Out := (sq (setS 4 (callV m__law_draws (consA (fun ρ => fzAt ρ 0) (consA (fun _ => some (.int 40)) (fun _ => some []))))) (sq (setN 5 (lstV (fun _ => some []))) (sq (forS (rng1 (consA (bin2 (un1 (bV (cmp2 (bin2 (bin2 (fun ρ => fzAt ρ 4) (fun _ => some (.int 0)) dItem) (fun _ => some (.int 8)) dMod) (fun _ => some (.int 0)) dGt)) dInt) (un1 (bV (cmp2 (bin2 (bin2 (fun ρ => fzAt ρ 4) (fun _ => some (.int 0)) dItem) (fun _ => some (.int 3)) dMod) (fun _ => some (.int 1)) dEq)) dInt) dPlus) (fun _ => some []))) (gN 6) L1__law_rota) (sq (setN 7 (lstV (fun _ => some []))) (sq (forS (rng1 (consA (bin2 (un1 (bin2 (fun ρ => fzAt ρ 4) (fun _ => some (.int 1)) dItem) dInt) (fun _ => some (.int 4)) dMod) (fun _ => some []))) (gN 6) L2__law_rota) (retS (tupV (consA (fun ρ => fzAt ρ 1) (consA (un1 (fun ρ => anyAt ρ 5) dTup) (consA (un1 (fun ρ => anyAt ρ 7) dTup) (fun _ => some [])))))))))))
def m__law_rota : List D → Option D := fun ds => fin (b__law_rota (startR 9 ds))
theorem ok__law_rota (T : Txt K mg) : NameOk P w K mg base 2 "_law_rota" 4 m__law_rota :=
  name_data T.f__law_rota sc__law_rota (fun _ _ _ h => h) fun f cdv A outer s H E hr => ⟨_, (dss_cons (ds_set 4 sc__law_rota.nd (de_callN (ok__law_draws T) hr (da_cons (de_var 0) (da_cons de_int da_nil)))) (dss_cons (ds_setN 5 sc__law_rota.nd (dn_lst da_nil)) (dss_cons (ds_for PassesOwn.never rfl (di_range1 T.z_range (da_cons (de_plus (de_toInt T.z_int (de_gt (de_mod (de_item hr (de_var 4).toB de_int.toB).toB de_int.toB).toB de_int.toB).toB).toB (de_toInt T.z_int (de_eq (de_mod (de_item hr (de_var 4).toB de_int.toB).toB de_int.toB).toB de_int.toB).toB).toB) da_nil)) (dg_name 6 sc__law_rota.nd) (dss_one (ds_append 5 (de_callN (ok__law_layer T) hr (da_cons (de_slice (de_var 4).toB (do_some (de_plus de_int.toB (de_mul de_int.toB (de_var 6).toB).toB).toB) (do_some (de_plus de_int.toB (de_mul de_int.toB (de_var 6).toB).toB).toB)) (da_cons (de_var 2) (da_cons (de_var 3) da_nil))))))) (dss_cons (ds_setN 7 sc__law_rota.nd (dn_lst da_nil)) (dss_cons (ds_for PassesOwn.never rfl (di_range1 T.z_range (da_cons (de_mod (de_toInt T.z_int (de_item hr (de_var 4).toB de_int.toB).toB).toB de_int.toB) da_nil)) (dg_name 6 sc__law_rota.nd) (dss_cons (ds_set 8 sc__law_rota.nd (de_mod (de_toInt T.z_int (de_item hr (de_var 4).toB (de_plus de_int.toB (de_mul de_int.toB (de_var 6).toB).toB).toB).toB).toB de_int.toB)) (dss_one (ds_append 7 (de_tup (da_cons (de_var 8) (da_cons (de_plus (de_plus (de_var 8).toB de_int.toB).toB (de_mod (de_toInt T.z_int (de_item hr (de_var 4).toB (de_plus de_int.toB (de_mul de_int.toB (de_var 6).toB).toB).toB).toB).toB de_int.toB).toB) (da_cons (de_item hr (de_var 2).toB (de_mod (de_toInt T.z_int (de_item hr (de_var 4).toB (de_plus de_int.toB (de_mul de_int.toB (de_var 6).toB).toB).toB).toB).toB (de_len T.z_len (de_var 2).toB).toB).toB) da_nil)))))))) (dss_one (ds_ret (de_tup (da_cons (de_var 1) (da_cons (de_tuple T.z_tuple (db_var 5)) (da_cons (de_tuple T.z_tuple (db_var 7)) da_nil)))))))))))⟩
/-! _law_ladder -/
theorem sc__law_ladder : FnScope ["_law_draws_here", "_law_name", "_law_titles", "_law_levels", "_law_k"] ["_law_draws_here", "_law_name", "_law_titles"] (defScope s__law_ladder) := ⟨rfl, rfl, rfl, by decide +kernel, rfl, by decide +kernel, by decide +kernel⟩
def L1__law_ladder : Reg → Out := (appS 3 (tupV (consA (bin2 (fun ρ => fzAt ρ 2) (bin2 (un1 (bin2 (fun ρ => fzAt ρ 0) (bin2 (fun _ => some (.int 1)) (bin2 (fun _ => some (.int 2)) (fun ρ => fzAt ρ 4) dMul) dPlus) dItem) dInt) (un1 (fun ρ => fzAt ρ 2) dLen) dMod) dItem) (consA (bin2 (un1 (bin2 (fun ρ => fzAt ρ 0) (bin2 (fun _ => some (.int 2)) (bin2 (fun _ => some (.int 2)) (fun ρ => fzAt ρ 4) dMul) dPlus) dItem) dInt) (fun _ => some (.int 9)) dMod) (fun _ => some [])))))
def b__law_ladder : Reg → Out := (sq (setN 3 (lstV (fun _ => some []))) (sq (forS (rng1 (consA (bin2 (fun _ => some (.int 1)) (bin2 (un1 (bin2 (fun ρ => fzAt ρ 0) (fun _ => some (.int 0)) dItem) dInt) (fun _ => some (.int 3)) dMod) dPlus) (fun _ => some []))) (gN 4) L1__law_ladder) (retS (tupV (consA (fun ρ => fzAt ρ 1) (consA (un1 (fun ρ => anyAt ρ 3) dTup) (fun _ => some [])))))))
def m__law_ladder : List D → Option D := fun ds => fin (b__law_ladder (startR 5 ds))
theorem ok__law_ladder (T : Txt K mg) : NameOk P w K mg base 1 "_law_ladder" 3 m__law_ladder :=
  name_data T.f__law_ladder sc__law_ladder (fun _ _ _ h => h) fun f cdv A outer s H E hr => ⟨_, (dss_cons (ds_setN 3 sc__law_ladder.nd (dn_lst da_nil)) (dss_cons (ds_for PassesOwn.never rfl (di_range1 T.z_range (da_cons (de_plus de_int.toB (de_mod (de_toInt T.z_int (de_item hr (de_var 0).toB de_int.toB).toB).toB de_int.toB).toB) da_nil)) (dg_name 4 sc__law_ladder.nd) (dss_one (ds_append 3 (de_tup (da_cons (de_item hr (de_var 2).toB (de_mod (de_toInt T.z_int (de_item hr (de_var 0).toB (de_plus de_int.toB (de_mul de_int.toB (de_var 4).toB).toB).toB).toB).toB (de_len T.z_len (de_var 2).toB).toB).toB) (da_cons (de_mod (de_toInt T.z_int (de_item hr (de_var 0).toB (de_plus de_int.toB (de_mul de_int.toB (de_var 4).toB).toB).toB).toB).toB de_int.toB) da_nil)))))) (dss_one (ds_ret (de_tup (da_cons (de_var 1) (da_cons (de_tuple T.z_tuple (db_var 3)) da_nil)))))))⟩
/-! _law_shutter -/
theorem sc__law_shutter : FnScope ["_law_draws_here", "_law_name", "_law_days", "_law_spans", "_law_k", "_law_first"] ["_law_draws_here", "_law_name", "_law_days"] (defScope s__law_shutter) := ⟨rfl, rfl, rfl, by decide +kernel, rfl, by decide +kernel, by decide +kernel⟩
def L1__law_shutter : Reg → Out := (sq (setS 5 (bin2 (un1 (bin2 (fun ρ => fzAt ρ 0) (bin2 (fun _ => some (.int 1)) (bin2 (fun _ => some (.int 2)) (fun ρ => fzAt ρ 4) dMul) dPlus) dItem) dInt) (fun ρ => fzAt ρ 2) dMod)) (appS 3 (tupV (consA (fun ρ => fzAt ρ 5) (consA (bin2 (bin2 (fun ρ => fzAt ρ 5) (fun _ => some (.int 1)) dPlus) (bin2 (un1 (bin2 (fun ρ => fzAt ρ 0) (bin2 (fun _ => some (.int 2)) (bin2 (fun _ => some (.int 2)) (fun ρ => fzAt ρ 4) dMul) dPlus) dItem) dInt) (bin2 (fun ρ => fzAt ρ 2) (fun ρ => fzAt ρ 5) dSub) dMod) dPlus) (fun _ => some []))))))
def b__law_shutter : Reg → Out := (sq (setN 3 (lstV (fun _ => some []))) (sq (forS (rng1 (consA (bin2 (fun _ => some (.int 1)) (bin2 (un1 (bin2 (fun ρ => fzAt ρ 0) (fun _ => some (.int 0)) dItem) dInt) (fun _ => some (.int 2)) dMod) dPlus) (fun _ => some []))) (gN 4) L1__law_shutter) (retS (tupV (consA (fun ρ => fzAt ρ 1) (consA (un1 (fun ρ => anyAt ρ 3) dTup) (fun _ => some [])))))))
def m__law_shutter : List D → Option D := fun ds => fin (b__law_shutter (startR 6 ds))
theorem ok__law_shutter (T : Txt K mg) : NameOk P w K mg base 1 "_law_shutter" 3 m__law_shutter :=
  name_data T.f__law_shutter sc__law_shutter (fun _ _ _ h => h) fun f cdv A outer s H E hr => ⟨_, (dss_cons (ds_setN 3 sc__law_shutter.nd (dn_lst da_nil)) (dss_cons (ds_for PassesOwn.never rfl (di_range1 T.z_range (da_cons (de_plus de_int.toB (de_mod (de_toInt T.z_int (de_item hr (de_var 0).toB de_int.toB).toB).toB de_int.toB).toB) da_nil)) (dg_name 4 sc__law_shutter.nd) (dss_cons (ds_set 5 sc__law_shutter.nd (de_mod (de_toInt T.z_int (de_item hr (de_var 0).toB (de_plus de_int.toB (de_mul de_int.toB (de_var 4).toB).toB).toB).toB).toB (de_var 2).toB)) (dss_one (ds_append 3 (de_tup (da_cons (de_var 5) (da_cons (de_plus (de_plus (de_var 5).toB de_int.toB).toB (de_mod (de_toInt T.z_int (de_item hr (de_var 0).toB (de_plus de_int.toB (de_mul de_int.toB (de_var 4).toB).toB).toB).toB).toB (de_sub (de_var 2).toB (de_var 5).toB).toB).toB) da_nil))))))) (dss_one (ds_ret (de_tup (da_cons (de_var 1) (da_cons (de_tuple T.z_tuple (db_var 3)) da_nil)))))))⟩
/-! _law_matcher -/
theorem sc__law_matcher : FnScope ["_law_first", "_law_second", "_law_names", "_law_worths_here", "_law_many", "_law_values"] ["_law_first", "_law_second", "_law_names", "_law_worths_here"] (defScope s__law_matcher) := ⟨rfl, rfl, rfl, by decide +kernel, rfl, by decide +kernel, by decide +kernel⟩
def b__law_matcher : Reg → Out := (sq (setS 4 (bin2 (fun ρ => fzAt ρ 3) (lstV (consA (fun _ => some (.str (lit ""))) (fun _ => some []))) dPlus)) (sq (setN 5 (lstV (consA (bin2 (fun ρ => fzAt ρ 4) (bin2 (un1 (bin2 (fun ρ => fzAt ρ 0) (fun _ => some (.int 7)) dDiv) dInt) (un1 (fun ρ => fzAt ρ 4) dLen) dMod) dItem) (fun _ => some [])))) (sq (iteS (cmp2 (bin2 (un1 (fun ρ => fzAt ρ 1) dInt) (fun _ => some (.int 3)) dMod) (fun _ => some (.int 0)) dEq) (appS 5 (bin2 (fun ρ => fzAt ρ 4) (bin2 (un1 (bin2 (fun ρ => fzAt ρ 0) (fun _ => some (.int 50)) dDiv) dInt) (un1 (fun ρ => fzAt ρ 4) dLen) dMod) dItem)) skip) (retS (tupV (consA (bin2 (fun ρ => fzAt ρ 2) (bin2 (un1 (fun ρ => fzAt ρ 0) dInt) (un1 (fun ρ => fzAt ρ 2) dLen) dMod) dItem) (consA (un1 (fun ρ => anyAt ρ 5) dTup) (consA (bV (cmp2 (bin2 (un1 (fun ρ => fzAt ρ 1) dInt) (fun _ => some (.int 2)) dMod) (fun _ => some (.int 0)) dEq)) (fun _ => some [])))))))))
def m__law_matcher : List D → Option D := fun ds => fin (b__law_matcher (startR 6 ds))
theorem ok__law_matcher (T : Txt K mg) : NameOk P w K mg base 1 "_law_matcher" 4 m__law_matcher :=
  name_data T.f__law_matcher sc__law_matcher (fun _ _ _ h => h) fun f cdv A outer s H E hr => ⟨_, (dss_cons (ds_set 4 sc__law_matcher.nd (de_plus (de_var 3).toB (dn_lst (da_cons de_str da_nil)).toE.toB)) (dss_cons (ds_setN 5 sc__law_matcher.nd (dn_lst (da_cons (de_item hr (de_var 4).toB (de_mod (de_toInt T.z_int (de_div (de_var 0).toB de_int.toB).toB).toB (de_len T.z_len (de_var 4).toB).toB).toB) da_nil))) (dss_cons (ds_if (dt_eq (de_mod (de_toInt T.z_int (de_var 1).toB).toB de_int.toB).toB de_int.toB) (dss_one (ds_append 5 (de_item hr (de_var 4).toB (de_mod (de_toInt T.z_int (de_div (de_var 0).toB de_int.toB).toB).toB (de_len T.z_len (de_var 4).toB).toB).toB))) dss_nil) (dss_one (ds_ret (de_tup (da_cons (de_item hr (de_var 2).toB (de_mod (de_toInt T.z_int (de_var 0).toB).toB (de_len T.z_len (de_var 2).toB).toB).toB) (da_cons (de_tuple T.z_tuple (db_var 5)) (da_cons (de_eq (de_mod (de_toInt T.z_int (de_var 1).toB).toB de_int.toB).toB de_int.toB) da_nil)))))))))⟩
/-! _law_route -/
theorem sc__law_route : FnScope ["_law_cell_here", "_law_place", "_law_names", "_law_worths_here", "_law_ladders", "_law_shutters", "_law_draws_here", "_law_parent", "_law_matchers", "_law_k", "_law_group", "_law_interval", "_law_again", "_law_mutes", "_law_policy"] ["_law_cell_here", "_law_place", "_law_names", "_law_worths_here", "_law_ladders", "_law_shutters"] (defScope s__law_route) := ⟨rfl, rfl, rfl, by decide +kernel, rfl, by decide +kernel, by decide +kernel⟩
def L1__law_route : Reg → Out := (appS 8 (callV m__law_matcher (consA (bin2 (fun ρ => fzAt ρ 6) (bin2 (fun _ => some (.int 2)) (bin2 (fun _ => some (.int 2)) (fun ρ => fzAt ρ 9) dMul) dPlus) dItem) (consA (bin2 (fun ρ => fzAt ρ 6) (bin2 (fun _ => some (.int 3)) (bin2 (fun _ => some (.int 2)) (fun ρ => fzAt ρ 9) dMul) dPlus) dItem) (consA (fun ρ => fzAt ρ 2) (consA (fun ρ => fzAt ρ 3) (fun _ => some [])))))))
def C1__law_route : Reg → Option D := (bin2 (fun ρ => fzAt ρ 2) (bin2 (un1 (bin2 (bin2 (fun ρ => fzAt ρ 6) (fun _ => some (.int 7)) dItem) (fun ρ => fzAt ρ 9) dPlus) dInt) (un1 (fun ρ => fzAt ρ 2) dLen) dMod) dItem)
def b__law_route : Reg → Out := (sq (setS 6 (callV m__law_draws (consA (fun ρ => fzAt ρ 0) (consA (fun _ => some (.int 16)) (fun _ => some []))))) (sq (setS 7 (fun _ => some .non)) (sq (setN 8 (lstV (fun _ => some []))) (sq (iteS (cmp2 (fun ρ => fzAt ρ 1) (fun _ => some (.int 0)) dGt) (sq (setS 7 (bin2 (un1 (bin2 (fun ρ => fzAt ρ 6) (fun _ => some (.int 0)) dItem) dInt) (fun ρ => fzAt ρ 1) dMod)) (forS (rng1 (consA (bin2 (un1 (bin2 (fun ρ => fzAt ρ 6) (fun _ => some (.int 1)) dItem) dInt) (fun _ => some (.int 3)) dMod) (fun _ => some []))) (gN 9) L1__law_route)) skip) (sq (setS 10 (lcV (rng1 (consA (bin2 (un1 (bin2 (fun ρ => fzAt ρ 6) (fun _ => some (.int 6)) dItem) dInt) (fun _ => some (.int 3)) dMod) (fun _ => some []))) (gN 9) (fun _ => some true) C1__law_route [9])) (sq (setS 11 (bin2 (fun _ => some (.int 1)) (bin2 (un1 (bin2 (fun ρ => fzAt ρ 6) (fun _ => some (.int 9)) dItem) dInt) (fun _ => some (.int 6)) dMod) dPlus)) (sq (setS 12 (bin2 (fun ρ => fzAt ρ 11) (bin2 (un1 (bin2 (fun ρ => fzAt ρ 6) (fun _ => some (.int 10)) dItem) dInt) (fun _ => some (.int 9)) dMod) dPlus)) (sq (setS 13 (slV (fun ρ => fzAt ρ 5) (fun _ => some none) (parV (bin2 (un1 (bin2 (fun ρ => fzAt ρ 6) (fun _ => some (.int 11)) dItem) dInt) (bin2 (un1 (fun ρ => fzAt ρ 5) dLen) (fun _ => some (.int 1)) dPlus) dMod)) dSlice)) (sq (setS 14 (bin2 (fun ρ => fzAt ρ 4) (bin2 (un1 (bin2 (fun ρ => fzAt ρ 6) (fun _ => some (.int 12)) dItem) dInt) (un1 (fun ρ => fzAt ρ 4) dLen) dMod) dItem)) (retS (tupV (consA (fun ρ => fzAt ρ 7) (consA (un1 (fun ρ => anyAt ρ 8) dTup) (consA (tupV (consA (un1 (fun ρ => fzAt ρ 10) dTup) (consA (bin2 (un1 (bin2 (fun ρ => fzAt ρ 6) (fun _ => some (.int 8)) dItem) dInt) (fun _ => some (.int 5)) dMod) (consA (fun ρ => fzAt ρ 11) (consA (fun ρ => fzAt ρ 12) (consA (un1 (fun ρ => fzAt ρ 13) dTup) (consA (fun ρ => fzAt ρ 14) (fun _ => some [])))))))) (fun _ => some [])))))))))))))))
def m__law_route : List D → Option D := fun ds => fin (b__law_route (startR 15 ds))
theorem ok__law_route (T : Txt K mg) : NameOk P w K mg base 2 "_law_route" 6 m__law_route :=
  name_data T.f__law_route sc__law_route (fun _ _ _ h => h) fun f cdv A outer s H E hr => ⟨_, (dss_cons (ds_set 6 sc__law_route.nd (de_callN (ok__law_draws T) hr (da_cons (de_var 0) (da_cons de_int da_nil)))) (dss_cons (ds_set 7 sc__law_route.nd de_non) (dss_cons (ds_setN 8 sc__law_route.nd (dn_lst da_nil)) (dss_cons (ds_if (dt_gt (de_var 1).toB de_int.toB) (dss_cons (ds_set 7 sc__law_route.nd (de_mod (de_toInt T.z_int (de_item hr (de_var 6).toB de_int.toB).toB).toB (de_var 1).toB)) (dss_one (ds_for PassesOwn.never rfl (di_range1 T.z_range (da_cons (de_mod (de_toInt T.z_int (de_item hr (de_var 6).toB de_int.toB).toB).toB de_int.toB) da_nil)) (dg_name 9 sc__law_route.nd) (dss_one (ds_append 8 (de_callN (ok__law_matcher T) hr (da_cons (de_item hr (de_var 6).toB (de_plus de_int.toB (de_mul de_int.toB (de_var 9).toB).toB).toB) (da_cons (de_item hr (de_var 6).toB (de_plus de_int.toB (de_mul de_int.toB (de_var 9).toB).toB).toB) (da_cons (de_var 2) (da_cons (de_var 3) da_nil)))))))))) dss_nil) (dss_cons (ds_setLc 10 [("_law_k", 9)] rfl sc__law_route.nd (di_range1 T.z_range (da_cons (de_mod (de_toInt T.z_int (de_item hr (de_var 6).toB de_int.toB).toB).toB de_int.toB) da_nil)) (fun _ _ _ _ _ => ⟨_, (dg_name 9 sc__law_route.nd)⟩) (fun _ _ _ _ _ => ⟨_, dts_nil⟩) (fun _ _ _ _ _ => ⟨_, (de_item hr (de_var 2).toB (de_mod (de_toInt T.z_int (de_plus (de_item hr (de_var 6).toB de_int.toB).toB (de_var 9).toB).toB).toB (de_len T.z_len (de_var 2).toB).toB).toB)⟩) (ok := blkOk_by (N := ["_law_cell_here", "_law_place", "_law_names", "_law_worths_here", "_law_ladders", "_law_shutters", "_law_draws_here", "_law_parent", "_law_matchers", "_law_k", "_law_group", "_law_interval", "_law_again", "_law_mutes", "_law_policy"]) (sc := defScope s__law_route) (by decide +kernel))) (dss_cons (ds_set 11 sc__law_route.nd (de_plus de_int.toB (de_mod (de_toInt T.z_int (de_item hr (de_var 6).toB de_int.toB).toB).toB de_int.toB).toB)) (dss_cons (ds_set 12 sc__law_route.nd (de_plus (de_var 11).toB (de_mod (de_toInt T.z_int (de_item hr (de_var 6).toB de_int.toB).toB).toB de_int.toB).toB)) (dss_cons (ds_set 13 sc__law_route.nd (de_slice (de_var 5).toB do_none (do_some (de_mod (de_toInt T.z_int (de_item hr (de_var 6).toB de_int.toB).toB).toB (de_plus (de_len T.z_len (de_var 5).toB).toB de_int.toB).toB).toB))) (dss_cons (ds_set 14 sc__law_route.nd (de_item hr (de_var 4).toB (de_mod (de_toInt T.z_int (de_item hr (de_var 6).toB de_int.toB).toB).toB (de_len T.z_len (de_var 4).toB).toB).toB)) (dss_one (ds_ret (de_tup (da_cons (de_var 7) (da_cons (de_tuple T.z_tuple (db_var 8)) (da_cons (de_tup (da_cons (de_tuple T.z_tuple (de_var 10).toB) (da_cons (de_mod (de_toInt T.z_int (de_item hr (de_var 6).toB de_int.toB).toB).toB de_int.toB) (da_cons (de_var 11) (da_cons (de_var 12) (da_cons (de_tuple T.z_tuple (de_var 13).toB) (da_cons (de_var 14) da_nil))))))) da_nil)))))))))))))))⟩
/-! _law_holds -/
theorem sc__law_holds : FnScope ["_law_cell_here", "_law_names", "_law_worths_here", "_law_draws_here", "_law_holds_here", "_law_k", "_law_part", "_law_source", "_law_target", "_law_equal", "_law_j"] ["_law_cell_here", "_law_names", "_law_worths_here"] (defScope s__law_holds) := ⟨rfl, rfl, rfl, by decide +kernel, rfl, by decide +kernel, by decide +kernel⟩
def C1__law_holds : Reg → Option D := (callV m__law_matcher (consA (bin2 (fun ρ => fzAt ρ 6) (fun _ => some (.int 2)) dItem) (consA (bin2 (fun ρ => fzAt ρ 6) (fun _ => some (.int 3)) dItem) (consA (fun ρ => fzAt ρ 1) (consA (fun ρ => fzAt ρ 2) (fun _ => some []))))))
def C2__law_holds : Reg → Option D := (bin2 (fun ρ => fzAt ρ 1) (bin2 (un1 (bin2 (bin2 (fun ρ => fzAt ρ 6) (fun _ => some (.int 6)) dItem) (fun ρ => fzAt ρ 10) dPlus) dInt) (un1 (fun ρ => fzAt ρ 1) dLen) dMod) dItem)
def L1__law_holds : Reg → Out := (sq (setS 6 (slV (fun ρ => fzAt ρ 3) (parV (bin2 (fun _ => some (.int 2)) (bin2 (fun _ => some (.int 9)) (fun ρ => fzAt ρ 5) dMul) dPlus)) (parV (bin2 (fun _ => some (.int 11)) (bin2 (fun _ => some (.int 9)) (fun ρ => fzAt ρ 5) dMul) dPlus)) dSlice)) (sq (setS 7 (lstV (consA (callV m__law_matcher (consA (bin2 (fun ρ => fzAt ρ 6) (fun _ => some (.int 0)) dItem) (consA (bin2 (fun ρ => fzAt ρ 6) (fun _ => some (.int 1)) dItem) (consA (fun ρ => fzAt ρ 1) (consA (fun ρ => fzAt ρ 2) (fun _ => some [])))))) (fun _ => some [])))) (sq (setS 8 (lcV (rng1 (consA (bin2 (un1 (bin2 (fun ρ => fzAt ρ 6) (fun _ => some (.int 4)) dItem) dInt) (fun _ => some (.int 2)) dMod) (fun _ => some []))) (gN 10) (fun _ => some true) C1__law_holds [10])) (sq (setS 9 (lcV (rng1 (consA (bin2 (un1 (bin2 (fun ρ => fzAt ρ 6) (fun _ => some (.int 5)) dItem) dInt) (fun _ => some (.int 3)) dMod) (fun _ => some []))) (gN 10) (fun _ => some true) C2__law_holds [10])) (appS 4 (tupV (consA (un1 (fun ρ => fzAt ρ 7) dTup) (consA (un1 (fun ρ => fzAt ρ 8) dTup) (consA (un1 (fun ρ => fzAt ρ 9) dTup) (fun _ => some []))))))))))
def b__law_holds : Reg → Out := (sq (setS 3 (callV m__law_draws (consA (fun ρ => fzAt ρ 0) (consA (fun _ => some (.int 20)) (fun _ => some []))))) (sq (setN 4 (lstV (fun _ => some []))) (sq (forS (rng1 (consA (bin2 (un1 (bin2 (fun ρ => fzAt ρ 3) (fun _ => some (.int 0)) dItem) dInt) (fun _ => some (.int 3)) dMod) (fun _ => some []))) (gN 5) L1__law_holds) (frzS 4 (retS (fun ρ => fzAt ρ 4))))))
def m__law_holds : List D → Option D := fun ds => fin (b__law_holds (startR 11 ds))
theorem ok__law_holds (T : Txt K mg) : NameOk P w K mg base 2 "_law_holds" 3 m__law_holds :=
  name_data T.f__law_holds sc__law_holds (fun _ _ _ h => h) fun f cdv A outer s H E hr => ⟨_, (dss_cons (ds_set 3 sc__law_holds.nd (de_callN (ok__law_draws T) hr (da_cons (de_var 0) (da_cons de_int da_nil)))) (dss_cons (ds_setN 4 sc__law_holds.nd (dn_lst da_nil)) (dss_cons (ds_for PassesOwn.never rfl (di_range1 T.z_range (da_cons (de_mod (de_toInt T.z_int (de_item hr (de_var 3).toB de_int.toB).toB).toB de_int.toB) da_nil)) (dg_name 5 sc__law_holds.nd) (dss_cons (ds_set 6 sc__law_holds.nd (de_slice (de_var 3).toB (do_some (de_plus de_int.toB (de_mul de_int.toB (de_var 5).toB).toB).toB) (do_some (de_plus de_int.toB (de_mul de_int.toB (de_var 5).toB).toB).toB))) (dss_cons (ds_set 7 sc__law_holds.nd (dn_lst (da_cons (de_callN (ok__law_matcher T) hr (da_cons (de_item hr (de_var 6).toB de_int.toB) (da_cons (de_item hr (de_var 6).toB de_int.toB) (da_cons (de_var 1) (da_cons (de_var 2) da_nil))))) da_nil)).toE) (dss_cons (ds_setLc 8 [("_law_j", 10)] rfl sc__law_holds.nd (di_range1 T.z_range (da_cons (de_mod (de_toInt T.z_int (de_item hr (de_var 6).toB de_int.toB).toB).toB de_int.toB) da_nil)) (fun _ _ _ _ _ => ⟨_, (dg_name 10 sc__law_holds.nd)⟩) (fun _ _ _ _ _ => ⟨_, dts_nil⟩) (fun _ _ _ _ _ => ⟨_, (de_callN (ok__law_matcher T) hr (da_cons (de_item hr (de_var 6).toB de_int.toB) (da_cons (de_item hr (de_var 6).toB de_int.toB) (da_cons (de_var 1) (da_cons (de_var 2) da_nil)))))⟩) (ok := blkOk_by (N := ["_law_cell_here", "_law_names", "_law_worths_here", "_law_draws_here", "_law_holds_here", "_law_k", "_law_part", "_law_source", "_law_target", "_law_equal", "_law_j"]) (sc := defScope s__law_holds) (by decide +kernel))) (dss_cons (ds_setLc 9 [("_law_j", 10)] rfl sc__law_holds.nd (di_range1 T.z_range (da_cons (de_mod (de_toInt T.z_int (de_item hr (de_var 6).toB de_int.toB).toB).toB de_int.toB) da_nil)) (fun _ _ _ _ _ => ⟨_, (dg_name 10 sc__law_holds.nd)⟩) (fun _ _ _ _ _ => ⟨_, dts_nil⟩) (fun _ _ _ _ _ => ⟨_, (de_item hr (de_var 1).toB (de_mod (de_toInt T.z_int (de_plus (de_item hr (de_var 6).toB de_int.toB).toB (de_var 10).toB).toB).toB (de_len T.z_len (de_var 1).toB).toB).toB)⟩) (ok := blkOk_by (N := ["_law_cell_here", "_law_names", "_law_worths_here", "_law_draws_here", "_law_holds_here", "_law_k", "_law_part", "_law_source", "_law_target", "_law_equal", "_law_j"]) (sc := defScope s__law_holds) (by decide +kernel))) (dss_one (ds_append 4 (de_tup (da_cons (de_tuple T.z_tuple (de_var 7).toB) (da_cons (de_tuple T.z_tuple (de_var 8).toB) (da_cons (de_tuple T.z_tuple (de_var 9).toB) da_nil))))))))))) (dss_one (ds_frz 4 (ds_ret (de_var 4)))))))⟩
/-! require -/
theorem sc_require : FnScope ["part", "flags", "place", "flag"] ["part", "flags"] (defScope s_require) := ⟨rfl, rfl, rfl, by decide +kernel, rfl, by decide +kernel, by decide +kernel⟩
def L1_require : Reg → Out := (iteS (notT (truT (fun ρ => fzAt ρ 3))) (fun _ => .bad) skip)
def b_require : Reg → Out := (forS (enumV (consA (fun ρ => fzAt ρ 1) (fun _ => some []))) (gT (gsC (gN 2) (gsC (gN 3) gsN))) L1_require)
def m_require : List D → Option D := fun ds => fin (b_require (startR 4 ds))
theorem ok_require (T : Txt K mg) : NameOk P w K mg base 1 "require" 2 m_require :=
  name_data T.f_require sc_require (fun _ _ _ h => h) fun f cdv A outer s H E hr => ⟨_, (dss_one (ds_for PassesOwn.never rfl (di_enumerate T.z_enumerate (da_cons (de_var 1) da_nil)) (dg_tup 2 rfl (dgs_cons (dg_name 2 sc_require.nd) (dgs_cons (dg_name 3 sc_require.nd) dgs_nil)) (gsC_len (gsC_len gsN_len))) (dss_one (ds_if (dt_not (dt_tru (de_var 3).toB)) (dss_one ds_never) dss_nil))))⟩
/-! is_between -/
theorem sc_is_between : FnScope ["low", "n", "high"] ["low", "n", "high"] (defScope s_is_between) := ⟨rfl, rfl, rfl, by decide +kernel, rfl, by decide +kernel, by decide +kernel⟩
def b_is_between : Reg → Out := (retS (bV (chn (fun ρ => fzAt ρ 0) (fun ρ => fzAt ρ 1) (fun ρ => fzAt ρ 2) dLe dLe)))
def m_is_between : List D → Option D := fun ds => fin (b_is_between (startR 3 ds))
theorem ok_is_between (T : Txt K mg) : NameOk P w K mg base 1 "is_between" 3 m_is_between :=
  name_data T.f_is_between sc_is_between (fun _ _ _ h => h) fun f cdv A outer s H E hr => ⟨_, (dss_one (ds_ret (de_chain op_le op_le rd_le rd_le (de_var 0).toB (de_var 1).toB (de_var 2).toB)))⟩
/-! is_value -/
theorem sc_is_value : FnScope ["text", "char"] ["text"] (defScope s_is_value) := ⟨rfl, rfl, rfl, by decide +kernel, rfl, by decide +kernel, by decide +kernel⟩
def L1_is_value : Reg → Out := (iteS (cmp2 (fun ρ => fzAt ρ 1) (fun _ => some (.str (lit "abcdefghijklmnopqrstuvwxyz0123456789_"))) dNotMem) (retS (fun _ => some (.bl false))) skip)
def b_is_value : Reg → Out := (sq (iteS (orT (cmp2 (fun ρ => fzAt ρ 0) (fun _ => some (.str (lit ""))) dEq) (cmp2 (un1 (fun ρ => fzAt ρ 0) dLen) (fun _ => some (.int 20)) dGt)) (retS (fun _ => some (.bl false))) skip) (sq (forS (itV (fun ρ => fzAt ρ 0)) (gN 1) L1_is_value) (retS (fun _ => some (.bl true)))))
def m_is_value : List D → Option D := fun ds => fin (b_is_value (startR 2 ds))
theorem ok_is_value (T : Txt K mg) : NameOk P w K mg base 1 "is_value" 1 m_is_value :=
  name_data T.f_is_value sc_is_value (fun _ _ _ h => h) fun f cdv A outer s H E hr => ⟨_, (dss_cons (ds_if (dw_or (dt_eq (de_var 0).toB de_str.toB) (dw_or1 (dt_gt (de_len T.z_len (de_var 0).toB).toB (de_cint T.c_MOST_CHARS).toB))).toT (dss_one (ds_ret de_bl)) dss_nil) (dss_cons (ds_for PassesOwn.never rfl (di_any (de_var 0)) (dg_name 1 sc_is_value.nd) (dss_one (ds_if (dt_notMem hr (de_var 1).toB (de_cstr T.c_WORD_CHARS).toB) (dss_one (ds_ret de_bl)) dss_nil))) (dss_one (ds_ret de_bl))))⟩
/-! is_name -/
theorem sc_is_name : FnScope ["text"] ["text"] (defScope s_is_name) := ⟨rfl, rfl, rfl, by decide +kernel, rfl, by decide +kernel, by decide +kernel⟩
def b_is_name : Reg → Out := (retS (andV (callV m_is_value (consA (fun ρ => fzAt ρ 0) (fun _ => some []))) (bV (cmp2 (bin2 (fun ρ => fzAt ρ 0) (fun _ => some (.int 0)) dItem) (fun _ => some (.str (lit "abcdefghijklmnopqrstuvwxyz"))) dMem))))
def m_is_name : List D → Option D := fun ds => fin (b_is_name (startR 1 ds))
theorem ok_is_name (T : Txt K mg) : NameOk P w K mg base 2 "is_name" 1 m_is_name :=
  name_data T.f_is_name sc_is_name (fun _ _ _ h => h) fun f cdv A outer s H E hr => ⟨_, (dss_one (ds_ret (de_and (de_callN (ok_is_value T) hr (da_cons (de_var 0) da_nil)) (de_one (de_mem hr (de_item hr (de_var 0).toB de_int.toB).toB (de_cstr T.c_LETTERS).toB)))))⟩
/-! names_of -/
theorem sc_names_of : FnScope ["entries", "entry"] ["entries"] (defScope s_names_of) := ⟨rfl, rfl, rfl, by decide +kernel, rfl, by decide +kernel, by decide +kernel⟩
def C1_names_of : Reg → Option D := (bin2 (fun ρ => fzAt ρ 1) (fun _ => some (.int 0)) dItem)
def b_names_of : Reg → Out := (retS (lcV (itV (fun ρ => fzAt ρ 0)) (gN 1) (fun _ => some true) C1_names_of [1]))
def m_names_of : List D → Option D := fun ds => fin (b_names_of (startR 2 ds))
theorem ok_names_of (T : Txt K mg) : NameOk P w K mg base 1 "names_of" 1 m_names_of :=
  name_data T.f_names_of sc_names_of (fun _ _ _ h => h) fun f cdv A outer s H E hr => ⟨_, (dss_one (ds_ret (dn_lc [("entry", 1)] rfl sc_names_of.nd (di_any (de_var 0)) (fun _ _ _ _ _ => ⟨_, (dg_name 1 sc_names_of.nd)⟩) (fun _ _ _ _ _ => ⟨_, dts_nil⟩) (fun _ _ _ _ _ => ⟨_, (de_item hr (de_var 1).toB de_int.toB)⟩) (ok := blkOk_by (N := ["entries", "entry"]) (sc := defScope s_names_of) (by decide +kernel))).toE))⟩
/-! is_new_name -/
theorem sc_is_new_name : FnScope ["entries", "place", "name"] ["entries", "place"] (defScope s_is_new_name) := ⟨rfl, rfl, rfl, by decide +kernel, rfl, by decide +kernel, by decide +kernel⟩
def b_is_new_name : Reg → Out := (sq (setS 2 (bin2 (bin2 (fun ρ => fzAt ρ 0) (fun ρ => fzAt ρ 1) dItem) (fun _ => some (.int 0)) dItem)) (retS (andV (callV m_is_name (consA (fun ρ => fzAt ρ 2) (fun _ => some []))) (bV (cmp2 (fun ρ => fzAt ρ 2) (callV m_names_of (consA (slV (fun ρ => fzAt ρ 0) (fun _ => some none) (parV (fun ρ => fzAt ρ 1)) dSlice) (fun _ => some []))) dNotMem)))))
def m_is_new_name : List D → Option D := fun ds => fin (b_is_new_name (startR 3 ds))
theorem ok_is_new_name (T : Txt K mg) : NameOk P w K mg base 3 "is_new_name" 2 m_is_new_name :=
  name_data T.f_is_new_name sc_is_new_name (fun _ _ _ h => h) fun f cdv A outer s H E hr => ⟨_, (dss_cons (ds_set 2 sc_is_new_name.nd (de_item hr (de_item hr (de_var 0).toB (de_var 1).toB).toB de_int.toB)) (dss_one (ds_ret (de_and (de_callN (ok_is_name T) hr (da_cons (de_var 2) da_nil)) (de_one (de_notMem hr (de_var 2).toB (de_callN (ok_names_of T) hr (da_cons (de_slice (de_var 0).toB do_none (do_some (de_var 1).toB)) da_nil)).toB))))))⟩
/-! all_true -/
theorem sc_all_true : FnScope ["flags", "flag"] ["flags"] (defScope s_all_true) := ⟨rfl, rfl, rfl, by decide +kernel, rfl, by decide +kernel, by decide +kernel⟩
def L1_all_true : Reg → Out := (iteS (notT (truT (fun ρ => fzAt ρ 1))) (retS (fun _ => some (.bl false))) skip)
def b_all_true : Reg → Out := (sq (forS (itV (fun ρ => fzAt ρ 0)) (gN 1) L1_all_true) (retS (fun _ => some (.bl true))))
def m_all_true : List D → Option D := fun ds => fin (b_all_true (startR 2 ds))
theorem ok_all_true (T : Txt K mg) : NameOk P w K mg base 1 "all_true" 1 m_all_true :=
  name_data T.f_all_true sc_all_true (fun _ _ _ h => h) fun f cdv A outer s H E hr => ⟨_, (dss_cons (ds_for PassesOwn.never rfl (di_any (de_var 0)) (dg_name 1 sc_all_true.nd) (dss_one (ds_if (dt_not (dt_tru (de_var 1).toB)) (dss_one (ds_ret de_bl)) dss_nil))) (dss_one (ds_ret de_bl)))⟩
/-! span_fits -/
theorem sc_span_fits : FnScope ["week", "span"] ["week", "span"] (defScope s_span_fits) := ⟨rfl, rfl, rfl, by decide +kernel, rfl, by decide +kernel, by decide +kernel⟩
def b_span_fits : Reg → Out := (retS (bV (chn3 (fun _ => some (.int 0)) (bin2 (fun ρ => fzAt ρ 1) (fun _ => some (.int 0)) dItem) (bin2 (fun ρ => fzAt ρ 1) (fun _ => some (.int 1)) dItem) (fun ρ => fzAt ρ 0) dLe dLt dLe)))
def m_span_fits : List D → Option D := fun ds => fin (b_span_fits (startR 2 ds))
theorem ok_span_fits (T : Txt K mg) : NameOk P w K mg base 1 "span_fits" 2 m_span_fits :=
  name_data T.f_span_fits sc_span_fits (fun _ _ _ h => h) fun f cdv A outer s H E hr => ⟨_, (dss_one (ds_ret (de_chain3 op_le op_lt op_le rd_le rd_lt rd_le de_int.toB (de_item hr (de_var 1).toB de_int.toB).toB (de_item hr (de_var 1).toB de_int.toB).toB (de_var 0).toB)))⟩
/-! layer_fits -/
theorem sc_layer_fits : FnScope ["week", "people", "layer", "members", "start", "shift", "spans", "span", "member"] ["week", "people", "layer"] (defScope s_layer_fits) := ⟨rfl, rfl, rfl, by decide +kernel, rfl, by decide +kernel, by decide +kernel⟩
def C1_layer_fits : Reg → Option D := (bV (cmp2 (fun ρ => fzAt ρ 8) (fun ρ => fzAt ρ 1) dMem))
def C2_layer_fits : Reg → Option D := (callV m_span_fits (consA (fun ρ => fzAt ρ 0) (consA (fun ρ => fzAt ρ 7) (fun _ => some []))))
def b_layer_fits : Reg → Out := (sq (asgS (fun ρ => fzAt ρ 2) (gT (gsC (gN 3) (gsC (gN 4) (gsC (gN 5) (gsC (gN 6) gsN)))))) (sq (iteS (orT (notT (truT (callV m_is_between (consA (fun _ => some (.int 1)) (consA (un1 (fun ρ => fzAt ρ 3) dLen) (consA (fun _ => some (.int 10)) (fun _ => some []))))))) (notT (truT (callV m_is_between (consA (fun _ => some (.int 1)) (consA (fun ρ => fzAt ρ 5) (consA (fun _ => some (.int 1000)) (fun _ => some [])))))))) (retS (fun _ => some (.bl false))) skip) (sq (iteS (orT (notT (truT (callV m_is_between (consA (fun _ => some (.int 0)) (consA (fun ρ => fzAt ρ 4) (consA (fun _ => some (.int 10000)) (fun _ => some []))))))) (notT (truT (callV m_all_true (consA (lcV (itV (fun ρ => fzAt ρ 3)) (gN 8) (fun _ => some true) C1_layer_fits [8]) (fun _ => some [])))))) (retS (fun _ => some (.bl false))) skip) (retS (callV m_all_true (consA (lcV (itV (fun ρ => fzAt ρ 6)) (gN 7) (fun _ => some true) C2_layer_fits [7]) (fun _ => some [])))))))
def m_layer_fits : List D → Option D := fun ds => fin (b_layer_fits (startR 9 ds))
theorem ok_layer_fits (T : Txt K mg) : NameOk P w K mg base 2 "layer_fits" 3 m_layer_fits :=
  name_data T.f_layer_fits sc_layer_fits (fun _ _ _ h => h) fun f cdv A outer s H E hr => ⟨_, (dss_cons (ds_asg (de_var 2) (dg_tup 4 rfl (dgs_cons (dg_name 3 sc_layer_fits.nd) (dgs_cons (dg_name 4 sc_layer_fits.nd) (dgs_cons (dg_name 5 sc_layer_fits.nd) (dgs_cons (dg_name 6 sc_layer_fits.nd) dgs_nil)))) (gsC_len (gsC_len (gsC_len (gsC_len gsN_len)))))) (dss_cons (ds_if (dw_or (dt_not (dt_tru (de_callN (ok_is_between T) hr (da_cons de_int (da_cons (de_len T.z_len (de_var 3).toB) (da_cons de_int da_nil)))).toB)) (dw_or1 (dt_not (dt_tru (de_callN (ok_is_between T) hr (da_cons de_int (da_cons (de_var 5) (da_cons (de_cint T.c_LONGEST_checks) da_nil)))).toB)))).toT (dss_one (ds_ret de_bl)) dss_nil) (dss_cons (ds_if (dw_or (dt_not (dt_tru (de_callN (ok_is_between T) hr (da_cons de_int (da_cons (de_var 4) (da_cons (de_cint T.c_LAST_TIME) da_nil)))).toB)) (dw_or1 (dt_not (dt_tru (de_callN (ok_all_true T) hr (da_cons (dn_lc [("member", 8)] rfl sc_layer_fits.nd (di_any (de_var 3)) (fun _ _ _ _ _ => ⟨_, (dg_name 8 sc_layer_fits.nd)⟩) (fun _ _ _ _ _ => ⟨_, dts_nil⟩) (fun _ _ _ _ _ => ⟨_, (de_mem hr (de_var 8).toB (de_var 1).toB)⟩) (ok := blkOk_by (N := ["week", "people", "layer", "members", "start", "shift", "spans", "span", "member"]) (sc := defScope s_layer_fits) (by decide +kernel))).toE da_nil)).toB)))).toT (dss_one (ds_ret de_bl)) dss_nil) (dss_one (ds_ret (de_callN (ok_all_true T) hr (da_cons (dn_lc [("span", 7)] rfl sc_layer_fits.nd (di_any (de_var 6)) (fun _ _ _ _ _ => ⟨_, (dg_name 7 sc_layer_fits.nd)⟩) (fun _ _ _ _ _ => ⟨_, dts_nil⟩) (fun _ _ _ _ _ => ⟨_, (de_callN (ok_span_fits T) hr (da_cons (de_var 0) (da_cons (de_var 7) da_nil)))⟩) (ok := blkOk_by (N := ["week", "people", "layer", "members", "start", "shift", "spans", "span", "member"]) (sc := defScope s_layer_fits) (by decide +kernel))).toE da_nil)))))))⟩
/-! standin_fits -/
theorem sc_standin_fits : FnScope ["people", "standin", "first", "last", "person"] ["people", "standin"] (defScope s_standin_fits) := ⟨rfl, rfl, rfl, by decide +kernel, rfl, by decide +kernel, by decide +kernel⟩
def b_standin_fits : Reg → Out := (sq (asgS (fun ρ => fzAt ρ 1) (gT (gsC (gN 2) (gsC (gN 3) (gsC (gN 4) gsN))))) (retS (andV (bV (chn3 (fun _ => some (.int 0)) (fun ρ => fzAt ρ 2) (fun ρ => fzAt ρ 3) (fun _ => some (.int 10000)) dLe dLt dLe)) (bV (cmp2 (fun ρ => fzAt ρ 4) (fun ρ => fzAt ρ 0) dMem)))))
def m_standin_fits : List D → Option D := fun ds => fin (b_standin_fits (startR 5 ds))
theorem ok_standin_fits (T : Txt K mg) : NameOk P w K mg base 1 "standin_fits" 2 m_standin_fits :=
  name_data T.f_standin_fits sc_standin_fits (fun _ _ _ h => h) fun f cdv A outer s H E hr => ⟨_, (dss_cons (ds_asg (de_var 1) (dg_tup 3 rfl (dgs_cons (dg_name 2 sc_standin_fits.nd) (dgs_cons (dg_name 3 sc_standin_fits.nd) (dgs_cons (dg_name 4 sc_standin_fits.nd) dgs_nil))) (gsC_len (gsC_len (gsC_len gsN_len))))) (dss_one (ds_ret (de_and (de_chain3 op_le op_lt op_le rd_le rd_lt rd_le de_int.toB (de_var 2).toB (de_var 3).toB (de_cint T.c_LAST_TIME).toB) (de_one (de_mem hr (de_var 4).toB (de_var 0).toB))))))⟩
/-! schedule_fits -/
theorem sc_schedule_fits : FnScope ["week", "people", "schedule", "layers", "standins", "standin", "layer"] ["week", "people", "schedule"] (defScope s_schedule_fits) := ⟨rfl, rfl, rfl, by decide +kernel, rfl, by decide +kernel, by decide +kernel⟩
def C1_schedule_fits : Reg → Option D := (callV m_layer_fits (consA (fun ρ => fzAt ρ 0) (consA (fun ρ => fzAt ρ 1) (consA (fun ρ => fzAt ρ 6) (fun _ => some [])))))
def C2_schedule_fits : Reg → Option D := (callV m_standin_fits (consA (fun ρ => fzAt ρ 1) (consA (fun ρ => fzAt ρ 5) (fun _ => some []))))
def b_schedule_fits : Reg → Out := (sq (asgS (slV (fun ρ => fzAt ρ 2) (parV (fun _ => some (.int 1))) (fun _ => some none) dSlice) (gT (gsC (gN 3) (gsC (gN 4) gsN)))) (sq (iteS (orT (cmp2 (un1 (fun ρ => fzAt ρ 3) dLen) (fun _ => some (.int 6)) dGt) (cmp2 (un1 (fun ρ => fzAt ρ 4) dLen) (fun _ => some (.int 20)) dGt)) (retS (fun _ => some (.bl false))) skip) (sq (iteS (notT (truT (callV m_all_true (consA (lcV (itV (fun ρ => fzAt ρ 3)) (gN 6) (fun _ => some true) C1_schedule_fits [6]) (fun _ => some []))))) (retS (fun _ => some (.bl false))) skip) (retS (callV m_all_true (consA (lcV (itV (fun ρ => fzAt ρ 4)) (gN 5) (fun _ => some true) C2_schedule_fits [5]) (fun _ => some [])))))))
def m_schedule_fits : List D → Option D := fun ds => fin (b_schedule_fits (startR 7 ds))
theorem ok_schedule_fits (T : Txt K mg) : NameOk P w K mg base 3 "schedule_fits" 3 m_schedule_fits :=
  name_data T.f_schedule_fits sc_schedule_fits (fun _ _ _ h => h) fun f cdv A outer s H E hr => ⟨_, (dss_cons (ds_asg (de_slice (de_var 2).toB (do_some de_int.toB) do_none) (dg_tup 2 rfl (dgs_cons (dg_name 3 sc_schedule_fits.nd) (dgs_cons (dg_name 4 sc_schedule_fits.nd) dgs_nil)) (gsC_len (gsC_len gsN_len)))) (dss_cons (ds_if (dw_or (dt_gt (de_len T.z_len (de_var 3).toB).toB (de_cint T.c_MOST).toB) (dw_or1 (dt_gt (de_len T.z_len (de_var 4).toB).toB de_int.toB))).toT (dss_one (ds_ret de_bl)) dss_nil) (dss_cons (ds_if (dt_not (dt_tru (de_callN (ok_all_true T) hr (da_cons (dn_lc [("layer", 6)] rfl sc_schedule_fits.nd (di_any (de_var 3)) (fun _ _ _ _ _ => ⟨_, (dg_name 6 sc_schedule_fits.nd)⟩) (fun _ _ _ _ _ => ⟨_, dts_nil⟩) (fun _ _ _ _ _ => ⟨_, (de_callN (ok_layer_fits T) hr (da_cons (de_var 0) (da_cons (de_var 1) (da_cons (de_var 6) da_nil))))⟩) (ok := blkOk_by (N := ["week", "people", "schedule", "layers", "standins", "standin", "layer"]) (sc := defScope s_schedule_fits) (by decide +kernel))).toE da_nil)).toB)) (dss_one (ds_ret de_bl)) dss_nil) (dss_one (ds_ret (de_callN (ok_all_true T) hr (da_cons (dn_lc [("standin", 5)] rfl sc_schedule_fits.nd (di_any (de_var 4)) (fun _ _ _ _ _ => ⟨_, (dg_name 5 sc_schedule_fits.nd)⟩) (fun _ _ _ _ _ => ⟨_, dts_nil⟩) (fun _ _ _ _ _ => ⟨_, (de_callN (ok_standin_fits T) hr (da_cons (de_var 1) (da_cons (de_var 5) da_nil)))⟩) (ok := blkOk_by (N := ["week", "people", "schedule", "layers", "standins", "standin", "layer"]) (sc := defScope s_schedule_fits) (by decide +kernel))).toE da_nil)))))))⟩
/-! check_people -/
theorem sc_check_people : FnScope ["made", "flags", "place", "person", "people", "schedule"] ["made"] (defScope s_check_people) := ⟨rfl, rfl, rfl, by decide +kernel, rfl, by decide +kernel, by decide +kernel⟩
def L1_check_people : Reg → Out := (appS 1 (andV (callV m_is_new_name (consA (un1 (fun ρ => fzAt ρ 0) (dFld "Setup" "people")) (consA (fun ρ => fzAt ρ 2) (fun _ => some [])))) (callV m_is_between (consA (fun _ => some (.int 0)) (consA (bin2 (fun ρ => fzAt ρ 3) (fun _ => some (.int 1)) dItem) (consA (fun _ => some (.int 20)) (fun _ => some [])))))))
def L2_check_people : Reg → Out := (appS 1 (andV (callV m_is_new_name (consA (un1 (fun ρ => fzAt ρ 0) (dFld "Setup" "schedules")) (consA (fun ρ => fzAt ρ 2) (fun _ => some [])))) (callV m_schedule_fits (consA (un1 (fun ρ => fzAt ρ 0) (dFld "Setup" "week")) (consA (fun ρ => fzAt ρ 4) (consA (fun ρ => fzAt ρ 5) (fun _ => some [])))))))
def b_check_people : Reg → Out := (sq (dropS (callV m_require (consA (fun _ => some (.str (lit "week"))) (consA (lstV (consA (callV m_is_between (consA (fun _ => some (.int 1)) (consA (un1 (fun ρ => fzAt ρ 0) (dFld "Setup" "week")) (consA (fun _ => some (.int 2000)) (fun _ => some []))))) (fun _ => some []))) (fun _ => some []))))) (sq (setN 1 (lstV (fun _ => some []))) (sq (forS (enumV (consA (un1 (fun ρ => fzAt ρ 0) (dFld "Setup" "people")) (fun _ => some []))) (gT (gsC (gN 2) (gsC (gN 3) gsN))) L1_check_people) (sq (frzS 1 (dropS (callV m_require (consA (fun _ => some (.str (lit "people"))) (consA (fun ρ => fzAt ρ 1) (fun _ => some [])))))) (sq (setS 4 (callV m_names_of (consA (un1 (fun ρ => fzAt ρ 0) (dFld "Setup" "people")) (fun _ => some [])))) (sq (setN 1 (lstV (fun _ => some []))) (sq (forS (enumV (consA (un1 (fun ρ => fzAt ρ 0) (dFld "Setup" "schedules")) (fun _ => some []))) (gT (gsC (gN 2) (gsC (gN 5) gsN))) L2_check_people) (frzS 1 (dropS (callV m_require (consA (fun _ => some (.str (lit "schedules"))) (consA (fun ρ => fzAt ρ 1) (fun _ => some [])))))))))))))
def m_check_people : List D → Option D := fun ds => fin (b_check_people (startR 6 ds))
theorem ok_check_people (T : Txt K mg) : NameOk P w K mg base 4 "check_people" 1 m_check_people :=
  name_data T.f_check_people sc_check_people (fun _ _ _ h => h) fun f cdv A outer s H E hr => ⟨_, (dss_cons (ds_expr (de_callN (ok_require T) hr (da_cons de_str (da_cons (dn_lst (da_cons (de_callN (ok_is_between T) hr (da_cons de_int (da_cons (de_fld T.q_Setup (by decide +kernel) (de_var 0).toB) (da_cons de_int da_nil)))) da_nil)).toE da_nil)))) (dss_cons (ds_setN 1 sc_check_people.nd (dn_lst da_nil)) (dss_cons (ds_for PassesOwn.never rfl (di_enumerate T.z_enumerate (da_cons (de_fld T.q_Setup (by decide +kernel) (de_var 0).toB) da_nil)) (dg_tup 2 rfl (dgs_cons (dg_name 2 sc_check_people.nd) (dgs_cons (dg_name 3 sc_check_people.nd) dgs_nil)) (gsC_len (gsC_len gsN_len))) (dss_one (ds_append 1 (de_and (de_callN (ok_is_new_name T) hr (da_cons (de_fld T.q_Setup (by decide +kernel) (de_var 0).toB) (da_cons (de_var 2) da_nil))) (de_one (de_callN (ok_is_between T) hr (da_cons de_int (da_cons (de_item hr (de_var 3).toB de_int.toB) (da_cons de_int da_nil))))))))) (dss_cons (ds_frz 1 (ds_expr (de_callN (ok_require T) hr (da_cons de_str (da_cons (de_var 1) da_nil))))) (dss_cons (ds_set 4 sc_check_people.nd (de_callN (ok_names_of T) hr (da_cons (de_fld T.q_Setup (by decide +kernel) (de_var 0).toB) da_nil))) (dss_cons (ds_setN 1 sc_check_people.nd (dn_lst da_nil)) (dss_cons (ds_for PassesOwn.never rfl (di_enumerate T.z_enumerate (da_cons (de_fld T.q_Setup (by decide +kernel) (de_var 0).toB) da_nil)) (dg_tup 2 rfl (dgs_cons (dg_name 2 sc_check_people.nd) (dgs_cons (dg_name 5 sc_check_people.nd) dgs_nil)) (gsC_len (gsC_len gsN_len))) (dss_one (ds_append 1 (de_and (de_callN (ok_is_new_name T) hr (da_cons (de_fld T.q_Setup (by decide +kernel) (de_var 0).toB) (da_cons (de_var 2) da_nil))) (de_one (de_callN (ok_schedule_fits T) hr (da_cons (de_fld T.q_Setup (by decide +kernel) (de_var 0).toB) (da_cons (de_var 4) (da_cons (de_var 5) da_nil))))))))) (dss_one (ds_frz 1 (ds_expr (de_callN (ok_require T) hr (da_cons de_str (da_cons (de_var 1) da_nil)))))))))))))⟩
/-! policy_fits -/
theorem sc_policy_fits : FnScope ["schedules", "policy", "levels", "name", "after"] ["schedules", "policy"] (defScope s_policy_fits) := ⟨rfl, rfl, rfl, by decide +kernel, rfl, by decide +kernel, by decide +kernel⟩
def C1_policy_fits : Reg → Option D := (andV (bV (cmp2 (fun ρ => fzAt ρ 3) (fun ρ => fzAt ρ 0) dMem)) (callV m_is_between (consA (fun _ => some (.int 0)) (consA (fun ρ => fzAt ρ 4) (consA (fun _ => some (.int 1000)) (fun _ => some []))))))
def b_policy_fits : Reg → Out := (sq (setS 2 (bin2 (fun ρ => fzAt ρ 1) (fun _ => some (.int 1)) dItem)) (sq (iteS (notT (truT (callV m_is_between (consA (fun _ => some (.int 1)) (consA (un1 (fun ρ => fzAt ρ 2) dLen) (consA (fun _ => some (.int 6)) (fun _ => some []))))))) (retS (fun _ => some (.bl false))) skip) (retS (callV m_all_true (consA (lcV (itV (fun ρ => fzAt ρ 2)) (gT (gsC (gN 3) (gsC (gN 4) gsN))) (fun _ => some true) C1_policy_fits [3, 4]) (fun _ => some []))))))
def m_policy_fits : List D → Option D := fun ds => fin (b_policy_fits (startR 5 ds))
theorem ok_policy_fits (T : Txt K mg) : NameOk P w K mg base 2 "policy_fits" 2 m_policy_fits :=
  name_data T.f_policy_fits sc_policy_fits (fun _ _ _ h => h) fun f cdv A outer s H E hr => ⟨_, (dss_cons (ds_set 2 sc_policy_fits.nd (de_item hr (de_var 1).toB de_int.toB)) (dss_cons (ds_if (dt_not (dt_tru (de_callN (ok_is_between T) hr (da_cons de_int (da_cons (de_len T.z_len (de_var 2).toB) (da_cons (de_cint T.c_MOST) da_nil)))).toB)) (dss_one (ds_ret de_bl)) dss_nil) (dss_one (ds_ret (de_callN (ok_all_true T) hr (da_cons (dn_lc [("name", 3), ("after", 4)] rfl sc_policy_fits.nd (di_any (de_var 2)) (fun _ _ _ _ _ => ⟨_, (dg_tup 2 rfl (dgs_cons (dg_name 3 sc_policy_fits.nd) (dgs_cons (dg_name 4 sc_policy_fits.nd) dgs_nil)) (gsC_len (gsC_len gsN_len)))⟩) (fun _ _ _ _ _ => ⟨_, dts_nil⟩) (fun _ _ _ _ _ => ⟨_, (de_and (de_mem hr (de_var 3).toB (de_var 0).toB) (de_one (de_callN (ok_is_between T) hr (da_cons de_int (da_cons (de_var 4) (da_cons (de_cint T.c_LONGEST_checks) da_nil))))))⟩) (ok := blkOk_by (N := ["schedules", "policy", "levels", "name", "after"]) (sc := defScope s_policy_fits) (by decide +kernel))).toE da_nil))))))⟩
/-! window_fits -/
theorem sc_window_fits : FnScope ["week", "window", "span"] ["week", "window"] (defScope s_window_fits) := ⟨rfl, rfl, rfl, by decide +kernel, rfl, by decide +kernel, by decide +kernel⟩
def C1_window_fits : Reg → Option D := (callV m_span_fits (consA (fun ρ => fzAt ρ 0) (consA (fun ρ => fzAt ρ 2) (fun _ => some []))))
def b_window_fits : Reg → Out := (retS (andV (callV m_is_between (consA (fun _ => some (.int 1)) (consA (un1 (bin2 (fun ρ => fzAt ρ 1) (fun _ => some (.int 1)) dItem) dLen) (consA (fun _ => some (.int 8)) (fun _ => some []))))) (callV m_all_true (consA (lcV (itV (bin2 (fun ρ => fzAt ρ 1) (fun _ => some (.int 1)) dItem)) (gN 2) (fun _ => some true) C1_window_fits [2]) (fun _ => some [])))))
def m_window_fits : List D → Option D := fun ds => fin (b_window_fits (startR 3 ds))
theorem ok_window_fits (T : Txt K mg) : NameOk P w K mg base 2 "window_fits" 2 m_window_fits :=
  name_data T.f_window_fits sc_window_fits (fun _ _ _ h => h) fun f cdv A outer s H E hr => ⟨_, (dss_one (ds_ret (de_and (de_callN (ok_is_between T) hr (da_cons de_int (da_cons (de_len T.z_len (de_item hr (de_var 1).toB de_int.toB).toB) (da_cons de_int da_nil)))) (de_one (de_callN (ok_all_true T) hr (da_cons (dn_lc [("span", 2)] rfl sc_window_fits.nd (di_any (de_item hr (de_var 1).toB de_int.toB)) (fun _ _ _ _ _ => ⟨_, (dg_name 2 sc_window_fits.nd)⟩) (fun _ _ _ _ _ => ⟨_, dts_nil⟩) (fun _ _ _ _ _ => ⟨_, (de_callN (ok_span_fits T) hr (da_cons (de_var 0) (da_cons (de_var 2) da_nil)))⟩) (ok := blkOk_by (N := ["week", "window", "span"]) (sc := defScope s_window_fits) (by decide +kernel))).toE da_nil))))))⟩
/-! label_fits -/
theorem sc_label_fits : FnScope ["name"] ["name"] (defScope s_label_fits) := ⟨rfl, rfl, rfl, by decide +kernel, rfl, by decide +kernel, by decide +kernel⟩
def b_label_fits : Reg → Out := (retS (andV (callV m_is_name (consA (fun ρ => fzAt ρ 0) (fun _ => some []))) (bV (cmp2 (fun ρ => fzAt ρ 0) (fun _ => some (.str (lit "zzzzzzzzzzzzzzzzzzzz"))) dNe))))
def m_label_fits : List D → Option D := fun ds => fin (b_label_fits (startR 1 ds))
theorem ok_label_fits (T : Txt K mg) : NameOk P w K mg base 3 "label_fits" 1 m_label_fits :=
  name_data T.f_label_fits sc_label_fits (fun _ _ _ h => h) fun f cdv A outer s H E hr => ⟨_, (dss_one (ds_ret (de_and (de_callN (ok_is_name T) hr (da_cons (de_var 0) da_nil)) (de_one (de_ne (de_var 0).toB (de_cstr T.c_RESERVED).toB)))))⟩
/-! matcher_fits -/
theorem sc_matcher_fits : FnScope ["matcher", "name", "values", "value"] ["matcher"] (defScope s_matcher_fits) := ⟨rfl, rfl, rfl, by decide +kernel, rfl, by decide +kernel, by decide +kernel⟩
def C1_matcher_fits : Reg → Option D := (orV (bV (cmp2 (fun ρ => fzAt ρ 3) (fun _ => some (.str (lit ""))) dEq)) (callV m_is_value (consA (fun ρ => fzAt ρ 3) (fun _ => some []))))
def b_matcher_fits : Reg → Out := (sq (asgS (slV (fun ρ => fzAt ρ 0) (fun _ => some none) (parV (fun _ => some (.int 2))) dSlice) (gT (gsC (gN 1) (gsC (gN 2) gsN)))) (sq (iteS (orT (notT (truT (callV m_label_fits (consA (fun ρ => fzAt ρ 1) (fun _ => some []))))) (notT (truT (callV m_is_between (consA (fun _ => some (.int 1)) (consA (un1 (fun ρ => fzAt ρ 2) dLen) (consA (fun _ => some (.int 6)) (fun _ => some [])))))))) (retS (fun _ => some (.bl false))) skip) (retS (callV m_all_true (consA (lcV (itV (fun ρ => fzAt ρ 2)) (gN 3) (fun _ => some true) C1_matcher_fits [3]) (fun _ => some []))))))
def m_matcher_fits : List D → Option D := fun ds => fin (b_matcher_fits (startR 4 ds))
theorem ok_matcher_fits (T : Txt K mg) : NameOk P w K mg base 4 "matcher_fits" 1 m_matcher_fits :=
  name_data T.f_matcher_fits sc_matcher_fits (fun _ _ _ h => h) fun f cdv A outer s H E hr => ⟨_, (dss_cons (ds_asg (de_slice (de_var 0).toB do_none (do_some de_int.toB)) (dg_tup 2 rfl (dgs_cons (dg_name 1 sc_matcher_fits.nd) (dgs_cons (dg_name 2 sc_matcher_fits.nd) dgs_nil)) (gsC_len (gsC_len gsN_len)))) (dss_cons (ds_if (dw_or (dt_not (dt_tru (de_callN (ok_label_fits T) hr (da_cons (de_var 1) da_nil)).toB)) (dw_or1 (dt_not (dt_tru (de_callN (ok_is_between T) hr (da_cons de_int (da_cons (de_len T.z_len (de_var 2).toB) (da_cons (de_cint T.c_MOST) da_nil)))).toB)))).toT (dss_one (ds_ret de_bl)) dss_nil) (dss_one (ds_ret (de_callN (ok_all_true T) hr (da_cons (dn_lc [("value", 3)] rfl sc_matcher_fits.nd (di_any (de_var 2)) (fun _ _ _ _ _ => ⟨_, (dg_name 3 sc_matcher_fits.nd)⟩) (fun _ _ _ _ _ => ⟨_, dts_nil⟩) (fun _ _ _ _ _ => ⟨_, (de_or (de_eq (de_var 3).toB de_str.toB) (de_one (de_callN (ok_is_value T) hr (da_cons (de_var 3) da_nil))))⟩) (ok := blkOk_by (N := ["matcher", "name", "values", "value"]) (sc := defScope s_matcher_fits) (by decide +kernel))).toE da_nil))))))⟩
/-! matchers_fit -/
theorem sc_matchers_fit : FnScope ["matchers", "matcher"] ["matchers"] (defScope s_matchers_fit) := ⟨rfl, rfl, rfl, by decide +kernel, rfl, by decide +kernel, by decide +kernel⟩
def C1_matchers_fit : Reg → Option D := (callV m_matcher_fits (consA (fun ρ => fzAt ρ 1) (fun _ => some [])))
def b_matchers_fit : Reg → Out := (retS (andV (bV (cmp2 (un1 (fun ρ => fzAt ρ 0) dLen) (fun _ => some (.int 6)) dLe)) (callV m_all_true (consA (lcV (itV (fun ρ => fzAt ρ 0)) (gN 1) (fun _ => some true) C1_matchers_fit [1]) (fun _ => some [])))))
def m_matchers_fit : List D → Option D := fun ds => fin (b_matchers_fit (startR 2 ds))
theorem ok_matchers_fit (T : Txt K mg) : NameOk P w K mg base 5 "matchers_fit" 1 m_matchers_fit :=
  name_data T.f_matchers_fit sc_matchers_fit (fun _ _ _ h => h) fun f cdv A outer s H E hr => ⟨_, (dss_one (ds_ret (de_and (de_le (de_len T.z_len (de_var 0).toB).toB (de_cint T.c_MOST).toB) (de_one (de_callN (ok_all_true T) hr (da_cons (dn_lc [("matcher", 1)] rfl sc_matchers_fit.nd (di_any (de_var 0)) (fun _ _ _ _ _ => ⟨_, (dg_name 1 sc_matchers_fit.nd)⟩) (fun _ _ _ _ _ => ⟨_, dts_nil⟩) (fun _ _ _ _ _ => ⟨_, (de_callN (ok_matcher_fits T) hr (da_cons (de_var 1) da_nil))⟩) (ok := blkOk_by (N := ["matchers", "matcher"]) (sc := defScope s_matchers_fit) (by decide +kernel))).toE da_nil))))))⟩
/-! labels_fit -/
theorem sc_labels_fit : FnScope ["names", "name"] ["names"] (defScope s_labels_fit) := ⟨rfl, rfl, rfl, by decide +kernel, rfl, by decide +kernel, by decide +kernel⟩
def C1_labels_fit : Reg → Option D := (callV m_label_fits (consA (fun ρ => fzAt ρ 1) (fun _ => some [])))
def b_labels_fit : Reg → Out := (retS (andV (bV (cmp2 (un1 (fun ρ => fzAt ρ 0) dLen) (fun _ => some (.int 6)) dLe)) (callV m_all_true (consA (lcV (itV (fun ρ => fzAt ρ 0)) (gN 1) (fun _ => some true) C1_labels_fit [1]) (fun _ => some [])))))
def m_labels_fit : List D → Option D := fun ds => fin (b_labels_fit (startR 2 ds))
theorem ok_labels_fit (T : Txt K mg) : NameOk P w K mg base 4 "labels_fit" 1 m_labels_fit :=
  name_data T.f_labels_fit sc_labels_fit (fun _ _ _ h => h) fun f cdv A outer s H E hr => ⟨_, (dss_one (ds_ret (de_and (de_le (de_len T.z_len (de_var 0).toB).toB (de_cint T.c_MOST).toB) (de_one (de_callN (ok_all_true T) hr (da_cons (dn_lc [("name", 1)] rfl sc_labels_fit.nd (di_any (de_var 0)) (fun _ _ _ _ _ => ⟨_, (dg_name 1 sc_labels_fit.nd)⟩) (fun _ _ _ _ _ => ⟨_, dts_nil⟩) (fun _ _ _ _ _ => ⟨_, (de_callN (ok_label_fits T) hr (da_cons (de_var 1) da_nil))⟩) (ok := blkOk_by (N := ["names", "name"]) (sc := defScope s_labels_fit) (by decide +kernel))).toE da_nil))))))⟩
/-! settings_fit -/
theorem sc_settings_fit : FnScope ["windows", "policies", "settings", "group", "wait", "interval", "again", "mutes", "policy", "name"] ["windows", "policies", "settings"] (defScope s_settings_fit) := ⟨rfl, rfl, rfl, by decide +kernel, rfl, by decide +kernel, by decide +kernel⟩
def C1_settings_fit : Reg → Option D := (bV (cmp2 (fun ρ => fzAt ρ 9) (fun ρ => fzAt ρ 0) dMem))
def b_settings_fit : Reg → Out := (sq (asgS (fun ρ => fzAt ρ 2) (gT (gsC (gN 3) (gsC (gN 4) (gsC (gN 5) (gsC (gN 6) (gsC (gN 7) (gsC (gN 8) gsN)))))))) (sq (iteS (orT (notT (truT (callV m_labels_fit (consA (fun ρ => fzAt ρ 3) (fun _ => some []))))) (notT (truT (callV m_is_between (consA (fun _ => some (.int 0)) (consA (fun ρ => fzAt ρ 4) (consA (fun _ => some (.int 1000)) (fun _ => some [])))))))) (retS (fun _ => some (.bl false))) skip) (sq (iteS (orT (notT (truT (callV m_is_between (consA (fun _ => some (.int 1)) (consA (fun ρ => fzAt ρ 5) (consA (fun _ => some (.int 1000)) (fun _ => some []))))))) (notT (truT (callV m_is_between (consA (fun ρ => fzAt ρ 5) (consA (fun ρ => fzAt ρ 6) (consA (fun _ => some (.int 1000)) (fun _ => some [])))))))) (retS (fun _ => some (.bl false))) skip) (retS (andV (bV (cmp2 (un1 (fun ρ => fzAt ρ 7) dLen) (fun _ => some (.int 6)) dLe)) (andV (callV m_all_true (consA (lcV (itV (fun ρ => fzAt ρ 7)) (gN 9) (fun _ => some true) C1_settings_fit [9]) (fun _ => some []))) (bV (cmp2 (fun ρ => fzAt ρ 8) (fun ρ => fzAt ρ 1) dMem))))))))
def m_settings_fit : List D → Option D := fun ds => fin (b_settings_fit (startR 10 ds))
theorem ok_settings_fit (T : Txt K mg) : NameOk P w K mg base 5 "settings_fit" 3 m_settings_fit :=
  name_data T.f_settings_fit sc_settings_fit (fun _ _ _ h => h) fun f cdv A outer s H E hr => ⟨_, (dss_cons (ds_asg (de_var 2) (dg_tup 6 rfl (dgs_cons (dg_name 3 sc_settings_fit.nd) (dgs_cons (dg_name 4 sc_settings_fit.nd) (dgs_cons (dg_name 5 sc_settings_fit.nd) (dgs_cons (dg_name 6 sc_settings_fit.nd) (dgs_cons (dg_name 7 sc_settings_fit.nd) (dgs_cons (dg_name 8 sc_settings_fit.nd) dgs_nil)))))) (gsC_len (gsC_len (gsC_len (gsC_len (gsC_len (gsC_len gsN_len)))))))) (dss_cons (ds_if (dw_or (dt_not (dt_tru (de_callN (ok_labels_fit T) hr (da_cons (de_var 3) da_nil)).toB)) (dw_or1 (dt_not (dt_tru (de_callN (ok_is_between T) hr (da_cons de_int (da_cons (de_var 4) (da_cons (de_cint T.c_LONGEST_checks) da_nil)))).toB)))).toT (dss_one (ds_ret de_bl)) dss_nil) (dss_cons (ds_if (dw_or (dt_not (dt_tru (de_callN (ok_is_between T) hr (da_cons de_int (da_cons (de_var 5) (da_cons (de_cint T.c_LONGEST_checks) da_nil)))).toB)) (dw_or1 (dt_not (dt_tru (de_callN (ok_is_between T) hr (da_cons (de_var 5) (da_cons (de_var 6) (da_cons (de_cint T.c_LONGEST_checks) da_nil)))).toB)))).toT (dss_one (ds_ret de_bl)) dss_nil) (dss_one (ds_ret (de_and (de_le (de_len T.z_len (de_var 7).toB).toB (de_cint T.c_MOST).toB) (de_and (de_callN (ok_all_true T) hr (da_cons (dn_lc [("name", 9)] rfl sc_settings_fit.nd (di_any (de_var 7)) (fun _ _ _ _ _ => ⟨_, (dg_name 9 sc_settings_fit.nd)⟩) (fun _ _ _ _ _ => ⟨_, dts_nil⟩) (fun _ _ _ _ _ => ⟨_, (de_mem hr (de_var 9).toB (de_var 0).toB)⟩) (ok := blkOk_by (N := ["windows", "policies", "settings", "group", "wait", "interval", "again", "mutes", "policy", "name"]) (sc := defScope s_settings_fit) (by decide +kernel))).toE da_nil)) (de_one (de_mem hr (de_var 8).toB (de_var 1).toB)))))))))⟩
/-! route_fits -/
theorem sc_route_fits : FnScope ["windows", "policies", "place", "route", "parent", "matchers", "settings"] ["windows", "policies", "place", "route"] (defScope s_route_fits) := ⟨rfl, rfl, rfl, by decide +kernel, rfl, by decide +kernel, by decide +kernel⟩
def b_route_fits : Reg → Out := (sq (asgS (fun ρ => fzAt ρ 3) (gT (gsC (gN 4) (gsC (gN 5) (gsC (gN 6) gsN))))) (sq (iteS (cmp2 (fun ρ => fzAt ρ 2) (fun _ => some (.int 0)) dEq) (iteS (orT (cmp2 (fun ρ => fzAt ρ 4) (fun _ => some .non) dNotN) (cmp2 (un1 (fun ρ => fzAt ρ 5) dLen) (fun _ => some (.int 0)) dGt)) (retS (fun _ => some (.bl false))) skip) (iteS (orT (cmp2 (fun ρ => fzAt ρ 4) (fun _ => some .non) dIsN) (notT (truT (callV m_is_between (consA (fun _ => some (.int 0)) (consA (fun ρ => fzAt ρ 4) (consA (bin2 (fun ρ => fzAt ρ 2) (fun _ => some (.int 1)) dSub) (fun _ => some [])))))))) (retS (fun _ => some (.bl false))) skip)) (retS (andV (callV m_matchers_fit (consA (fun ρ => fzAt ρ 5) (fun _ => some []))) (callV m_settings_fit (consA (fun ρ => fzAt ρ 0) (consA (fun ρ => fzAt ρ 1) (consA (fun ρ => fzAt ρ 6) (fun _ => some [])))))))))
def m_route_fits : List D → Option D := fun ds => fin (b_route_fits (startR 7 ds))
theorem ok_route_fits (T : Txt K mg) : NameOk P w K mg base 6 "route_fits" 4 m_route_fits :=
  name_data T.f_route_fits sc_route_fits (fun _ _ _ h => h) fun f cdv A outer s H E hr => ⟨_, (dss_cons (ds_asg (de_var 3) (dg_tup 3 rfl (dgs_cons (dg_name 4 sc_route_fits.nd) (dgs_cons (dg_name 5 sc_route_fits.nd) (dgs_cons (dg_name 6 sc_route_fits.nd) dgs_nil))) (gsC_len (gsC_len (gsC_len gsN_len))))) (dss_cons (ds_if (dt_eq (de_var 2).toB de_int.toB) (dss_one (ds_if (dw_or (dt_notN (de_var 4).toB de_non.toB) (dw_or1 (dt_gt (de_len T.z_len (de_var 5).toB).toB de_int.toB))).toT (dss_one (ds_ret de_bl)) dss_nil)) (dss_one (ds_if (dw_or (dt_isN (de_var 4).toB de_non.toB) (dw_or1 (dt_not (dt_tru (de_callN (ok_is_between T) hr (da_cons de_int (da_cons (de_var 4) (da_cons (de_sub (de_var 2).toB de_int.toB) da_nil)))).toB)))).toT (dss_one (ds_ret de_bl)) dss_nil))) (dss_one (ds_ret (de_and (de_callN (ok_matchers_fit T) hr (da_cons (de_var 5) da_nil)) (de_one (de_callN (ok_settings_fit T) hr (da_cons (de_var 0) (da_cons (de_var 1) (da_cons (de_var 6) da_nil))))))))))⟩
/-! holdback_fits -/
theorem sc_holdback_fits : FnScope ["holdback", "source", "target", "equal"] ["holdback"] (defScope s_holdback_fits) := ⟨rfl, rfl, rfl, by decide +kernel, rfl, by decide +kernel, by decide +kernel⟩
def b_holdback_fits : Reg → Out := (sq (asgS (fun ρ => fzAt ρ 0) (gT (gsC (gN 1) (gsC (gN 2) (gsC (gN 3) gsN))))) (retS (andV (callV m_matchers_fit (consA (fun ρ => fzAt ρ 1) (fun _ => some []))) (andV (callV m_matchers_fit (consA (fun ρ => fzAt ρ 2) (fun _ => some []))) (callV m_labels_fit (consA (fun ρ => fzAt ρ 3) (fun _ => some [])))))))
def m_holdback_fits : List D → Option D := fun ds => fin (b_holdback_fits (startR 4 ds))
theorem ok_holdback_fits (T : Txt K mg) : NameOk P w K mg base 6 "holdback_fits" 1 m_holdback_fits :=
  name_data T.f_holdback_fits sc_holdback_fits (fun _ _ _ h => h) fun f cdv A outer s H E hr => ⟨_, (dss_cons (ds_asg (de_var 0) (dg_tup 3 rfl (dgs_cons (dg_name 1 sc_holdback_fits.nd) (dgs_cons (dg_name 2 sc_holdback_fits.nd) (dgs_cons (dg_name 3 sc_holdback_fits.nd) dgs_nil))) (gsC_len (gsC_len (gsC_len gsN_len))))) (dss_one (ds_ret (de_and (de_callN (ok_matchers_fit T) hr (da_cons (de_var 1) da_nil)) (de_and (de_callN (ok_matchers_fit T) hr (da_cons (de_var 2) da_nil)) (de_one (de_callN (ok_labels_fit T) hr (da_cons (de_var 3) da_nil))))))))⟩
/-! check_routes -/
theorem sc_check_routes : FnScope ["made", "schedules", "flags", "place", "policy", "window", "windows", "policies", "route", "entry"] ["made"] (defScope s_check_routes) := ⟨rfl, rfl, rfl, by decide +kernel, rfl, by decide +kernel, by decide +kernel⟩
def L1_check_routes : Reg → Out := (appS 2 (andV (callV m_is_new_name (consA (un1 (fun ρ => fzAt ρ 0) (dFld "Setup" "policies")) (consA (fun ρ => fzAt ρ 3) (fun _ => some [])))) (callV m_policy_fits (consA (fun ρ => fzAt ρ 1) (consA (fun ρ => fzAt ρ 4) (fun _ => some []))))))
def L2_check_routes : Reg → Out := (appS 2 (andV (callV m_is_new_name (consA (un1 (fun ρ => fzAt ρ 0) (dFld "Setup" "windows")) (consA (fun ρ => fzAt ρ 3) (fun _ => some [])))) (callV m_window_fits (consA (un1 (fun ρ => fzAt ρ 0) (dFld "Setup" "week")) (consA (fun ρ => fzAt ρ 5) (fun _ => some []))))))
def L3_check_routes : Reg → Out := (appS 2 (andV (bV (cmp2 (fun ρ => fzAt ρ 3) (fun _ => some (.int 30)) dLt)) (callV m_route_fits (consA (fun ρ => fzAt ρ 6) (consA (fun ρ => fzAt ρ 7) (consA (fun ρ => fzAt ρ 3) (consA (fun ρ => fzAt ρ 8) (fun _ => some []))))))))
def C1_check_routes : Reg → Option D := (andV (bV (cmp2 (fun ρ => fzAt ρ 3) (fun _ => some (.int 10)) dLt)) (callV m_holdback_fits (consA (fun ρ => fzAt ρ 9) (fun _ => some []))))
def b_check_routes : Reg → Out := (sq (setS 1 (callV m_names_of (consA (un1 (fun ρ => fzAt ρ 0) (dFld "Setup" "schedules")) (fun _ => some [])))) (sq (setN 2 (lstV (fun _ => some []))) (sq (forS (enumV (consA (un1 (fun ρ => fzAt ρ 0) (dFld "Setup" "policies")) (fun _ => some []))) (gT (gsC (gN 3) (gsC (gN 4) gsN))) L1_check_routes) (sq (frzS 2 (dropS (callV m_require (consA (fun _ => some (.str (lit "policies"))) (consA (fun ρ => fzAt ρ 2) (fun _ => some [])))))) (sq (setN 2 (lstV (fun _ => some []))) (sq (forS (enumV (consA (un1 (fun ρ => fzAt ρ 0) (dFld "Setup" "windows")) (fun _ => some []))) (gT (gsC (gN 3) (gsC (gN 5) gsN))) L2_check_routes) (sq (frzS 2 (dropS (callV m_require (consA (fun _ => some (.str (lit "windows"))) (consA (fun ρ => fzAt ρ 2) (fun _ => some [])))))) (sq (iteS (notT (truT (un1 (fun ρ => fzAt ρ 0) (dFld "Setup" "routes")))) (fun _ => .bad) skip) (sq (setS 6 (callV m_names_of (consA (un1 (fun ρ => fzAt ρ 0) (dFld "Setup" "windows")) (fun _ => some [])))) (sq (setS 7 (callV m_names_of (consA (un1 (fun ρ => fzAt ρ 0) (dFld "Setup" "policies")) (fun _ => some [])))) (sq (setN 2 (lstV (fun _ => some []))) (sq (forS (enumV (consA (un1 (fun ρ => fzAt ρ 0) (dFld "Setup" "routes")) (fun _ => some []))) (gT (gsC (gN 3) (gsC (gN 8) gsN))) L3_check_routes) (sq (frzS 2 (dropS (callV m_require (consA (fun _ => some (.str (lit "routes"))) (consA (fun ρ => fzAt ρ 2) (fun _ => some [])))))) (dropS (callV m_require (consA (fun _ => some (.str (lit "holdbacks"))) (consA (lcV (enumV (consA (un1 (fun ρ => fzAt ρ 0) (dFld "Setup" "holdbacks")) (fun _ => some []))) (gT (gsC (gN 3) (gsC (gN 9) gsN))) (fun _ => some true) C1_check_routes [3, 9]) (fun _ => some []))))))))))))))))))
def m_check_routes : List D → Option D := fun ds => fin (b_check_routes (startR 10 ds))
theorem ok_check_routes (T : Txt K mg) : NameOk P w K mg base 7 "check_routes" 1 m_check_routes :=
  name_data T.f_check_routes sc_check_routes (fun _ _ _ h => h) fun f cdv A outer s H E hr => ⟨_, (dss_cons (ds_set 1 sc_check_routes.nd (de_callN (ok_names_of T) hr (da_cons (de_fld T.q_Setup (by decide +kernel) (de_var 0).toB) da_nil))) (dss_cons (ds_setN 2 sc_check_routes.nd (dn_lst da_nil)) (dss_cons (ds_for PassesOwn.never rfl (di_enumerate T.z_enumerate (da_cons (de_fld T.q_Setup (by decide +kernel) (de_var 0).toB) da_nil)) (dg_tup 2 rfl (dgs_cons (dg_name 3 sc_check_routes.nd) (dgs_cons (dg_name 4 sc_check_routes.nd) dgs_nil)) (gsC_len (gsC_len gsN_len))) (dss_one (ds_append 2 (de_and (de_callN (ok_is_new_name T) hr (da_cons (de_fld T.q_Setup (by decide +kernel) (de_var 0).toB) (da_cons (de_var 3) da_nil))) (de_one (de_callN (ok_policy_fits T) hr (da_cons (de_var 1) (da_cons (de_var 4) da_nil)))))))) (dss_cons (ds_frz 2 (ds_expr (de_callN (ok_require T) hr (da_cons de_str (da_cons (de_var 2) da_nil))))) (dss_cons (ds_setN 2 sc_check_routes.nd (dn_lst da_nil)) (dss_cons (ds_for PassesOwn.never rfl (di_enumerate T.z_enumerate (da_cons (de_fld T.q_Setup (by decide +kernel) (de_var 0).toB) da_nil)) (dg_tup 2 rfl (dgs_cons (dg_name 3 sc_check_routes.nd) (dgs_cons (dg_name 5 sc_check_routes.nd) dgs_nil)) (gsC_len (gsC_len gsN_len))) (dss_one (ds_append 2 (de_and (de_callN (ok_is_new_name T) hr (da_cons (de_fld T.q_Setup (by decide +kernel) (de_var 0).toB) (da_cons (de_var 3) da_nil))) (de_one (de_callN (ok_window_fits T) hr (da_cons (de_fld T.q_Setup (by decide +kernel) (de_var 0).toB) (da_cons (de_var 5) da_nil)))))))) (dss_cons (ds_frz 2 (ds_expr (de_callN (ok_require T) hr (da_cons de_str (da_cons (de_var 2) da_nil))))) (dss_cons (ds_if (dt_not (dt_tru (de_fld T.q_Setup (by decide +kernel) (de_var 0).toB).toB)) (dss_one ds_never) dss_nil) (dss_cons (ds_set 6 sc_check_routes.nd (de_callN (ok_names_of T) hr (da_cons (de_fld T.q_Setup (by decide +kernel) (de_var 0).toB) da_nil))) (dss_cons (ds_set 7 sc_check_routes.nd (de_callN (ok_names_of T) hr (da_cons (de_fld T.q_Setup (by decide +kernel) (de_var 0).toB) da_nil))) (dss_cons (ds_setN 2 sc_check_routes.nd (dn_lst da_nil)) (dss_cons (ds_for PassesOwn.never rfl (di_enumerate T.z_enumerate (da_cons (de_fld T.q_Setup (by decide +kernel) (de_var 0).toB) da_nil)) (dg_tup 2 rfl (dgs_cons (dg_name 3 sc_check_routes.nd) (dgs_cons (dg_name 8 sc_check_routes.nd) dgs_nil)) (gsC_len (gsC_len gsN_len))) (dss_one (ds_append 2 (de_and (de_lt (de_var 3).toB de_int.toB) (de_one (de_callN (ok_route_fits T) hr (da_cons (de_var 6) (da_cons (de_var 7) (da_cons (de_var 3) (da_cons (de_var 8) da_nil)))))))))) (dss_cons (ds_frz 2 (ds_expr (de_callN (ok_require T) hr (da_cons de_str (da_cons (de_var 2) da_nil))))) (dss_one (ds_expr (de_callN (ok_require T) hr (da_cons de_str (da_cons (dn_lc [("place", 3), ("entry", 9)] rfl sc_check_routes.nd (di_enumerate T.z_enumerate (da_cons (de_fld T.q_Setup (by decide +kernel) (de_var 0).toB) da_nil)) (fun _ _ _ _ _ => ⟨_, (dg_tup 2 rfl (dgs_cons (dg_name 3 sc_check_routes.nd) (dgs_cons (dg_name 9 sc_check_routes.nd) dgs_nil)) (gsC_len (gsC_len gsN_len)))⟩) (fun _ _ _ _ _ => ⟨_, dts_nil⟩) (fun _ _ _ _ _ => ⟨_, (de_and (de_lt (de_var 3).toB de_int.toB) (de_one (de_callN (ok_holdback_fits T) hr (da_cons (de_var 9) da_nil))))⟩) (ok := blkOk_by (N := ["made", "schedules", "flags", "place", "policy", "window", "windows", "policies", "route", "entry"]) (sc := defScope s_check_routes) (by decide +kernel))).toE da_nil))))))))))))))))))⟩
/-! store_fits -/
theorem sc_store_fits : FnScope ["store", "lateness", "span", "factor", "levels"] ["store"] (defScope s_store_fits) := ⟨rfl, rfl, rfl, by decide +kernel, rfl, by decide +kernel, by decide +kernel⟩
def b_store_fits : Reg → Out := (sq (asgS (fun ρ => fzAt ρ 0) (gT (gsC (gN 1) (gsC (gN 2) (gsC (gN 3) (gsC (gN 4) gsN)))))) (sq (iteS (orT (notT (truT (callV m_is_between (consA (fun _ => some (.int 0)) (consA (fun ρ => fzAt ρ 1) (consA (fun _ => some (.int 1000)) (fun _ => some []))))))) (notT (truT (callV m_is_between (consA (fun _ => some (.int 1)) (consA (fun ρ => fzAt ρ 2) (consA (fun _ => some (.int 1000)) (fun _ => some [])))))))) (retS (fun _ => some (.bl false))) skip) (retS (andV (callV m_is_between (consA (fun _ => some (.int 2)) (consA (fun ρ => fzAt ρ 3) (consA (fun _ => some (.int 10)) (fun _ => some []))))) (callV m_is_between (consA (fun _ => some (.int 0)) (consA (fun ρ => fzAt ρ 4) (consA (fun _ => some (.int 3)) (fun _ => some [])))))))))
def m_store_fits : List D → Option D := fun ds => fin (b_store_fits (startR 5 ds))
theorem ok_store_fits (T : Txt K mg) : NameOk P w K mg base 2 "store_fits" 1 m_store_fits :=
  name_data T.f_store_fits sc_store_fits (fun _ _ _ h => h) fun f cdv A outer s H E hr => ⟨_, (dss_cons (ds_asg (de_var 0) (dg_tup 4 rfl (dgs_cons (dg_name 1 sc_store_fits.nd) (dgs_cons (dg_name 2 sc_store_fits.nd) (dgs_cons (dg_name 3 sc_store_fits.nd) (dgs_cons (dg_name 4 sc_store_fits.nd) dgs_nil)))) (gsC_len (gsC_len (gsC_len (gsC_len gsN_len)))))) (dss_cons (ds_if (dw_or (dt_not (dt_tru (de_callN (ok_is_between T) hr (da_cons de_int (da_cons (de_var 1) (da_cons (de_cint T.c_LONGEST_checks) da_nil)))).toB)) (dw_or1 (dt_not (dt_tru (de_callN (ok_is_between T) hr (da_cons de_int (da_cons (de_var 2) (da_cons (de_cint T.c_LONGEST_checks) da_nil)))).toB)))).toT (dss_one (ds_ret de_bl)) dss_nil) (dss_one (ds_ret (de_and (de_callN (ok_is_between T) hr (da_cons de_int (da_cons (de_var 3) (da_cons de_int da_nil)))) (de_one (de_callN (ok_is_between T) hr (da_cons de_int (da_cons (de_var 4) (da_cons de_int da_nil))))))))))⟩
/-! check_rest -/
theorem sc_check_rest : FnScope ["made", "flags", "place", "group"] ["made"] (defScope s_check_rest) := ⟨rfl, rfl, rfl, by decide +kernel, rfl, by decide +kernel, by decide +kernel⟩
def L1_check_rest : Reg → Out := (fun _ => .bad)
def b_check_rest : Reg → Out := (sq (setN 1 (lstV (fun _ => some []))) (sq (forS (enumV (consA (un1 (fun ρ => fzAt ρ 0) (dFld "Setup" "groups")) (fun _ => some []))) (gT (gsC (gN 2) (gsC (gN 3) gsN))) L1_check_rest) (sq (frzS 1 (dropS (callV m_require (consA (fun _ => some (.str (lit "groups"))) (consA (fun ρ => fzAt ρ 1) (fun _ => some [])))))) (sq (dropS (callV m_require (consA (fun _ => some (.str (lit "replicas"))) (consA (lstV (consA (callV m_is_between (consA (fun _ => some (.int 1)) (consA (un1 (fun ρ => fzAt ρ 0) (dFld "Setup" "replicas")) (consA (fun _ => some (.int 5)) (fun _ => some []))))) (fun _ => some []))) (fun _ => some []))))) (sq (dropS (callV m_require (consA (fun _ => some (.str (lit "pause"))) (consA (lstV (consA (callV m_is_between (consA (fun _ => some (.int 0)) (consA (un1 (fun ρ => fzAt ρ 0) (dFld "Setup" "pause")) (consA (fun _ => some (.int 1000)) (fun _ => some []))))) (fun _ => some []))) (fun _ => some []))))) (sq (dropS (callV m_require (consA (fun _ => some (.str (lit "down"))) (consA (lstV (consA (callV m_is_between (consA (fun _ => some (.int 0)) (consA (un1 (fun ρ => fzAt ρ 0) (dFld "Setup" "down")) (consA (fun _ => some (.int 20)) (fun _ => some []))))) (fun _ => some []))) (fun _ => some []))))) (sq (dropS (callV m_require (consA (fun _ => some (.str (lit "store"))) (consA (lstV (consA (callV m_store_fits (consA (un1 (fun ρ => fzAt ρ 0) (dFld "Setup" "store")) (fun _ => some []))) (fun _ => some []))) (fun _ => some []))))) (dropS (callV m_require (consA (fun _ => some (.str (lit "lookback"))) (consA (lstV (consA (callV m_is_between (consA (fun _ => some (.int 1)) (consA (un1 (fun ρ => fzAt ρ 0) (dFld "Setup" "lookback")) (consA (fun _ => some (.int 1000)) (fun _ => some []))))) (fun _ => some []))) (fun _ => some []))))))))))))
def m_check_rest : List D → Option D := fun ds => fin (b_check_rest (startR 4 ds))
theorem ok_check_rest (T : Txt K mg) : NameOk P w K mg base 3 "check_rest" 1 m_check_rest :=
  name_data T.f_check_rest sc_check_rest (fun _ _ _ h => h) fun f cdv A outer s H E hr => ⟨_, (dss_cons (ds_setN 1 sc_check_rest.nd (dn_lst da_nil)) (dss_cons (ds_for PassesOwn.never rfl (di_enumerate T.z_enumerate (da_cons (de_fld T.q_Setup (by decide +kernel) (de_var 0).toB) da_nil)) (dg_tup 2 rfl (dgs_cons (dg_name 2 sc_check_rest.nd) (dgs_cons (dg_name 3 sc_check_rest.nd) dgs_nil)) (gsC_len (gsC_len gsN_len))) dss_never) (dss_cons (ds_frz 1 (ds_expr (de_callN (ok_require T) hr (da_cons de_str (da_cons (de_var 1) da_nil))))) (dss_cons (ds_expr (de_callN (ok_require T) hr (da_cons de_str (da_cons (dn_lst (da_cons (de_callN (ok_is_between T) hr (da_cons de_int (da_cons (de_fld T.q_Setup (by decide +kernel) (de_var 0).toB) (da_cons de_int da_nil)))) da_nil)).toE da_nil)))) (dss_cons (ds_expr (de_callN (ok_require T) hr (da_cons de_str (da_cons (dn_lst (da_cons (de_callN (ok_is_between T) hr (da_cons de_int (da_cons (de_fld T.q_Setup (by decide +kernel) (de_var 0).toB) (da_cons (de_cint T.c_LONGEST_setup) da_nil)))) da_nil)).toE da_nil)))) (dss_cons (ds_expr (de_callN (ok_require T) hr (da_cons de_str (da_cons (dn_lst (da_cons (de_callN (ok_is_between T) hr (da_cons de_int (da_cons (de_fld T.q_Setup (by decide +kernel) (de_var 0).toB) (da_cons de_int da_nil)))) da_nil)).toE da_nil)))) (dss_cons (ds_expr (de_callN (ok_require T) hr (da_cons de_str (da_cons (dn_lst (da_cons (de_callN (ok_store_fits T) hr (da_cons (de_fld T.q_Setup (by decide +kernel) (de_var 0).toB) da_nil)) da_nil)).toE da_nil)))) (dss_one (ds_expr (de_callN (ok_require T) hr (da_cons de_str (da_cons (dn_lst (da_cons (de_callN (ok_is_between T) hr (da_cons de_int (da_cons (de_fld T.q_Setup (by decide +kernel) (de_var 0).toB) (da_cons (de_cint T.c_LONGEST_setup) da_nil)))) da_nil)).toE da_nil))))))))))))⟩
/-! setup -/
theorem sc_setup : FnScope ["week", "people", "schedules", "policies", "windows", "routes", "holdbacks", "groups", "replicas", "pause", "down", "store", "lookback", "numbers", "made"] ["week", "people", "schedules", "policies", "windows", "routes", "holdbacks", "groups", "replicas", "pause", "down", "store", "lookback"] (defScope s_setup) := ⟨rfl, rfl, rfl, by decide +kernel, rfl, by decide +kernel, by decide +kernel⟩
def b_setup : Reg → Out := (sq (setS 13 (tupV (consA (fun ρ => fzAt ρ 8) (consA (fun ρ => fzAt ρ 9) (consA (fun ρ => fzAt ρ 10) (consA (fun ρ => fzAt ρ 11) (consA (fun ρ => fzAt ρ 12) (fun _ => some [])))))))) (sq (setS 14 (mkV "Setup" m_Setup (consA (fun ρ => fzAt ρ 0) (consA (fun ρ => fzAt ρ 1) (consA (fun ρ => fzAt ρ 2) (consA (fun ρ => fzAt ρ 3) (consA (fun ρ => fzAt ρ 4) (consA (fun ρ => fzAt ρ 5) (consA (fun ρ => fzAt ρ 6) (consA (fun ρ => fzAt ρ 7) (consA (fun ρ => fzAt ρ 13) (fun _ => some [])))))))))))) (sq (dropS (callV m_check_people (consA (fun ρ => fzAt ρ 14) (fun _ => some [])))) (sq (dropS (callV m_check_routes (consA (fun ρ => fzAt ρ 14) (fun _ => some [])))) (sq (dropS (callV m_check_rest (consA (fun ρ => fzAt ρ 14) (fun _ => some [])))) (retS (fun ρ => fzAt ρ 14)))))))
def m_setup : List D → Option D := fun ds => fin (b_setup (startR 15 ds))
theorem ok_setup (T : Txt K mg) : KwOk P w K mg base 8 "setup" ["week", "people", "schedules", "policies", "windows", "routes", "holdbacks", "groups", "replicas", "pause", "down", "lookback"] 13 g_setup m_setup :=
  let ⟨f, fd, g, gV, F, hm, hk, hb, hr0⟩ := T.k_setup
  ⟨f, fd, _, g, gV, fn_data F sc_setup (fun _ _ _ h => h) fun cdv A outer s H E hr => ⟨_, (dss_cons (ds_set 13 sc_setup.nd (de_tup (da_cons (de_var 8) (da_cons (de_var 9) (da_cons (de_var 10) (da_cons (de_var 11) (da_cons (de_var 12) da_nil))))))) (dss_cons (ds_set 14 sc_setup.nd (de_make (mk_Setup T) hr (da_cons (de_var 0) (da_cons (de_var 1) (da_cons (de_var 2) (da_cons (de_var 3) (da_cons (de_var 4) (da_cons (de_var 5) (da_cons (de_var 6) (da_cons (de_var 7) (da_cons (de_var 13) da_nil))))))))))) (dss_cons (ds_expr (de_callN (ok_check_people T) hr (da_cons (de_var 14) da_nil))) (dss_cons (ds_expr (de_callN (ok_check_routes T) hr (da_cons (de_var 14) da_nil))) (dss_cons (ds_expr (de_callN (ok_check_rest T) hr (da_cons (de_var 14) da_nil))) (dss_one (ds_ret (de_var 14))))))))⟩, hm, hk, hb, hr0⟩
/-! _law_setup -/
theorem sc__law_setup : FnScope ["_law_days", "_law_staff", "_law_rotas", "_law_ladders", "_law_shutters", "_law_tree", "_law_holds_here", "_law_books", "_law_numbers"] ["_law_days", "_law_staff", "_law_rotas", "_law_ladders", "_law_shutters", "_law_tree", "_law_holds_here", "_law_books", "_law_numbers"] (defScope s__law_setup) := ⟨rfl, rfl, rfl, by decide +kernel, rfl, by decide +kernel, by decide +kernel⟩
def b__law_setup : Reg → Out := (retS (callV (fun ds => m_setup (g_setup ds)) (consA (fun ρ => fzAt ρ 0) (consA (fun ρ => fzAt ρ 1) (consA (fun ρ => fzAt ρ 2) (consA (fun ρ => fzAt ρ 3) (consA (fun ρ => fzAt ρ 4) (consA (fun ρ => fzAt ρ 5) (consA (fun ρ => fzAt ρ 6) (consA (fun ρ => fzAt ρ 7) (consA (bin2 (fun ρ => fzAt ρ 8) (fun _ => some (.int 0)) dItem) (consA (bin2 (fun ρ => fzAt ρ 8) (fun _ => some (.int 1)) dItem) (consA (bin2 (fun ρ => fzAt ρ 8) (fun _ => some (.int 2)) dItem) (consA (bin2 (fun ρ => fzAt ρ 8) (fun _ => some (.int 3)) dItem) (fun _ => some [])))))))))))))))
def m__law_setup : List D → Option D := fun ds => fin (b__law_setup (startR 9 ds))
theorem ok__law_setup (T : Txt K mg) : NameOk P w K mg base 9 "_law_setup" 9 m__law_setup :=
  name_data T.f__law_setup sc__law_setup (fun _ _ _ h => h) fun f cdv A outer s H E hr => ⟨_, (dss_one (ds_ret (de_callK (ok_setup T) hr (dk_cons (de_var 0) (dk_cons (de_var 1) (dk_cons (de_var 2) (dk_cons (de_var 3) (dk_cons (de_var 4) (dk_cons (de_var 5) (dk_cons (de_var 6) (dk_cons (de_var 7) (dk_cons (de_item hr (de_var 8).toB de_int.toB) (dk_cons (de_item hr (de_var 8).toB de_int.toB) (dk_cons (de_item hr (de_var 8).toB de_int.toB) (dk_cons (de_item hr (de_var 8).toB de_int.toB) dk_nil)))))))))))) (gl_setup))))⟩
/-! _law_world -/
theorem sc__law_world : FnScope ["_law_script_here", "_law_words_here", "_law_names", "_law_worths_here", "_law_draws_here", "_law_days", "_law_k", "_law_staff", "_law_crew", "_law_titles", "_law_rotas", "_law_steps", "_law_ladders", "_law_bars", "_law_shutters", "_law_tree", "_law_holds_here", "_law_numbers", "_law_made", "_law_person", "_law_shutter_here", "_law_ladder_here"] ["_law_script_here"] (defScope s__law_world) := ⟨rfl, rfl, rfl, by decide +kernel, rfl, by decide +kernel, by decide +kernel⟩
def C1__law_world : Reg → Option D := (tupV (consA (bin2 (fun ρ => fzAt ρ 1) (fun ρ => fzAt ρ 6) dItem) (consA (bin2 (un1 (bin2 (fun ρ => fzAt ρ 4) (bin2 (fun _ => some (.int 1)) (fun ρ => fzAt ρ 6) dPlus) dItem) dInt) (fun _ => some (.int 4)) dMod) (fun _ => some []))))
def C2__law_world : Reg → Option D := (bin2 (fun ρ => fzAt ρ 19) (fun _ => some (.int 0)) dItem)
def C3__law_world : Reg → Option D := (callV m__law_rota (consA (callV m__law_cell (consA (fun ρ => fzAt ρ 0) (consA (bin2 (fun _ => some (.int 3)) (fun ρ => fzAt ρ 6) dPlus) (fun _ => some [])))) (consA (bin2 (fun ρ => fzAt ρ 9) (fun ρ => fzAt ρ 6) dItem) (consA (fun ρ => fzAt ρ 8) (consA (fun ρ => fzAt ρ 5) (fun _ => some []))))))
def C4__law_world : Reg → Option D := (callV m__law_ladder (consA (slV (fun ρ => fzAt ρ 11) (parV (bin2 (fun _ => some (.int 8)) (fun ρ => fzAt ρ 6) dMul)) (parV (bin2 (bin2 (fun _ => some (.int 8)) (fun ρ => fzAt ρ 6) dMul) (fun _ => some (.int 8)) dPlus)) dSlice) (consA (bin2 (fun ρ => fzAt ρ 1) (bin2 (fun _ => some (.int 6)) (fun ρ => fzAt ρ 6) dPlus) dItem) (consA (fun ρ => fzAt ρ 9) (fun _ => some [])))))
def C5__law_world : Reg → Option D := (callV m__law_shutter (consA (slV (fun ρ => fzAt ρ 13) (parV (bin2 (fun _ => some (.int 6)) (fun ρ => fzAt ρ 6) dMul)) (parV (bin2 (bin2 (fun _ => some (.int 6)) (fun ρ => fzAt ρ 6) dMul) (fun _ => some (.int 6)) dPlus)) dSlice) (consA (bin2 (fun ρ => fzAt ρ 1) (fun ρ => fzAt ρ 6) dItem) (consA (fun ρ => fzAt ρ 5) (fun _ => some [])))))
def C6__law_world : Reg → Option D := (bin2 (fun ρ => fzAt ρ 20) (fun _ => some (.int 0)) dItem)
def C7__law_world : Reg → Option D := (bin2 (fun ρ => fzAt ρ 21) (fun _ => some (.int 0)) dItem)
def L1__law_world : Reg → Out := (sq (setS 9 (lcV (itV (fun ρ => fzAt ρ 14)) (gN 20) (fun _ => some true) C6__law_world [20])) (appS 15 (callV m__law_route (consA (callV m__law_cell (consA (fun ρ => fzAt ρ 0) (consA (bin2 (fun _ => some (.int 7)) (fun ρ => fzAt ρ 6) dPlus) (fun _ => some [])))) (consA (fun ρ => fzAt ρ 6) (consA (fun ρ => fzAt ρ 2) (consA (fun ρ => fzAt ρ 3) (consA (lcV (itV (fun ρ => fzAt ρ 12)) (gN 21) (fun _ => some true) C7__law_world [21]) (consA (fun ρ => fzAt ρ 9) (fun _ => some []))))))))))
def b__law_world : Reg → Out := (sq (setS 1 (callV m__law_words (consA (callV m__law_cell (consA (fun ρ => fzAt ρ 0) (consA (fun _ => some (.int 0)) (fun _ => some [])))) (consA (fun _ => some (.int 8)) (fun _ => some []))))) (sq (setS 2 (callV m__law_words (consA (callV m__law_cell (consA (fun ρ => fzAt ρ 0) (consA (fun _ => some (.int 1)) (fun _ => some [])))) (consA (fun _ => some (.int 3)) (fun _ => some []))))) (sq (setS 3 (callV m__law_worths (consA (callV m__law_cell (consA (fun ρ => fzAt ρ 0) (consA (fun _ => some (.int 1)) (fun _ => some [])))) (consA (fun _ => some (.int 3)) (fun _ => some []))))) (sq (setS 4 (callV m__law_draws (consA (callV m__law_cell (consA (fun ρ => fzAt ρ 0) (consA (fun _ => some (.int 2)) (fun _ => some [])))) (consA (fun _ => some (.int 16)) (fun _ => some []))))) (sq (setS 5 (bin2 (fun _ => some (.int 2)) (bin2 (un1 (bin2 (fun ρ => fzAt ρ 4) (fun _ => some (.int 0)) dItem) dInt) (fun _ => some (.int 23)) dMod) dPlus)) (sq (setS 7 (lcV (rng1 (consA (bin2 (fun _ => some (.int 1)) (bin2 (un1 (bin2 (fun ρ => fzAt ρ 4) (fun _ => some (.int 5)) dItem) dInt) (fun _ => some (.int 4)) dMod) dPlus) (fun _ => some []))) (gN 6) (fun _ => some true) C1__law_world [6])) (sq (setS 8 (lcV (itV (fun ρ => fzAt ρ 7)) (gN 19) (fun _ => some true) C2__law_world [19])) (sq (setS 9 (slV (fun ρ => fzAt ρ 1) (parV (fun _ => some (.int 4))) (parV (bin2 (fun _ => some (.int 5)) (bin2 (un1 (bin2 (fun ρ => fzAt ρ 4) (fun _ => some (.int 6)) dItem) dInt) (fun _ => some (.int 2)) dMod) dPlus)) dSlice)) (sq (setS 10 (lcV (rng1 (consA (un1 (fun ρ => fzAt ρ 9) dLen) (fun _ => some []))) (gN 6) (fun _ => some true) C3__law_world [6])) (sq (setS 11 (callV m__law_draws (consA (callV m__law_cell (consA (fun ρ => fzAt ρ 0) (consA (fun _ => some (.int 5)) (fun _ => some [])))) (consA (fun _ => some (.int 16)) (fun _ => some []))))) (sq (setS 12 (lcV (rng1 (consA (bin2 (fun _ => some (.int 1)) (bin2 (un1 (bin2 (fun ρ => fzAt ρ 4) (fun _ => some (.int 7)) dItem) dInt) (fun _ => some (.int 2)) dMod) dPlus) (fun _ => some []))) (gN 6) (fun _ => some true) C4__law_world [6])) (sq (setS 13 (callV m__law_draws (consA (callV m__law_cell (consA (fun ρ => fzAt ρ 0) (consA (fun _ => some (.int 6)) (fun _ => some [])))) (consA (fun _ => some (.int 12)) (fun _ => some []))))) (sq (setS 14 (lcV (rng1 (consA (bin2 (un1 (bin2 (fun ρ => fzAt ρ 4) (fun _ => some (.int 8)) dItem) dInt) (fun _ => some (.int 3)) dMod) (fun _ => some []))) (gN 6) (fun _ => some true) C5__law_world [6])) (sq (setN 15 (lstV (fun _ => some []))) (sq (forS (rng1 (consA (bin2 (fun _ => some (.int 1)) (bin2 (un1 (bin2 (fun ρ => fzAt ρ 4) (fun _ => some (.int 9)) dItem) dInt) (fun _ => some (.int 4)) dMod) dPlus) (fun _ => some []))) (gN 6) L1__law_world) (sq (setS 16 (callV m__law_holds (consA (callV m__law_cell (consA (fun ρ => fzAt ρ 0) (consA (fun _ => some (.int 11)) (fun _ => some [])))) (consA (fun ρ => fzAt ρ 2) (consA (fun ρ => fzAt ρ 3) (fun _ => some [])))))) (sq (setS 17 (lstV (consA (bin2 (fun _ => some (.int 1)) (bin2 (un1 (bin2 (fun ρ => fzAt ρ 4) (fun _ => some (.int 10)) dItem) dInt) (fun _ => some (.int 3)) dMod) dPlus) (consA (bin2 (un1 (bin2 (fun ρ => fzAt ρ 4) (fun _ => some (.int 11)) dItem) dInt) (fun _ => some (.int 4)) dMod) (consA (bin2 (un1 (bin2 (fun ρ => fzAt ρ 4) (fun _ => some (.int 12)) dItem) dInt) (fun _ => some (.int 3)) dMod) (consA (fun _ => some (.int 5)) (fun _ => some []))))))) (sq (frzS 15 (setS 18 (callV m__law_setup (consA (fun ρ => fzAt ρ 5) (consA (fun ρ => fzAt ρ 7) (consA (fun ρ => fzAt ρ 10) (consA (fun ρ => fzAt ρ 12) (consA (fun ρ => fzAt ρ 14) (consA (fun ρ => fzAt ρ 15) (consA (fun ρ => fzAt ρ 16) (consA (lstV (fun _ => some [])) (consA (fun ρ => fzAt ρ 17) (fun _ => some []))))))))))))) (retS (lstV (consA (fun ρ => fzAt ρ 18) (consA (fun ρ => fzAt ρ 2) (consA (fun ρ => fzAt ρ 3) (fun _ => some []))))))))))))))))))))))))
def m__law_world : List D → Option D := fun ds => fin (b__law_world (startR 22 ds))
theorem ok__law_world (T : Txt K mg) : NameOk P w K mg base 10 "_law_world" 1 m__law_world :=
  name_data T.f__law_world sc__law_world (fun _ _ _ h => h) fun f cdv A outer s H E hr => ⟨_, (dss_cons (ds_set 1 sc__law_world.nd (de_callN (ok__law_words T) hr (da_cons (de_callN (ok__law_cell T) hr (da_cons (de_var 0) (da_cons de_int da_nil))) (da_cons de_int da_nil)))) (dss_cons (ds_set 2 sc__law_world.nd (de_callN (ok__law_words T) hr (da_cons (de_callN (ok__law_cell T) hr (da_cons (de_var 0) (da_cons de_int da_nil))) (da_cons de_int da_nil)))) (dss_cons (ds_set 3 sc__law_world.nd (de_callN (ok__law_worths T) hr (da_cons (de_callN (ok__law_cell T) hr (da_cons (de_var 0) (da_cons de_int da_nil))) (da_cons de_int da_nil)))) (dss_cons (ds_set 4 sc__law_world.nd (de_callN (ok__law_draws T) hr (da_cons (de_callN (ok__law_cell T) hr (da_cons (de_var 0) (da_cons de_int da_nil))) (da_cons de_int da_nil)))) (dss_cons (ds_set 5 sc__law_world.nd (de_plus de_int.toB (de_mod (de_toInt T.z_int (de_item hr (de_var 4).toB de_int.toB).toB).toB de_int.toB).toB)) (dss_cons (ds_setLc 7 [("_law_k", 6)] rfl sc__law_world.nd (di_range1 T.z_range (da_cons (de_plus de_int.toB (de_mod (de_toInt T.z_int (de_item hr (de_var 4).toB de_int.toB).toB).toB de_int.toB).toB) da_nil)) (fun _ _ _ _ _ => ⟨_, (dg_name 6 sc__law_world.nd)⟩) (fun _ _ _ _ _ => ⟨_, dts_nil⟩) (fun _ _ _ _ _ => ⟨_, (de_tup (da_cons (de_item hr (de_var 1).toB (de_var 6).toB) (da_cons (de_mod (de_toInt T.z_int (de_item hr (de_var 4).toB (de_plus de_int.toB (de_var 6).toB).toB).toB).toB de_int.toB) da_nil)))⟩) (ok := blkOk_by (N := ["_law_script_here", "_law_words_here", "_law_names", "_law_worths_here", "_law_draws_here", "_law_days", "_law_k", "_law_staff", "_law_crew", "_law_titles", "_law_rotas", "_law_steps", "_law_ladders", "_law_bars", "_law_shutters", "_law_tree", "_law_holds_here", "_law_numbers", "_law_made", "_law_person", "_law_shutter_here", "_law_ladder_here"]) (sc := defScope s__law_world) (by decide +kernel))) (dss_cons (ds_set 8 sc__law_world.nd (dn_lc [("_law_person", 19)] rfl sc__law_world.nd (di_any (de_var 7)) (fun _ _ _ _ _ => ⟨_, (dg_name 19 sc__law_world.nd)⟩) (fun _ _ _ _ _ => ⟨_, dts_nil⟩) (fun _ _ _ _ _ => ⟨_, (de_item hr (de_var 19).toB de_int.toB)⟩) (ok := blkOk_by (N := ["_law_script_here", "_law_words_here", "_law_names", "_law_worths_here", "_law_draws_here", "_law_days", "_law_k", "_law_staff", "_law_crew", "_law_titles", "_law_rotas", "_law_steps", "_law_ladders", "_law_bars", "_law_shutters", "_law_tree", "_law_holds_here", "_law_numbers", "_law_made", "_law_person", "_law_shutter_here", "_law_ladder_here"]) (sc := defScope s__law_world) (by decide +kernel))).toE) (dss_cons (ds_set 9 sc__law_world.nd (de_slice (de_var 1).toB (do_some de_int.toB) (do_some (de_plus de_int.toB (de_mod (de_toInt T.z_int (de_item hr (de_var 4).toB de_int.toB).toB).toB de_int.toB).toB).toB))) (dss_cons (ds_setLc 10 [("_law_k", 6)] rfl sc__law_world.nd (di_range1 T.z_range (da_cons (de_len T.z_len (de_var 9).toB) da_nil)) (fun _ _ _ _ _ => ⟨_, (dg_name 6 sc__law_world.nd)⟩) (fun _ _ _ _ _ => ⟨_, dts_nil⟩) (fun _ _ _ _ _ => ⟨_, (de_callN (ok__law_rota T) hr (da_cons (de_callN (ok__law_cell T) hr (da_cons (de_var 0) (da_cons (de_plus de_int.toB (de_var 6).toB) da_nil))) (da_cons (de_item hr (de_var 9).toB (de_var 6).toB) (da_cons (de_var 8) (da_cons (de_var 5) da_nil)))))⟩) (ok := blkOk_by (N := ["_law_script_here", "_law_words_here", "_law_names", "_law_worths_here", "_law_draws_here", "_law_days", "_law_k", "_law_staff", "_law_crew", "_law_titles", "_law_rotas", "_law_steps", "_law_ladders", "_law_bars", "_law_shutters", "_law_tree", "_law_holds_here", "_law_numbers", "_law_made", "_law_person", "_law_shutter_here", "_law_ladder_here"]) (sc := defScope s__law_world) (by decide +kernel))) (dss_cons (ds_set 11 sc__law_world.nd (de_callN (ok__law_draws T) hr (da_cons (de_callN (ok__law_cell T) hr (da_cons (de_var 0) (da_cons de_int da_nil))) (da_cons de_int da_nil)))) (dss_cons (ds_setLc 12 [("_law_k", 6)] rfl sc__law_world.nd (di_range1 T.z_range (da_cons (de_plus de_int.toB (de_mod (de_toInt T.z_int (de_item hr (de_var 4).toB de_int.toB).toB).toB de_int.toB).toB) da_nil)) (fun _ _ _ _ _ => ⟨_, (dg_name 6 sc__law_world.nd)⟩) (fun _ _ _ _ _ => ⟨_, dts_nil⟩) (fun _ _ _ _ _ => ⟨_, (de_callN (ok__law_ladder T) hr (da_cons (de_slice (de_var 11).toB (do_some (de_mul de_int.toB (de_var 6).toB).toB) (do_some (de_plus (de_mul de_int.toB (de_var 6).toB).toB de_int.toB).toB)) (da_cons (de_item hr (de_var 1).toB (de_plus de_int.toB (de_var 6).toB).toB) (da_cons (de_var 9) da_nil))))⟩) (ok := blkOk_by (N := ["_law_script_here", "_law_words_here", "_law_names", "_law_worths_here", "_law_draws_here", "_law_days", "_law_k", "_law_staff", "_law_crew", "_law_titles", "_law_rotas", "_law_steps", "_law_ladders", "_law_bars", "_law_shutters", "_law_tree", "_law_holds_here", "_law_numbers", "_law_made", "_law_person", "_law_shutter_here", "_law_ladder_here"]) (sc := defScope s__law_world) (by decide +kernel))) (dss_cons (ds_set 13 sc__law_world.nd (de_callN (ok__law_draws T) hr (da_cons (de_callN (ok__law_cell T) hr (da_cons (de_var 0) (da_cons de_int da_nil))) (da_cons de_int da_nil)))) (dss_cons (ds_setLc 14 [("_law_k", 6)] rfl sc__law_world.nd (di_range1 T.z_range (da_cons (de_mod (de_toInt T.z_int (de_item hr (de_var 4).toB de_int.toB).toB).toB de_int.toB) da_nil)) (fun _ _ _ _ _ => ⟨_, (dg_name 6 sc__law_world.nd)⟩) (fun _ _ _ _ _ => ⟨_, dts_nil⟩) (fun _ _ _ _ _ => ⟨_, (de_callN (ok__law_shutter T) hr (da_cons (de_slice (de_var 13).toB (do_some (de_mul de_int.toB (de_var 6).toB).toB) (do_some (de_plus (de_mul de_int.toB (de_var 6).toB).toB de_int.toB).toB)) (da_cons (de_item hr (de_var 1).toB (de_var 6).toB) (da_cons (de_var 5) da_nil))))⟩) (ok := blkOk_by (N := ["_law_script_here", "_law_words_here", "_law_names", "_law_worths_here", "_law_draws_here", "_law_days", "_law_k", "_law_staff", "_law_crew", "_law_titles", "_law_rotas", "_law_steps", "_law_ladders", "_law_bars", "_law_shutters", "_law_tree", "_law_holds_here", "_law_numbers", "_law_made", "_law_person", "_law_shutter_here", "_law_ladder_here"]) (sc := defScope s__law_world) (by decide +kernel))) (dss_cons (ds_setN 15 sc__law_world.nd (dn_lst da_nil)) (dss_cons (ds_for PassesOwn.never rfl (di_range1 T.z_range (da_cons (de_plus de_int.toB (de_mod (de_toInt T.z_int (de_item hr (de_var 4).toB de_int.toB).toB).toB de_int.toB).toB) da_nil)) (dg_name 6 sc__law_world.nd) (dss_cons (ds_set 9 sc__law_world.nd (dn_lc [("_law_shutter_here", 20)] rfl sc__law_world.nd (di_any (de_var 14)) (fun _ _ _ _ _ => ⟨_, (dg_name 20 sc__law_world.nd)⟩) (fun _ _ _ _ _ => ⟨_, dts_nil⟩) (fun _ _ _ _ _ => ⟨_, (de_item hr (de_var 20).toB de_int.toB)⟩) (ok := blkOk_by (N := ["_law_script_here", "_law_words_here", "_law_names", "_law_worths_here", "_law_draws_here", "_law_days", "_law_k", "_law_staff", "_law_crew", "_law_titles", "_law_rotas", "_law_steps", "_law_ladders", "_law_bars", "_law_shutters", "_law_tree", "_law_holds_here", "_law_numbers", "_law_made", "_law_person", "_law_shutter_here", "_law_ladder_here"]) (sc := defScope s__law_world) (by decide +kernel))).toE) (dss_one (ds_append 15 (de_callN (ok__law_route T) hr (da_cons (de_callN (ok__law_cell T) hr (da_cons (de_var 0) (da_cons (de_plus de_int.toB (de_var 6).toB) da_nil))) (da_cons (de_var 6) (da_cons (de_var 2) (da_cons (de_var 3) (da_cons (dn_lc [("_law_ladder_here", 21)] rfl sc__law_world.nd (di_any (de_var 12)) (fun _ _ _ _ _ => ⟨_, (dg_name 21 sc__law_world.nd)⟩) (fun _ _ _ _ _ => ⟨_, dts_nil⟩) (fun _ _ _ _ _ => ⟨_, (de_item hr (de_var 21).toB de_int.toB)⟩) (ok := blkOk_by (N := ["_law_script_here", "_law_words_here", "_law_names", "_law_worths_here", "_law_draws_here", "_law_days", "_law_k", "_law_staff", "_law_crew", "_law_titles", "_law_rotas", "_law_steps", "_law_ladders", "_law_bars", "_law_shutters", "_law_tree", "_law_holds_here", "_law_numbers", "_law_made", "_law_person", "_law_shutter_here", "_law_ladder_here"]) (sc := defScope s__law_world) (by decide +kernel))).toE (da_cons (de_var 9) da_nil))))))))))) (dss_cons (ds_set 16 sc__law_world.nd (de_callN (ok__law_holds T) hr (da_cons (de_callN (ok__law_cell T) hr (da_cons (de_var 0) (da_cons de_int da_nil))) (da_cons (de_var 2) (da_cons (de_var 3) da_nil))))) (dss_cons (ds_set 17 sc__law_world.nd (dn_lst (da_cons (de_plus de_int.toB (de_mod (de_toInt T.z_int (de_item hr (de_var 4).toB de_int.toB).toB).toB de_int.toB).toB) (da_cons (de_mod (de_toInt T.z_int (de_item hr (de_var 4).toB de_int.toB).toB).toB de_int.toB) (da_cons (de_mod (de_toInt T.z_int (de_item hr (de_var 4).toB de_int.toB).toB).toB de_int.toB) (da_cons de_int da_nil))))).toE) (dss_cons (ds_frz 15 (ds_set 18 sc__law_world.nd (de_callN (ok__law_setup T) hr (da_cons (de_var 5) (da_cons (de_var 7) (da_cons (de_var 10) (da_cons (de_var 12) (da_cons (de_var 14) (da_cons (de_var 15) (da_cons (de_var 16) (da_cons (dn_lst da_nil).toE (da_cons (de_var 17) da_nil)))))))))))) (dss_one (ds_ret (dn_lst (da_cons (de_var 18) (da_cons (de_var 2) (da_cons (de_var 3) da_nil)))).toE))))))))))))))))))))⟩
/-! _law_labels -/
theorem sc__law_labels : FnScope ["_law_draws_here", "_law_names", "_law_worths_here", "_law_pairs", "_law_used", "_law_k", "_law_name"] ["_law_draws_here", "_law_names", "_law_worths_here"] (defScope s__law_labels) := ⟨rfl, rfl, rfl, by decide +kernel, rfl, by decide +kernel, by decide +kernel⟩
def L1__law_labels : Reg → Out := (sq (setS 6 (bin2 (fun ρ => fzAt ρ 1) (bin2 (un1 (bin2 (fun ρ => fzAt ρ 0) (fun ρ => fzAt ρ 5) dItem) dInt) (un1 (fun ρ => fzAt ρ 1) dLen) dMod) dItem)) (iteS (cmp2 (fun ρ => fzAt ρ 6) (fun ρ => anyAt ρ 4) dNotMem) (sq (appS 4 (fun ρ => fzAt ρ 6)) (appS 3 (tupV (consA (fun ρ => fzAt ρ 6) (consA (bin2 (fun ρ => fzAt ρ 2) (bin2 (un1 (bin2 (fun ρ => fzAt ρ 0) (bin2 (fun ρ => fzAt ρ 5) (fun _ => some (.int 1)) dPlus) dItem) dInt) (un1 (fun ρ => fzAt ρ 2) dLen) dMod) dItem) (fun _ => some [])))))) skip))
def b__law_labels : Reg → Out := (sq (setN 3 (lstV (fun _ => some []))) (sq (setN 4 (lstV (fun _ => some []))) (sq (forS (rng3 (consA (fun _ => some (.int 0)) (consA (bin2 (un1 (fun ρ => fzAt ρ 0) dLen) (fun _ => some (.int 1)) dSub) (consA (fun _ => some (.int 2)) (fun _ => some []))))) (gN 5) L1__law_labels) (retS (un1 (un1 (fun ρ => anyAt ρ 3) dSortP) dTup)))))
def m__law_labels : List D → Option D := fun ds => fin (b__law_labels (startR 7 ds))
theorem ok__law_labels (T : Txt K mg) : NameOk P w K mg base 1 "_law_labels" 3 m__law_labels :=
  name_data T.f__law_labels sc__law_labels (fun _ _ _ h => h) fun f cdv A outer s H E hr => ⟨_, (dss_cons (ds_setN 3 sc__law_labels.nd (dn_lst da_nil)) (dss_cons (ds_setN 4 sc__law_labels.nd (dn_lst da_nil)) (dss_cons (ds_for PassesOwn.never rfl (di_range3 T.z_range (da_cons de_int (da_cons (de_sub (de_len T.z_len (de_var 0).toB).toB de_int.toB) (da_cons de_int da_nil)))) (dg_name 5 sc__law_labels.nd) (dss_cons (ds_set 6 sc__law_labels.nd (de_item hr (de_var 1).toB (de_mod (de_toInt T.z_int (de_item hr (de_var 0).toB (de_var 5).toB).toB).toB (de_len T.z_len (de_var 1).toB).toB).toB)) (dss_one (ds_if (dt_notMem hr (de_var 6).toB (db_var 4)) (dss_cons (ds_append 4 (de_var 6)) (dss_one (ds_append 3 (de_tup (da_cons (de_var 6) (da_cons (de_item hr (de_var 2).toB (de_mod (de_toInt T.z_int (de_item hr (de_var 0).toB (de_plus (de_var 5).toB de_int.toB).toB).toB).toB (de_len T.z_len (de_var 2).toB).toB).toB) da_nil)))))) dss_nil)))) (dss_one (ds_ret (de_tuple T.z_tuple (dn_sortP T.z_sorted (db_var 3)).toE.toB))))))⟩
/-! _law_value -/
theorem sc__law_value : FnScope ["_law_labels_here", "_law_name", "_law_pair"] ["_law_labels_here", "_law_name"] (defScope s__law_value) := ⟨rfl, rfl, rfl, by decide +kernel, rfl, by decide +kernel, by decide +kernel⟩
def L1__law_value : Reg → Out := (iteS (cmp2 (bin2 (fun ρ => fzAt ρ 2) (fun _ => some (.int 0)) dItem) (fun ρ => fzAt ρ 1) dEq) (retS (bin2 (fun ρ => fzAt ρ 2) (fun _ => some (.int 1)) dItem)) skip)
def b__law_value : Reg → Out := (sq (forS (itV (fun ρ => fzAt ρ 0)) (gN 2) L1__law_value) (retS (fun _ => some (.str (lit "")))))
def m__law_value : List D → Option D := fun ds => fin (b__law_value (startR 3 ds))
theorem ok__law_value (T : Txt K mg) : NameOk P w K mg base 1 "_law_value" 2 m__law_value :=
  name_data T.f__law_value sc__law_value (fun _ _ _ h => h) fun f cdv A outer s H E hr => ⟨_, (dss_cons (ds_for PassesOwn.never rfl (di_any (de_var 0)) (dg_name 2 sc__law_value.nd) (dss_one (ds_if (dt_eq (de_item hr (de_var 2).toB de_int.toB).toB (de_var 1).toB) (dss_one (ds_ret (de_item hr (de_var 2).toB de_int.toB))) dss_nil))) (dss_one (ds_ret de_str)))⟩
/-! _law_matches -/
theorem sc__law_matches : FnScope ["_law_matchers", "_law_labels_here", "_law_name", "_law_values", "_law_inside"] ["_law_matchers", "_law_labels_here"] (defScope s__law_matches) := ⟨rfl, rfl, rfl, by decide +kernel, rfl, by decide +kernel, by decide +kernel⟩
def L1__law_matches : Reg → Out := (iteS (cmp2 (bV (cmp2 (callV m__law_value (consA (fun ρ => fzAt ρ 1) (consA (fun ρ => fzAt ρ 2) (fun _ => some [])))) (fun ρ => fzAt ρ 3) dMem)) (fun ρ => fzAt ρ 4) dNe) (retS (fun _ => some (.bl false))) skip)
def b__law_matches : Reg → Out := (sq (forS (itV (fun ρ => fzAt ρ 0)) (gT (gsC (gN 2) (gsC (gN 3) (gsC (gN 4) gsN)))) L1__law_matches) (retS (fun _ => some (.bl true))))
def m__law_matches : List D → Option D := fun ds => fin (b__law_matches (startR 5 ds))
theorem ok__law_matches (T : Txt K mg) : NameOk P w K mg base 2 "_law_matches" 2 m__law_matches :=
  name_data T.f__law_matches sc__law_matches (fun _ _ _ h => h) fun f cdv A outer s H E hr => ⟨_, (dss_cons (ds_for PassesOwn.never rfl (di_any (de_var 0)) (dg_tup 3 rfl (dgs_cons (dg_name 2 sc__law_matches.nd) (dgs_cons (dg_name 3 sc__law_matches.nd) (dgs_cons (dg_name 4 sc__law_matches.nd) dgs_nil))) (gsC_len (gsC_len (gsC_len gsN_len)))) (dss_one (ds_if (dt_ne (de_mem hr (de_callN (ok__law_value T) hr (da_cons (de_var 1) (da_cons (de_var 2) da_nil))).toB (de_var 3).toB).toB (de_var 4).toB) (dss_one (ds_ret de_bl)) dss_nil))) (dss_one (ds_ret de_bl)))⟩
/-! _law_way -/
theorem sc__law_way : FnScope ["_law_tree", "_law_labels_here", "_law_way_here", "_law_turn", "_law_found", "_law_k"] ["_law_tree", "_law_labels_here"] (defScope s__law_way) := ⟨rfl, rfl, rfl, by decide +kernel, rfl, by decide +kernel, by decide +kernel⟩
def L1__law_way : Reg → Out := (iteS (andT (cmp2 (fun ρ => fzAt ρ 4) (fun _ => some .non) dIsN) (andT (cmp2 (bin2 (bin2 (fun ρ => fzAt ρ 0) (fun ρ => fzAt ρ 5) dItem) (fun _ => some (.int 0)) dItem) (bin2 (fun ρ => anyAt ρ 2) (un1 (fun _ => some (.int 1)) dNeg) dItem) dEq) (truT (callV m__law_matches (consA (bin2 (bin2 (fun ρ => fzAt ρ 0) (fun ρ => fzAt ρ 5) dItem) (fun _ => some (.int 1)) dItem) (consA (fun ρ => fzAt ρ 1) (fun _ => some []))))))) (setS 4 (fun ρ => fzAt ρ 5)) skip)
def L2__law_way : Reg → Out := (sq (setS 4 (fun _ => some .non)) (sq (forS (rng2 (consA (fun _ => some (.int 1)) (consA (un1 (fun ρ => fzAt ρ 0) dLen) (fun _ => some [])))) (gN 5) L1__law_way) (iteS (cmp2 (fun ρ => fzAt ρ 4) (fun _ => some .non) dNotN) (appS 2 (fun ρ => fzAt ρ 4)) skip)))
def b__law_way : Reg → Out := (sq (setN 2 (lstV (consA (fun _ => some (.int 0)) (fun _ => some [])))) (sq (forS (rng1 (consA (un1 (fun ρ => fzAt ρ 0) dLen) (fun _ => some []))) (gN 3) L2__law_way) (frzS 2 (retS (fun ρ => fzAt ρ 2)))))
def m__law_way : List D → Option D := fun ds => fin (b__law_way (startR 6 ds))
theorem ok__law_way (T : Txt K mg) : NameOk P w K mg base 3 "_law_way" 2 m__law_way :=
  name_data T.f__law_way sc__law_way (fun _ _ _ h => h) fun f cdv A outer s H E hr => ⟨_, (dss_cons (ds_setN 2 sc__law_way.nd (dn_lst (da_cons de_int da_nil))) (dss_cons (ds_for PassesOwn.never rfl (di_range1 T.z_range (da_cons (de_len T.z_len (de_var 0).toB) da_nil)) (dg_name 3 sc__law_way.nd) (dss_cons (ds_set 4 sc__law_way.nd de_non) (dss_cons (ds_for PassesOwn.never rfl (di_range2 T.z_range (da_cons de_int (da_cons (de_len T.z_len (de_var 0).toB) da_nil))) (dg_name 5 sc__law_way.nd) (dss_one (ds_if (dw_and (dt_isN (de_var 4).toB de_non.toB) (dw_and (dt_eq (de_item hr (de_item hr (de_var 0).toB (de_var 5).toB).toB de_int.toB).toB (de_item hr (db_var 2) (de_neg de_int.toB).toB).toB) (dw_and1 (dt_tru (de_callN (ok__law_matches T) hr (da_cons (de_item hr (de_item hr (de_var 0).toB (de_var 5).toB).toB de_int.toB) (da_cons (de_var 1) da_nil))).toB)))).toT (dss_one (ds_set 4 sc__law_way.nd (de_var 5))) dss_nil))) (dss_one (ds_if (dt_notN (de_var 4).toB de_non.toB) (dss_one (ds_append 2 (de_var 4))) dss_nil))))) (dss_one (ds_frz 2 (ds_ret (de_var 2))))))⟩
/-! _law_case -/
theorem sc__law_case : FnScope ["_law_script_here", "_law_made", "_law_names", "_law_worths_here", "_law_draws_here", "_law_labels_here", "_law_settings"] ["_law_script_here"] (defScope s__law_case) := ⟨rfl, rfl, rfl, by decide +kernel, rfl, by decide +kernel, by decide +kernel⟩
def b__law_case : Reg → Out := (sq (asgS (callV m__law_world (consA (fun ρ => fzAt ρ 0) (fun _ => some []))) (gT (gsC (gN 1) (gsC (gN 2) (gsC (gN 3) gsN))))) (sq (setS 4 (callV m__law_draws (consA (callV m__law_cell (consA (fun ρ => fzAt ρ 0) (consA (fun _ => some (.int 12)) (fun _ => some [])))) (consA (fun _ => some (.int 10)) (fun _ => some []))))) (sq (setS 5 (callV m__law_labels (consA (slV (fun ρ => fzAt ρ 4) (fun _ => some none) (parV (bin2 (un1 (bin2 (fun ρ => fzAt ρ 4) (fun _ => some (.int 8)) dItem) dInt) (fun _ => some (.int 7)) dMod)) dSlice) (consA (fun ρ => fzAt ρ 2) (consA (fun ρ => fzAt ρ 3) (fun _ => some [])))))) (sq (setS 6 (bin2 (bin2 (un1 (fun ρ => fzAt ρ 1) (dFld "Setup" "routes")) (bin2 (callV m__law_way (consA (un1 (fun ρ => fzAt ρ 1) (dFld "Setup" "routes")) (consA (fun ρ => fzAt ρ 5) (fun _ => some [])))) (un1 (fun _ => some (.int 1)) dNeg) dItem) dItem) (fun _ => some (.int 2)) dItem)) (retS (tupV (consA (fun ρ => fzAt ρ 1) (consA (fun ρ => fzAt ρ 5) (consA (fun ρ => fzAt ρ 6) (consA (bin2 (un1 (bin2 (fun ρ => fzAt ρ 4) (fun _ => some (.int 6)) dItem) dInt) (fun _ => some (.int 14)) dMod) (consA (bin2 (un1 (bin2 (fun ρ => fzAt ρ 4) (fun _ => some (.int 7)) dItem) dInt) (fun _ => some (.int 9)) dMod) (fun _ => some []))))))))))))
def m__law_case : List D → Option D := fun ds => fin (b__law_case (startR 7 ds))
theorem ok__law_case (T : Txt K mg) : NameOk P w K mg base 11 "_law_case" 1 m__law_case :=
  name_data T.f__law_case sc__law_case (fun _ _ _ h => h) fun f cdv A outer s H E hr => ⟨_, (dss_cons (ds_asg (de_callN (ok__law_world T) hr (da_cons (de_var 0) da_nil)) (dg_tup 3 rfl (dgs_cons (dg_name 1 sc__law_case.nd) (dgs_cons (dg_name 2 sc__law_case.nd) (dgs_cons (dg_name 3 sc__law_case.nd) dgs_nil))) (gsC_len (gsC_len (gsC_len gsN_len))))) (dss_cons (ds_set 4 sc__law_case.nd (de_callN (ok__law_draws T) hr (da_cons (de_callN (ok__law_cell T) hr (da_cons (de_var 0) (da_cons de_int da_nil))) (da_cons de_int da_nil)))) (dss_cons (ds_set 5 sc__law_case.nd (de_callN (ok__law_labels T) hr (da_cons (de_slice (de_var 4).toB do_none (do_some (de_mod (de_toInt T.z_int (de_item hr (de_var 4).toB de_int.toB).toB).toB de_int.toB).toB)) (da_cons (de_var 2) (da_cons (de_var 3) da_nil))))) (dss_cons (ds_set 6 sc__law_case.nd (de_item hr (de_item hr (de_fld T.q_Setup (by decide +kernel) (de_var 1).toB).toB (de_item hr (de_callN (ok__law_way T) hr (da_cons (de_fld T.q_Setup (by decide +kernel) (de_var 1).toB) (da_cons (de_var 5) da_nil))).toB (de_neg de_int.toB).toB).toB).toB de_int.toB)) (dss_one (ds_ret (de_tup (da_cons (de_var 1) (da_cons (de_var 5) (da_cons (de_var 6) (da_cons (de_mod (de_toInt T.z_int (de_item hr (de_var 4).toB de_int.toB).toB).toB de_int.toB) (da_cons (de_mod (de_toInt T.z_int (de_item hr (de_var 4).toB de_int.toB).toB).toB de_int.toB) da_nil))))))))))))⟩
/-! _law_find -/
theorem sc__law_find : FnScope ["_law_rows", "_law_name", "_law_row"] ["_law_rows", "_law_name"] (defScope s__law_find) := ⟨rfl, rfl, rfl, by decide +kernel, rfl, by decide +kernel, by decide +kernel⟩
def L1__law_find : Reg → Out := (iteS (cmp2 (bin2 (fun ρ => fzAt ρ 2) (fun _ => some (.int 0)) dItem) (fun ρ => fzAt ρ 1) dEq) (retS (fun ρ => fzAt ρ 2)) skip)
def b__law_find : Reg → Out := (sq (forS (itV (fun ρ => fzAt ρ 0)) (gN 2) L1__law_find) (retS (fun _ => some .non)))
def m__law_find : List D → Option D := fun ds => fin (b__law_find (startR 3 ds))
theorem ok__law_find (T : Txt K mg) : NameOk P w K mg base 1 "_law_find" 2 m__law_find :=
  name_data T.f__law_find sc__law_find (fun _ _ _ h => h) fun f cdv A outer s H E hr => ⟨_, (dss_cons (ds_for PassesOwn.never rfl (di_any (de_var 0)) (dg_name 2 sc__law_find.nd) (dss_one (ds_if (dt_eq (de_item hr (de_var 2).toB de_int.toB).toB (de_var 1).toB) (dss_one (ds_ret (de_var 2))) dss_nil))) (dss_one (ds_ret de_non)))⟩
/-! _law_lcm -/
theorem sc__law_lcm : FnScope ["_law_a", "_law_b", "_law_found", "_law_turn"] ["_law_a", "_law_b"] (defScope s__law_lcm) := ⟨rfl, rfl, rfl, by decide +kernel, rfl, by decide +kernel, by decide +kernel⟩
def L1__law_lcm : Reg → Out := (iteS (cmp2 (bin2 (un1 (fun ρ => fzAt ρ 2) dInt) (fun ρ => fzAt ρ 1) dMod) (fun _ => some (.int 0)) dNe) (setS 2 (bin2 (fun ρ => fzAt ρ 2) (fun ρ => fzAt ρ 0) dPlus)) skip)
def b__law_lcm : Reg → Out := (sq (iteS (orT (cmp2 (fun ρ => fzAt ρ 0) (fun _ => some (.int 2000)) dGt) (cmp2 (fun ρ => fzAt ρ 1) (fun _ => some (.int 2000)) dGt)) (retS (fun _ => some (.int 2001))) skip) (sq (setS 2 (fun ρ => fzAt ρ 0)) (sq (forS (rng1 (consA (fun ρ => fzAt ρ 1) (fun _ => some []))) (gN 3) L1__law_lcm) (retS (fun ρ => fzAt ρ 2)))))
def m__law_lcm : List D → Option D := fun ds => fin (b__law_lcm (startR 4 ds))
theorem ok__law_lcm (T : Txt K mg) : NameOk P w K mg base 1 "_law_lcm" 2 m__law_lcm :=
  name_data T.f__law_lcm sc__law_lcm (fun _ _ _ h => h) fun f cdv A outer s H E hr => ⟨_, (dss_cons (ds_if (dw_or (dt_gt (de_var 0).toB de_int.toB) (dw_or1 (dt_gt (de_var 1).toB de_int.toB))).toT (dss_one (ds_ret de_int)) dss_nil) (dss_cons (ds_set 2 sc__law_lcm.nd (de_var 0)) (dss_cons (ds_for PassesOwn.never rfl (di_range1 T.z_range (da_cons (de_var 1) da_nil)) (dg_name 3 sc__law_lcm.nd) (dss_one (ds_if (dt_ne (de_mod (de_toInt T.z_int (de_var 2).toB).toB (de_var 1).toB).toB de_int.toB) (dss_one (ds_set 2 sc__law_lcm.nd (de_plus (de_var 2).toB (de_var 0).toB))) dss_nil))) (dss_one (ds_ret (de_var 2))))))⟩
/-! _law_period -/
theorem sc__law_period : FnScope ["_law_days", "_law_rota_here", "_law_period_here", "_law_members", "_law_start", "_law_shift", "_law_spans"] ["_law_days", "_law_rota_here"] (defScope s__law_period) := ⟨rfl, rfl, rfl, by decide +kernel, rfl, by decide +kernel, by decide +kernel⟩
def L1__law_period : Reg → Out := (sq (iteS (cmp2 (un1 (fun ρ => fzAt ρ 3) dLen) (fun _ => some (.int 1)) dGt) (setS 2 (callV m__law_lcm (consA (fun ρ => fzAt ρ 2) (consA (bin2 (fun ρ => fzAt ρ 5) (un1 (fun ρ => fzAt ρ 3) dLen) dMul) (fun _ => some []))))) skip) (iteS (cmp2 (un1 (fun ρ => fzAt ρ 6) dLen) (fun _ => some (.int 0)) dGt) (setS 2 (callV m__law_lcm (consA (fun ρ => fzAt ρ 2) (consA (fun ρ => fzAt ρ 0) (fun _ => some []))))) skip))
def b__law_period : Reg → Out := (sq (setS 2 (fun _ => some (.int 1))) (sq (forS (itV (bin2 (fun ρ => fzAt ρ 1) (fun _ => some (.int 1)) dItem)) (gT (gsC (gN 3) (gsC (gN 4) (gsC (gN 5) (gsC (gN 6) gsN))))) L1__law_period) (retS (fun ρ => fzAt ρ 2))))
def m__law_period : List D → Option D := fun ds => fin (b__law_period (startR 7 ds))
theorem ok__law_period (T : Txt K mg) : NameOk P w K mg base 2 "_law_period" 2 m__law_period :=
  name_data T.f__law_period sc__law_period (fun _ _ _ h => h) fun f cdv A outer s H E hr => ⟨_, (dss_cons (ds_set 2 sc__law_period.nd de_int) (dss_cons (ds_for PassesOwn.never rfl (di_any (de_item hr (de_var 1).toB de_int.toB)) (dg_tup 4 rfl (dgs_cons (dg_name 3 sc__law_period.nd) (dgs_cons (dg_name 4 sc__law_period.nd) (dgs_cons (dg_name 5 sc__law_period.nd) (dgs_cons (dg_name 6 sc__law_period.nd) dgs_nil)))) (gsC_len (gsC_len (gsC_len (gsC_len gsN_len))))) (dss_cons (ds_if (dt_gt (de_len T.z_len (de_var 3).toB).toB de_int.toB) (dss_one (ds_set 2 sc__law_period.nd (de_callN (ok__law_lcm T) hr (da_cons (de_var 2) (da_cons (de_mul (de_var 5).toB (de_len T.z_len (de_var 3).toB).toB) da_nil))))) dss_nil) (dss_one (ds_if (dt_gt (de_len T.z_len (de_var 6).toB).toB de_int.toB) (dss_one (ds_set 2 sc__law_period.nd (de_callN (ok__law_lcm T) hr (da_cons (de_var 2) (da_cons (de_var 0) da_nil))))) dss_nil)))) (dss_one (ds_ret (de_var 2)))))⟩
/-! _law_settled -/
theorem sc__law_settled : FnScope ["_law_rota_here", "_law_settled_here", "_law_layer_here", "_law_standin"] ["_law_rota_here"] (defScope s__law_settled) := ⟨rfl, rfl, rfl, by decide +kernel, rfl, by decide +kernel, by decide +kernel⟩
def L1__law_settled : Reg → Out := (setS 1 (fnV (consA (fun ρ => fzAt ρ 1) (consA (bin2 (fun ρ => fzAt ρ 2) (fun _ => some (.int 1)) dItem) (fun _ => some []))) dMax))
def L2__law_settled : Reg → Out := (setS 1 (fnV (consA (fun ρ => fzAt ρ 1) (consA (bin2 (fun ρ => fzAt ρ 3) (fun _ => some (.int 1)) dItem) (fun _ => some []))) dMax))
def b__law_settled : Reg → Out := (sq (setS 1 (fun _ => some (.int 0))) (sq (forS (itV (bin2 (fun ρ => fzAt ρ 0) (fun _ => some (.int 1)) dItem)) (gN 2) L1__law_settled) (sq (forS (itV (bin2 (fun ρ => fzAt ρ 0) (fun _ => some (.int 2)) dItem)) (gN 3) L2__law_settled) (retS (fun ρ => fzAt ρ 1)))))
def m__law_settled : List D → Option D := fun ds => fin (b__law_settled (startR 4 ds))
theorem ok__law_settled (T : Txt K mg) : NameOk P w K mg base 1 "_law_settled" 1 m__law_settled :=
  name_data T.f__law_settled sc__law_settled (fun _ _ _ h => h) fun f cdv A outer s H E hr => ⟨_, (dss_cons (ds_set 1 sc__law_settled.nd de_int) (dss_cons (ds_for PassesOwn.never rfl (di_any (de_item hr (de_var 0).toB de_int.toB)) (dg_name 2 sc__law_settled.nd) (dss_one (ds_set 1 sc__law_settled.nd (de_max rfl T.z_max (da_cons (de_var 1) (da_cons (de_item hr (de_var 2).toB de_int.toB) da_nil)))))) (dss_cons (ds_for PassesOwn.never rfl (di_any (de_item hr (de_var 0).toB de_int.toB)) (dg_name 3 sc__law_settled.nd) (dss_one (ds_set 1 sc__law_settled.nd (de_max rfl T.z_max (da_cons (de_var 1) (da_cons (de_item hr (de_var 3).toB de_int.toB) da_nil)))))) (dss_one (ds_ret (de_var 1))))))⟩
/-! _law_muted -/
theorem sc__law_muted : FnScope ["_law_made", "_law_mutes", "_law_time", "_law_name", "_law_spans", "_law_first", "_law_last"] ["_law_made", "_law_mutes", "_law_time"] (defScope s__law_muted) := ⟨rfl, rfl, rfl, by decide +kernel, rfl, by decide +kernel, by decide +kernel⟩
def L1__law_muted : Reg → Out := (iteS (chn (fun ρ => fzAt ρ 5) (bin2 (un1 (fun ρ => fzAt ρ 2) dInt) (un1 (fun ρ => fzAt ρ 0) (dFld "Setup" "week")) dMod) (fun ρ => fzAt ρ 6) dLe dLt) (retS (fun _ => some (.bl true))) skip)
def L2__law_muted : Reg → Out := (iteS (cmp2 (fun ρ => fzAt ρ 3) (fun ρ => fzAt ρ 1) dMem) (forS (itV (fun ρ => fzAt ρ 4)) (gT (gsC (gN 5) (gsC (gN 6) gsN))) L1__law_muted) skip)
def b__law_muted : Reg → Out := (sq (forS (itV (un1 (fun ρ => fzAt ρ 0) (dFld "Setup" "windows"))) (gT (gsC (gN 3) (gsC (gN 4) gsN))) L2__law_muted) (retS (fun _ => some (.bl false))))
def m__law_muted : List D → Option D := fun ds => fin (b__law_muted (startR 7 ds))
theorem ok__law_muted (T : Txt K mg) : NameOk P w K mg base 1 "_law_muted" 3 m__law_muted :=
  name_data T.f__law_muted sc__law_muted (fun _ _ _ h => h) fun f cdv A outer s H E hr => ⟨_, (dss_cons (ds_for PassesOwn.never rfl (di_any (de_fld T.q_Setup (by decide +kernel) (de_var 0).toB)) (dg_tup 2 rfl (dgs_cons (dg_name 3 sc__law_muted.nd) (dgs_cons (dg_name 4 sc__law_muted.nd) dgs_nil)) (gsC_len (gsC_len gsN_len))) (dss_one (ds_if (dt_mem hr (de_var 3).toB (de_var 1).toB) (dss_one (ds_for PassesOwn.never rfl (di_any (de_var 4)) (dg_tup 2 rfl (dgs_cons (dg_name 5 sc__law_muted.nd) (dgs_cons (dg_name 6 sc__law_muted.nd) dgs_nil)) (gsC_len (gsC_len gsN_len))) (dss_one (ds_if (dt_chain op_le op_lt rd_le rd_lt (de_var 5).toB (de_mod (de_toInt T.z_int (de_var 2).toB).toB (de_fld T.q_Setup (by decide +kernel) (de_var 0).toB).toB).toB (de_var 6).toB) (dss_one (ds_ret de_bl)) dss_nil)))) dss_nil))) (dss_one (ds_ret de_bl)))⟩
/-! _law_on -/
theorem sc__law_on : FnScope ["_law_days", "_law_rota_here", "_law_time", "_law_person", "_law_members", "_law_start", "_law_shift", "_law_spans", "_law_inside", "_law_first", "_law_last", "_law_who"] ["_law_days", "_law_rota_here", "_law_time"] (defScope s__law_on) := ⟨rfl, rfl, rfl, by decide +kernel, rfl, by decide +kernel, by decide +kernel⟩
def L1__law_on : Reg → Out := (iteS (chn (fun ρ => fzAt ρ 9) (bin2 (un1 (fun ρ => fzAt ρ 2) dInt) (fun ρ => fzAt ρ 0) dMod) (fun ρ => fzAt ρ 10) dLe dLt) (setS 8 (fun _ => some (.bl true))) skip)
def L2__law_on : Reg → Out := (sq (setS 8 (bV (cmp2 (un1 (fun ρ => fzAt ρ 7) dLen) (fun _ => some (.int 0)) dEq))) (sq (forS (itV (fun ρ => fzAt ρ 7)) (gT (gsC (gN 9) (gsC (gN 10) gsN))) L1__law_on) (iteS (andT (cmp2 (fun ρ => fzAt ρ 2) (fun ρ => fzAt ρ 5) dGe) (truT (fun ρ => fzAt ρ 8))) (setS 3 (bin2 (fun ρ => fzAt ρ 4) (bin2 (un1 (bin2 (bin2 (fun ρ => fzAt ρ 2) (fun ρ => fzAt ρ 5) dSub) (fun ρ => fzAt ρ 6) dDiv) dInt) (un1 (fun ρ => fzAt ρ 4) dLen) dMod) dItem)) skip)))
def L3__law_on : Reg → Out := (iteS (chn (fun ρ => fzAt ρ 9) (fun ρ => fzAt ρ 2) (fun ρ => fzAt ρ 10) dLe dLt) (setS 3 (fun ρ => fzAt ρ 11)) skip)
def b__law_on : Reg → Out := (sq (setS 3 (fun _ => some .non)) (sq (forS (itV (bin2 (fun ρ => fzAt ρ 1) (fun _ => some (.int 1)) dItem)) (gT (gsC (gN 4) (gsC (gN 5) (gsC (gN 6) (gsC (gN 7) gsN))))) L2__law_on) (sq (forS (itV (bin2 (fun ρ => fzAt ρ 1) (fun _ => some (.int 2)) dItem)) (gT (gsC (gN 9) (gsC (gN 10) (gsC (gN 11) gsN)))) L3__law_on) (retS (fun ρ => fzAt ρ 3)))))
def m__law_on : List D → Option D := fun ds => fin (b__law_on (startR 12 ds))
theorem ok__law_on (T : Txt K mg) : NameOk P w K mg base 1 "_law_on" 3 m__law_on :=
  name_data T.f__law_on sc__law_on (fun _ _ _ h => h) fun f cdv A outer s H E hr => ⟨_, (dss_cons (ds_set 3 sc__law_on.nd de_non) (dss_cons (ds_for PassesOwn.never rfl (di_any (de_item hr (de_var 1).toB de_int.toB)) (dg_tup 4 rfl (dgs_cons (dg_name 4 sc__law_on.nd) (dgs_cons (dg_name 5 sc__law_on.nd) (dgs_cons (dg_name 6 sc__law_on.nd) (dgs_cons (dg_name 7 sc__law_on.nd) dgs_nil)))) (gsC_len (gsC_len (gsC_len (gsC_len gsN_len))))) (dss_cons (ds_set 8 sc__law_on.nd (de_eq (de_len T.z_len (de_var 7).toB).toB de_int.toB)) (dss_cons (ds_for PassesOwn.never rfl (di_any (de_var 7)) (dg_tup 2 rfl (dgs_cons (dg_name 9 sc__law_on.nd) (dgs_cons (dg_name 10 sc__law_on.nd) dgs_nil)) (gsC_len (gsC_len gsN_len))) (dss_one (ds_if (dt_chain op_le op_lt rd_le rd_lt (de_var 9).toB (de_mod (de_toInt T.z_int (de_var 2).toB).toB (de_var 0).toB).toB (de_var 10).toB) (dss_one (ds_set 8 sc__law_on.nd de_bl)) dss_nil))) (dss_one (ds_if (dw_and (dt_ge (de_var 2).toB (de_var 5).toB) (dw_and1 (dt_tru (de_var 8).toB))).toT (dss_one (ds_set 3 sc__law_on.nd (de_item hr (de_var 4).toB (de_mod (de_toInt T.z_int (de_div (de_sub (de_var 2).toB (de_var 5).toB).toB (de_var 6).toB).toB).toB (de_len T.z_len (de_var 4).toB).toB).toB))) dss_nil))))) (dss_cons (ds_for PassesOwn.never rfl (di_any (de_item hr (de_var 1).toB de_int.toB)) (dg_tup 3 rfl (dgs_cons (dg_name 9 sc__law_on.nd) (dgs_cons (dg_name 10 sc__law_on.nd) (dgs_cons (dg_name 11 sc__law_on.nd) dgs_nil))) (gsC_len (gsC_len (gsC_len gsN_len)))) (dss_one (ds_if (dt_chain op_le op_lt rd_le rd_lt (de_var 9).toB (de_var 2).toB (de_var 10).toB) (dss_one (ds_set 3 sc__law_on.nd (de_var 11))) dss_nil))) (dss_one (ds_ret (de_var 3))))))⟩
/-! _law_is_sure -/
theorem sc__law_is_sure : FnScope ["_law_made", "_law_person"] ["_law_made", "_law_person"] (defScope s__law_is_sure) := ⟨rfl, rfl, rfl, by decide +kernel, rfl, by decide +kernel, by decide +kernel⟩
def b__law_is_sure : Reg → Out := (retS (bV (cmp2 (bin2 (callV m__law_find (consA (un1 (fun ρ => fzAt ρ 0) (dFld "Setup" "people")) (consA (fun ρ => fzAt ρ 1) (fun _ => some [])))) (fun _ => some (.int 1)) dItem) (un1 (fun ρ => fzAt ρ 0) (dFld "Setup" "down")) dGt)))
def m__law_is_sure : List D → Option D := fun ds => fin (b__law_is_sure (startR 2 ds))
theorem ok__law_is_sure (T : Txt K mg) : NameOk P w K mg base 2 "_law_is_sure" 2 m__law_is_sure :=
  name_data T.f__law_is_sure sc__law_is_sure (fun _ _ _ h => h) fun f cdv A outer s H E hr => ⟨_, (dss_one (ds_ret (de_gt (de_item hr (de_callN (ok__law_find T) hr (da_cons (de_fld T.q_Setup (by decide +kernel) (de_var 0).toB) (da_cons (de_var 1) da_nil))).toB de_int.toB).toB (de_fld T.q_Setup (by decide +kernel) (de_var 0).toB).toB)))⟩
/-! _law_delay -/
theorem sc__law_delay : FnScope ["_law_made", "_law_settings", "_law_time", "_law_delays", "_law_name", "_law_after", "_law_person"] ["_law_made", "_law_settings", "_law_time"] (defScope s__law_delay) := ⟨rfl, rfl, rfl, by decide +kernel, rfl, by decide +kernel, by decide +kernel⟩
def L1__law_delay : Reg → Out := (sq (setS 6 (callV m__law_on (consA (un1 (fun ρ => fzAt ρ 0) (dFld "Setup" "week")) (consA (callV m__law_find (consA (un1 (fun ρ => fzAt ρ 0) (dFld "Setup" "schedules")) (consA (fun ρ => fzAt ρ 4) (fun _ => some [])))) (consA (bin2 (fun ρ => fzAt ρ 2) (fun ρ => fzAt ρ 5) dPlus) (fun _ => some [])))))) (iteS (andT (cmp2 (fun ρ => fzAt ρ 6) (fun _ => some .non) dNotN) (truT (callV m__law_is_sure (consA (fun ρ => fzAt ρ 0) (consA (fun ρ => fzAt ρ 6) (fun _ => some [])))))) (appS 3 (fun ρ => fzAt ρ 5)) skip))
def b__law_delay : Reg → Out := (sq (setN 3 (lstV (fun _ => some []))) (sq (forS (itV (bin2 (callV m__law_find (consA (un1 (fun ρ => fzAt ρ 0) (dFld "Setup" "policies")) (consA (bin2 (fun ρ => fzAt ρ 1) (fun _ => some (.int 5)) dItem) (fun _ => some [])))) (fun _ => some (.int 1)) dItem)) (gT (gsC (gN 4) (gsC (gN 5) gsN))) L1__law_delay) (retS (ifV (truT (fun ρ => anyAt ρ 3)) (bin2 (un1 (fun ρ => anyAt ρ 3) dSortI) (fun _ => some (.int 0)) dItem) (fun _ => some .non)))))
def m__law_delay : List D → Option D := fun ds => fin (b__law_delay (startR 7 ds))
theorem ok__law_delay (T : Txt K mg) : NameOk P w K mg base 3 "_law_delay" 3 m__law_delay :=
  name_data T.f__law_delay sc__law_delay (fun _ _ _ h => h) fun f cdv A outer s H E hr => ⟨_, (dss_cons (ds_setN 3 sc__law_delay.nd (dn_lst da_nil)) (dss_cons (ds_for PassesOwn.never rfl (di_any (de_item hr (de_callN (ok__law_find T) hr (da_cons (de_fld T.q_Setup (by decide +kernel) (de_var 0).toB) (da_cons (de_item hr (de_var 1).toB de_int.toB) da_nil))).toB de_int.toB)) (dg_tup 2 rfl (dgs_cons (dg_name 4 sc__law_delay.nd) (dgs_cons (dg_name 5 sc__law_delay.nd) dgs_nil)) (gsC_len (gsC_len gsN_len))) (dss_cons (ds_set 6 sc__law_delay.nd (de_callN (ok__law_on T) hr (da_cons (de_fld T.q_Setup (by decide +kernel) (de_var 0).toB) (da_cons (de_callN (ok__law_find T) hr (da_cons (de_fld T.q_Setup (by decide +kernel) (de_var 0).toB) (da_cons (de_var 4) da_nil))) (da_cons (de_plus (de_var 2).toB (de_var 5).toB) da_nil))))) (dss_one (ds_if (dw_and (dt_notN (de_var 6).toB de_non.toB) (dw_and1 (dt_tru (de_callN (ok__law_is_sure T) hr (da_cons (de_var 0) (da_cons (de_var 6) da_nil))).toB))).toT (dss_one (ds_append 3 (de_var 5))) dss_nil)))) (dss_one (ds_ret (de_if (dt_tru (db_var 3)) (de_item hr (dn_sortI T.z_sorted (db_var 3)).toE.toB de_int.toB) de_non)))))⟩
/-! _law_sums -/
theorem sc__law_sums : FnScope ["_law_made", "_law_settings", "_law_begin", "_law_many", "_law_end", "_law_muted_here", "_law_best", "_law_time", "_law_delay_here"] ["_law_made", "_law_settings", "_law_begin", "_law_many", "_law_end"] (defScope s__law_sums) := ⟨rfl, rfl, rfl, by decide +kernel, rfl, by decide +kernel, by decide +kernel⟩
def L1__law_sums : Reg → Out := (iteS (truT (callV m__law_muted (consA (fun ρ => fzAt ρ 0) (consA (bin2 (fun ρ => fzAt ρ 1) (fun _ => some (.int 4)) dItem) (consA (fun ρ => fzAt ρ 7) (fun _ => some [])))))) (setS 5 (bin2 (fun ρ => fzAt ρ 5) (fun _ => some (.int 1)) dPlus)) (sq (setS 8 (callV m__law_delay (consA (fun ρ => fzAt ρ 0) (consA (fun ρ => fzAt ρ 1) (consA (fun ρ => fzAt ρ 7) (fun _ => some [])))))) (sq (iteS (cmp2 (fun ρ => fzAt ρ 8) (fun _ => some .non) dIsN) (retS (fun _ => some .non)) skip) (sq (setS 6 (fnV (consA (fun ρ => fzAt ρ 6) (consA (bin2 (fun ρ => fzAt ρ 5) (fun ρ => fzAt ρ 8) dPlus) (fun _ => some []))) dMax)) (setS 5 (fun _ => some (.int 0)))))))
def b__law_sums : Reg → Out := (sq (setS 5 (fun _ => some (.int 0))) (sq (setS 6 (fun _ => some (.int 0))) (sq (forS (rng2 (consA (fun ρ => fzAt ρ 2) (consA (bin2 (fun ρ => fzAt ρ 4) (bin2 (fun _ => some (.int 2)) (fun ρ => fzAt ρ 3) dMul) dPlus) (fun _ => some [])))) (gN 7) L1__law_sums) (retS (ifV (cmp2 (fun ρ => fzAt ρ 5) (fun ρ => fzAt ρ 3) dGe) (fun _ => some .non) (fun ρ => fzAt ρ 6))))))
def m__law_sums : List D → Option D := fun ds => fin (b__law_sums (startR 9 ds))
theorem ok__law_sums (T : Txt K mg) : NameOk P w K mg base 4 "_law_sums" 5 m__law_sums :=
  name_data T.f__law_sums sc__law_sums (fun _ _ _ h => h) fun f cdv A outer s H E hr => ⟨_, (dss_cons (ds_set 5 sc__law_sums.nd de_int) (dss_cons (ds_set 6 sc__law_sums.nd de_int) (dss_cons (ds_for PassesOwn.never rfl (di_range2 T.z_range (da_cons (de_var 2) (da_cons (de_plus (de_var 4).toB (de_mul de_int.toB (de_var 3).toB).toB) da_nil))) (dg_name 7 sc__law_sums.nd) (dss_one (ds_if (dt_tru (de_callN (ok__law_muted T) hr (da_cons (de_var 0) (da_cons (de_item hr (de_var 1).toB de_int.toB) (da_cons (de_var 7) da_nil)))).toB) (dss_one (ds_set 5 sc__law_sums.nd (de_plus (de_var 5).toB de_int.toB))) (dss_cons (ds_set 8 sc__law_sums.nd (de_callN (ok__law_delay T) hr (da_cons (de_var 0) (da_cons (de_var 1) (da_cons (de_var 7) da_nil))))) (dss_cons (ds_if (dt_isN (de_var 8).toB de_non.toB) (dss_one (ds_ret de_non)) dss_nil) (dss_cons (ds_set 6 sc__law_sums.nd (de_max rfl T.z_max (da_cons (de_var 6) (da_cons (de_plus (de_var 5).toB (de_var 8).toB) da_nil)))) (dss_one (ds_set 5 sc__law_sums.nd de_int)))))))) (dss_one (ds_ret (de_if (dt_ge (de_var 5).toB (de_var 3).toB) de_non (de_var 6)))))))⟩
/-! _law_slack -/
theorem sc__law_slack : FnScope ["_law_made"] ["_law_made"] (defScope s__law_slack) := ⟨rfl, rfl, rfl, by decide +kernel, rfl, by decide +kernel, by decide +kernel⟩
def b__law_slack : Reg → Out := (retS (bin2 (bin2 (un1 (fun ρ => fzAt ρ 0) (dFld "Setup" "replicas")) (fun _ => some (.int 1)) dSub) (un1 (fun ρ => fzAt ρ 0) (dFld "Setup" "pause")) dMul))
def m__law_slack : List D → Option D := fun ds => fin (b__law_slack (startR 1 ds))
theorem ok__law_slack (T : Txt K mg) : NameOk P w K mg base 1 "_law_slack" 1 m__law_slack :=
  name_data T.f__law_slack sc__law_slack (fun _ _ _ h => h) fun f cdv A outer s H E hr => ⟨_, (dss_one (ds_ret (de_mul (de_sub (de_fld T.q_Setup (by decide +kernel) (de_var 0).toB).toB de_int.toB).toB (de_fld T.q_Setup (by decide +kernel) (de_var 0).toB).toB)))⟩
/-! _law_same -/
theorem sc__law_same : FnScope ["_law_told", "_law_due_here", "_law_k"] ["_law_told", "_law_due_here"] (defScope s__law_same) := ⟨rfl, rfl, rfl, by decide +kernel, rfl, by decide +kernel, by decide +kernel⟩
def L1__law_same (m_rec : List D → Option D) : Reg → Out := (iteS (notT (truT (callV m_rec (consA (bin2 (fun ρ => fzAt ρ 0) (fun ρ => fzAt ρ 2) dItem) (consA (bin2 (fun ρ => fzAt ρ 1) (fun ρ => fzAt ρ 2) dItem) (fun _ => some [])))))) (retS (fun _ => some (.bl false))) skip)
def b__law_same (m_rec : List D → Option D) : Reg → Out := (sq (iteS (cmp2 (fun ρ => fzAt ρ 1) (fun _ => some .non) dIsN) (retS (bV (cmp2 (fun ρ => fzAt ρ 0) (fun _ => some .non) dIsN))) skip) (sq (iteS (cmp2 (fun ρ => fzAt ρ 1) (fun _ => some (.bl true)) dIsX) (retS (bV (cmp2 (fun ρ => fzAt ρ 0) (fun _ => some (.bl true)) dIsX))) skip) (sq (iteS (cmp2 (fun ρ => fzAt ρ 1) (fun _ => some (.bl false)) dIsX) (retS (bV (cmp2 (fun ρ => fzAt ρ 0) (fun _ => some (.bl false)) dIsX))) skip) (sq (iteS (truT (un1 (fun ρ => fzAt ρ 1) (dIsI "int"))) (retS (andV (un1 (fun ρ => fzAt ρ 0) (dIsI "int")) (andV (bV (notT (truT (un1 (fun ρ => fzAt ρ 0) (dIsI "bool"))))) (bV (cmp2 (fun ρ => fzAt ρ 0) (fun ρ => fzAt ρ 1) dEq))))) skip) (sq (iteS (truT (un1 (fun ρ => fzAt ρ 1) (dIsI "str"))) (retS (andV (un1 (fun ρ => fzAt ρ 0) (dIsI "str")) (bV (cmp2 (fun ρ => fzAt ρ 0) (fun ρ => fzAt ρ 1) dEq)))) skip) (sq (iteS (andT (truT (un1 (fun ρ => fzAt ρ 1) (dIsI "tuple"))) (notT (truT (un1 (fun ρ => fzAt ρ 0) (dIsI "tuple"))))) (retS (fun _ => some (.bl false))) skip) (sq (iteS (andT (truT (un1 (fun ρ => fzAt ρ 1) (dIsI "list"))) (notT (truT (un1 (fun ρ => fzAt ρ 0) (dIsI "list"))))) (retS (fun _ => some (.bl false))) skip) (sq (iteS (cmp2 (un1 (fun ρ => fzAt ρ 0) dLen) (un1 (fun ρ => fzAt ρ 1) dLen) dNe) (retS (fun _ => some (.bl false))) skip) (sq (forS (rng1 (consA (un1 (fun ρ => fzAt ρ 1) dLen) (fun _ => some []))) (gN 2) (L1__law_same m_rec)) (retS (fun _ => some (.bl true))))))))))))
def m__law_same : Nat → List D → Option D
  | 0 => fun _ => none
  | j + 1 => fun ds => fin (b__law_same (m__law_same j) (startR 3 ds))
theorem ok__law_same (T : Txt K mg) : ∀ j : Nat, NameOk P w K mg base (j + 1) "_law_same" 2 (m__law_same j)
  | 0 => name_nil T.f__law_same
  | j + 1 => name_data T.f__law_same sc__law_same (fun _ _ _ h => h) fun f cdv A outer s H E hr => ⟨_, have hrec := ok__law_same T j; (dss_cons (ds_if (dt_isN (de_var 1).toB de_non.toB) (dss_one (ds_ret (de_isN (de_var 0).toB de_non.toB))) dss_nil) (dss_cons (ds_if (dt_isX (de_var 1).toB de_bl.toB) (dss_one (ds_ret (de_isX (de_var 0).toB de_bl.toB))) dss_nil) (dss_cons (ds_if (dt_isX (de_var 1).toB de_bl.toB) (dss_one (ds_ret (de_isX (de_var 0).toB de_bl.toB))) dss_nil) (dss_cons (ds_if (dt_tru (de_isi (T := "int") T.z_isinstance T.z_int (by decide +kernel) (de_var 1).toB).toB) (dss_one (ds_ret (de_and (de_isi (T := "int") T.z_isinstance T.z_int (by decide +kernel) (de_var 0).toB) (de_and (de_not (de_isi (T := "bool") T.z_isinstance T.z_bool (by decide +kernel) (de_var 0).toB).toB) (de_one (de_eq (de_var 0).toB (de_var 1).toB)))))) dss_nil) (dss_cons (ds_if (dt_tru (de_isi (T := "str") T.z_isinstance T.z_str (by decide +kernel) (de_var 1).toB).toB) (dss_one (ds_ret (de_and (de_isi (T := "str") T.z_isinstance T.z_str (by decide +kernel) (de_var 0).toB) (de_one (de_eq (de_var 0).toB (de_var 1).toB))))) dss_nil) (dss_cons (ds_if (dw_and (dt_tru (de_isi (T := "tuple") T.z_isinstance T.z_tuple (by decide +kernel) (de_var 1).toB).toB) (dw_and1 (dt_not (dt_tru (de_isi (T := "tuple") T.z_isinstance T.z_tuple (by decide +kernel) (de_var 0).toB).toB)))).toT (dss_one (ds_ret de_bl)) dss_nil) (dss_cons (ds_if (dw_and (dt_tru (de_isi (T := "list") T.z_isinstance T.z_list (by decide +kernel) (de_var 1).toB).toB) (dw_and1 (dt_not (dt_tru (de_isi (T := "list") T.z_isinstance T.z_list (by decide +kernel) (de_var 0).toB).toB)))).toT (dss_one (ds_ret de_bl)) dss_nil) (dss_cons (ds_if (dt_ne (de_len T.z_len (de_var 0).toB).toB (de_len T.z_len (de_var 1).toB).toB) (dss_one (ds_ret de_bl)) dss_nil) (dss_cons (ds_for PassesOwn.never rfl (di_range1 T.z_range (da_cons (de_len T.z_len (de_var 1).toB) da_nil)) (dg_name 2 sc__law_same.nd) (dss_one (ds_if (dt_not (dt_tru (de_callN hrec hr (da_cons (de_item hr (de_var 0).toB (de_var 2).toB) (da_cons (de_item hr (de_var 1).toB (de_var 2).toB) da_nil)) (hj := Nat.le_refl _)).toB)) (dss_one (ds_ret de_bl)) dss_nil))) (dss_one (ds_ret de_bl)))))))))))⟩
/-! value_of -/
theorem sc_value_of : FnScope ["labels", "name", "pair"] ["labels", "name"] (defScope s_value_of) := ⟨rfl, rfl, rfl, by decide +kernel, rfl, by decide +kernel, by decide +kernel⟩
def L1_value_of : Reg → Out := (iteS (cmp2 (bin2 (fun ρ => fzAt ρ 2) (fun _ => some (.int 0)) dItem) (fun ρ => fzAt ρ 1) dEq) (retS (bin2 (fun ρ => fzAt ρ 2) (fun _ => some (.int 1)) dItem)) skip)
def b_value_of : Reg → Out := (sq (forS (itV (fun ρ => fzAt ρ 0)) (gN 2) L1_value_of) (retS (fun _ => some (.str (lit "")))))
def m_value_of : List D → Option D := fun ds => fin (b_value_of (startR 3 ds))
theorem ok_value_of (T : Txt K mg) : NameOk P w K mg base 1 "value_of" 2 m_value_of :=
  name_data T.f_value_of sc_value_of (fun _ _ _ h => h) fun f cdv A outer s H E hr => ⟨_, (dss_cons (ds_for PassesOwn.never rfl (di_any (de_var 0)) (dg_name 2 sc_value_of.nd) (dss_one (ds_if (dt_eq (de_item hr (de_var 2).toB de_int.toB).toB (de_var 1).toB) (dss_one (ds_ret (de_item hr (de_var 2).toB de_int.toB))) dss_nil))) (dss_one (ds_ret de_str)))⟩
/-! matches -/
theorem sc_matches : FnScope ["matcher", "labels", "name", "values", "inside", "found"] ["matcher", "labels"] (defScope s_matches) := ⟨rfl, rfl, rfl, by decide +kernel, rfl, by decide +kernel, by decide +kernel⟩
def b_matches : Reg → Out := (sq (asgS (fun ρ => fzAt ρ 0) (gT (gsC (gN 2) (gsC (gN 3) (gsC (gN 4) gsN))))) (sq (setS 5 (bV (cmp2 (callV m_value_of (consA (fun ρ => fzAt ρ 1) (consA (fun ρ => fzAt ρ 2) (fun _ => some [])))) (fun ρ => fzAt ρ 3) dMem))) (retS (bV (cmp2 (fun ρ => fzAt ρ 5) (fun ρ => fzAt ρ 4) dEq)))))
def m_matches : List D → Option D := fun ds => fin (b_matches (startR 6 ds))
theorem ok_matches (T : Txt K mg) : NameOk P w K mg base 2 "matches" 2 m_matches :=
  name_data T.f_matches sc_matches (fun _ _ _ h => h) fun f cdv A outer s H E hr => ⟨_, (dss_cons (ds_asg (de_var 0) (dg_tup 3 rfl (dgs_cons (dg_name 2 sc_matches.nd) (dgs_cons (dg_name 3 sc_matches.nd) (dgs_cons (dg_name 4 sc_matches.nd) dgs_nil))) (gsC_len (gsC_len (gsC_len gsN_len))))) (dss_cons (ds_set 5 sc_matches.nd (de_mem hr (de_callN (ok_value_of T) hr (da_cons (de_var 1) (da_cons (de_var 2) da_nil))).toB (de_var 3).toB)) (dss_one (ds_ret (de_eq (de_var 5).toB (de_var 4).toB)))))⟩
/-! matches_all -/
theorem sc_matches_all : FnScope ["matchers", "labels", "matcher"] ["matchers", "labels"] (defScope s_matches_all) := ⟨rfl, rfl, rfl, by decide +kernel, rfl, by decide +kernel, by decide +kernel⟩
def L1_matches_all : Reg → Out := (iteS (notT (truT (callV m_matches (consA (fun ρ => fzAt ρ 2) (consA (fun ρ => fzAt ρ 1) (fun _ => some [])))))) (retS (fun _ => some (.bl false))) skip)
def b_matches_all : Reg → Out := (sq (forS (itV (fun ρ => fzAt ρ 0)) (gN 2) L1_matches_all) (retS (fun _ => some (.bl true))))
def m_matches_all : List D → Option D := fun ds => fin (b_matches_all (startR 3 ds))
theorem ok_matches_all (T : Txt K mg) : NameOk P w K mg base 3 "matches_all" 2 m_matches_all :=
  name_data T.f_matches_all sc_matches_all (fun _ _ _ h => h) fun f cdv A outer s H E hr => ⟨_, (dss_cons (ds_for PassesOwn.never rfl (di_any (de_var 0)) (dg_name 2 sc_matches_all.nd) (dss_one (ds_if (dt_not (dt_tru (de_callN (ok_matches T) hr (da_cons (de_var 2) (da_cons (de_var 1) da_nil))).toB)) (dss_one (ds_ret de_bl)) dss_nil))) (dss_one (ds_ret de_bl)))⟩
/-! _later -/
theorem sc__later : FnScope ["routes", "at", "labels", "number"] ["routes", "at", "labels"] (defScope s__later) := ⟨rfl, rfl, rfl, by decide +kernel, rfl, by decide +kernel, by decide +kernel⟩
def L1__later : Reg → Out := (iteS (andT (cmp2 (bin2 (bin2 (fun ρ => fzAt ρ 0) (fun ρ => fzAt ρ 3) dItem) (fun _ => some (.int 0)) dItem) (fun ρ => fzAt ρ 1) dEq) (truT (callV m_matches_all (consA (bin2 (bin2 (fun ρ => fzAt ρ 0) (fun ρ => fzAt ρ 3) dItem) (fun _ => some (.int 1)) dItem) (consA (fun ρ => fzAt ρ 2) (fun _ => some [])))))) (retS (fun ρ => fzAt ρ 3)) skip)
def b__later : Reg → Out := (sq (forS (rng2 (consA (bin2 (fun ρ => fzAt ρ 1) (fun _ => some (.int 1)) dPlus) (consA (un1 (fun ρ => fzAt ρ 0) dLen) (fun _ => some [])))) (gN 3) L1__later) (retS (fun _ => some .non)))
def m__later : List D → Option D := fun ds => fin (b__later (startR 4 ds))
theorem ok__later (T : Txt K mg) : NameOk P w K mg base 4 "_later" 3 m__later :=
  name_data T.f__later sc__later (fun _ _ _ h => h) fun f cdv A outer s H E hr => ⟨_, (dss_cons (ds_for PassesOwn.never rfl (di_range2 T.z_range (da_cons (de_plus (de_var 1).toB de_int.toB) (da_cons (de_len T.z_len (de_var 0).toB) da_nil))) (dg_name 3 sc__later.nd) (dss_one (ds_if (dw_and (dt_eq (de_item hr (de_item hr (de_var 0).toB (de_var 3).toB).toB de_int.toB).toB (de_var 1).toB) (dw_and1 (dt_tru (de_callN (ok_matches_all T) hr (da_cons (de_item hr (de_item hr (de_var 0).toB (de_var 3).toB).toB de_int.toB) (da_cons (de_var 2) da_nil))).toB))).toT (dss_one (ds_ret (de_var 3))) dss_nil))) (dss_one (ds_ret de_non)))⟩
/-! way -/
theorem sc_way : FnScope ["routes", "labels", "rows", "later"] ["routes", "labels"] (defScope s_way) := ⟨rfl, rfl, rfl, by decide +kernel, rfl, by decide +kernel, by decide +kernel⟩
def L1_way : Reg → Out := (sq (appS 2 (fun ρ => fzAt ρ 3)) (setS 3 (callV m__later (consA (fun ρ => fzAt ρ 0) (consA (fun ρ => fzAt ρ 3) (consA (fun ρ => fzAt ρ 1) (fun _ => some [])))))))
def b_way : Reg → Out := (sq (setN 2 (lstV (consA (fun _ => some (.int 0)) (fun _ => some [])))) (sq (setS 3 (callV m__later (consA (fun ρ => fzAt ρ 0) (consA (fun _ => some (.int 0)) (consA (fun ρ => fzAt ρ 1) (fun _ => some [])))))) (sq (whileD (cmp2 (fun ρ => fzAt ρ 3) (fun _ => some .non) dNotN) L1_way manyN) (frzS 2 (retS (fun ρ => fzAt ρ 2))))))
def m_way : List D → Option D := fun ds => fin (b_way (startR 4 ds))
theorem ok_way (T : Txt K mg) : NameOk P w K mg base 5 "way" 2 m_way :=
  name_data T.f_way sc_way (fun _ _ _ h => h) fun f cdv A outer s H E hr => ⟨_, (dss_cons (ds_setN 2 sc_way.nd (dn_lst (da_cons de_int da_nil))) (dss_cons (ds_set 3 sc_way.nd (de_callN (ok__later T) hr (da_cons (de_var 0) (da_cons de_int (da_cons (de_var 1) da_nil))))) (dss_cons (ds_while PassesOwn.never (dt_notN (de_var 3).toB de_non.toB) (dss_cons (ds_append 2 (de_var 3)) (dss_one (ds_set 3 sc_way.nd (de_callN (ok__later T) hr (da_cons (de_var 0) (da_cons (de_var 3) (da_cons (de_var 1) da_nil)))))))) (dss_one (ds_frz 2 (ds_ret (de_var 2)))))))⟩
/-! end_of -/
theorem sc_end_of : FnScope ["routes", "labels"] ["routes", "labels"] (defScope s_end_of) := ⟨rfl, rfl, rfl, by decide +kernel, rfl, by decide +kernel, by decide +kernel⟩
def b_end_of : Reg → Out := (retS (bin2 (callV m_way (consA (fun ρ => fzAt ρ 0) (consA (fun ρ => fzAt ρ 1) (fun _ => some [])))) (un1 (fun _ => some (.int 1)) dNeg) dItem))
def m_end_of : List D → Option D := fun ds => fin (b_end_of (startR 2 ds))
theorem ok_end_of (T : Txt K mg) : NameOk P w K mg base 6 "end_of" 2 m_end_of :=
  name_data T.f_end_of sc_end_of (fun _ _ _ h => h) fun f cdv A outer s H E hr => ⟨_, (dss_one (ds_ret (de_item hr (de_callN (ok_way T) hr (da_cons (de_var 0) (da_cons (de_var 1) da_nil))).toB (de_neg de_int.toB).toB)))⟩
/-! entry_of -/
theorem sc_entry_of : FnScope ["entries", "name", "word", "entry"] ["entries", "name", "word"] (defScope s_entry_of) := ⟨rfl, rfl, rfl, by decide +kernel, rfl, by decide +kernel, by decide +kernel⟩
def L1_entry_of : Reg → Out := (iteS (cmp2 (bin2 (fun ρ => fzAt ρ 3) (fun _ => some (.int 0)) dItem) (fun ρ => fzAt ρ 1) dEq) (retS (fun ρ => fzAt ρ 3)) skip)
def b_entry_of : Reg → Out := (sq (forS (itV (fun ρ => fzAt ρ 0)) (gN 3) L1_entry_of) (fun _ => .bad))
def m_entry_of : List D → Option D := fun ds => fin (b_entry_of (startR 4 ds))
theorem ok_entry_of (T : Txt K mg) : NameOk P w K mg base 1 "entry_of" 3 m_entry_of :=
  name_data T.f_entry_of sc_entry_of (fun _ _ _ h => h) fun f cdv A outer s H E hr => ⟨_, (dss_cons (ds_for PassesOwn.never rfl (di_any (de_var 0)) (dg_name 3 sc_entry_of.nd) (dss_one (ds_if (dt_eq (de_item hr (de_var 3).toB de_int.toB).toB (de_var 1).toB) (dss_one (ds_ret (de_var 3))) dss_nil))) (dss_one ds_never))⟩
/-! policy_of -/
theorem sc_policy_of : FnScope ["made", "name"] ["made", "name"] (defScope s_policy_of) := ⟨rfl, rfl, rfl, by decide +kernel, rfl, by decide +kernel, by decide +kernel⟩
def b_policy_of : Reg → Out := (retS (callV m_entry_of (consA (un1 (fun ρ => fzAt ρ 0) (dFld "Setup" "policies")) (consA (fun ρ => fzAt ρ 1) (consA (fun _ => some (.str (lit "policy"))) (fun _ => some []))))))
def m_policy_of : List D → Option D := fun ds => fin (b_policy_of (startR 2 ds))
theorem ok_policy_of (T : Txt K mg) : NameOk P w K mg base 2 "policy_of" 2 m_policy_of :=
  name_data T.f_policy_of sc_policy_of (fun _ _ _ h => h) fun f cdv A outer s H E hr => ⟨_, (dss_one (ds_ret (de_callN (ok_entry_of T) hr (da_cons (de_fld T.q_Setup (by decide +kernel) (de_var 0).toB) (da_cons (de_var 1) (da_cons de_str da_nil))))))⟩
/-! schedule_of -/
theorem sc_schedule_of : FnScope ["made", "name"] ["made", "name"] (defScope s_schedule_of) := ⟨rfl, rfl, rfl, by decide +kernel, rfl, by decide +kernel, by decide +kernel⟩
def b_schedule_of : Reg → Out := (retS (callV m_entry_of (consA (un1 (fun ρ => fzAt ρ 0) (dFld "Setup" "schedules")) (consA (fun ρ => fzAt ρ 1) (consA (fun _ => some (.str (lit "schedule"))) (fun _ => some []))))))
def m_schedule_of : List D → Option D := fun ds => fin (b_schedule_of (startR 2 ds))
theorem ok_schedule_of (T : Txt K mg) : NameOk P w K mg base 2 "schedule_of" 2 m_schedule_of :=
  name_data T.f_schedule_of sc_schedule_of (fun _ _ _ h => h) fun f cdv A outer s H E hr => ⟨_, (dss_one (ds_ret (de_callN (ok_entry_of T) hr (da_cons (de_fld T.q_Setup (by decide +kernel) (de_var 0).toB) (da_cons (de_var 1) (da_cons de_str da_nil))))))⟩
/-! period -/
theorem sc_period : FnScope ["week", "schedule", "many", "members", "start", "shift", "spans"] ["week", "schedule"] (defScope s_period) := ⟨rfl, rfl, rfl, by decide +kernel, rfl, by decide +kernel, by decide +kernel⟩
def L1_period : Reg → Out := (sq (iteS (cmp2 (un1 (fun ρ => fzAt ρ 3) dLen) (fun _ => some (.int 1)) dGt) (setS 2 (fnV (consA (fun ρ => fzAt ρ 2) (consA (bin2 (fun ρ => fzAt ρ 5) (un1 (fun ρ => fzAt ρ 3) dLen) dMul) (fun _ => some []))) dLcm)) skip) (iteS (truT (fun ρ => fzAt ρ 6)) (setS 2 (fnV (consA (fun ρ => fzAt ρ 2) (consA (fun ρ => fzAt ρ 0) (fun _ => some []))) dLcm)) skip))
def b_period : Reg → Out := (sq (setS 2 (fun _ => some (.int 1))) (sq (forS (itV (bin2 (fun ρ => fzAt ρ 1) (fun _ => some (.int 1)) dItem)) (gT (gsC (gN 3) (gsC (gN 4) (gsC (gN 5) (gsC (gN 6) gsN))))) L1_period) (retS (fun ρ => fzAt ρ 2))))
def m_period : List D → Option D := fun ds => fin (b_period (startR 7 ds))
theorem ok_period (T : Txt K mg) : NameOk P w K mg base 1 "period" 2 m_period :=
  name_data T.f_period sc_period (fun _ _ _ h => h) fun f cdv A outer s H E hr => ⟨_, (dss_cons (ds_set 2 sc_period.nd de_int) (dss_cons (ds_for PassesOwn.never rfl (di_any (de_item hr (de_var 1).toB de_int.toB)) (dg_tup 4 rfl (dgs_cons (dg_name 3 sc_period.nd) (dgs_cons (dg_name 4 sc_period.nd) (dgs_cons (dg_name 5 sc_period.nd) (dgs_cons (dg_name 6 sc_period.nd) dgs_nil)))) (gsC_len (gsC_len (gsC_len (gsC_len gsN_len))))) (dss_cons (ds_if (dt_gt (de_len T.z_len (de_var 3).toB).toB de_int.toB) (dss_one (ds_set 2 sc_period.nd (de_lcm T.b_lcm (da_cons (de_var 2) (da_cons (de_mul (de_var 5).toB (de_len T.z_len (de_var 3).toB).toB) da_nil))))) dss_nil) (dss_one (ds_if (dt_tru (de_var 6).toB) (dss_one (ds_set 2 sc_period.nd (de_lcm T.b_lcm (da_cons (de_var 2) (da_cons (de_var 0) da_nil))))) dss_nil)))) (dss_one (ds_ret (de_var 2)))))⟩
/-! settled -/
theorem sc_settled : FnScope ["schedule", "ends", "layer", "standin"] ["schedule"] (defScope s_settled) := ⟨rfl, rfl, rfl, by decide +kernel, rfl, by decide +kernel, by decide +kernel⟩
def L1_settled : Reg → Out := (appS 1 (bin2 (fun ρ => fzAt ρ 2) (fun _ => some (.int 1)) dItem))
def L2_settled : Reg → Out := (appS 1 (bin2 (fun ρ => fzAt ρ 3) (fun _ => some (.int 1)) dItem))
def b_settled : Reg → Out := (sq (setN 1 (lstV (consA (fun _ => some (.int 0)) (fun _ => some [])))) (sq (forS (itV (bin2 (fun ρ => fzAt ρ 0) (fun _ => some (.int 1)) dItem)) (gN 2) L1_settled) (sq (forS (itV (bin2 (fun ρ => fzAt ρ 0) (fun _ => some (.int 2)) dItem)) (gN 3) L2_settled) (retS (un1 (fun ρ => anyAt ρ 1) dMaxL)))))
def m_settled : List D → Option D := fun ds => fin (b_settled (startR 4 ds))
theorem ok_settled (T : Txt K mg) : NameOk P w K mg base 1 "settled" 1 m_settled :=
  name_data T.f_settled sc_settled (fun _ _ _ h => h) fun f cdv A outer s H E hr => ⟨_, (dss_cons (ds_setN 1 sc_settled.nd (dn_lst (da_cons de_int da_nil))) (dss_cons (ds_for PassesOwn.never rfl (di_any (de_item hr (de_var 0).toB de_int.toB)) (dg_name 2 sc_settled.nd) (dss_one (ds_append 1 (de_item hr (de_var 2).toB de_int.toB)))) (dss_cons (ds_for PassesOwn.never rfl (di_any (de_item hr (de_var 0).toB de_int.toB)) (dg_name 3 sc_settled.nd) (dss_one (ds_append 1 (de_item hr (de_var 3).toB de_int.toB)))) (dss_one (ds_ret (de_maxL rfl T.z_max (db_var 1)))))))⟩
/-! _horizon -/
theorem sc__horizon : FnScope ["setup", "settings", "time", "many", "begin", "name", "after", "schedule"] ["setup", "settings", "time"] (defScope s__horizon) := ⟨rfl, rfl, rfl, by decide +kernel, rfl, by decide +kernel, by decide +kernel⟩
def L1__horizon : Reg → Out := (sq (setS 7 (callV m_schedule_of (consA (fun ρ => fzAt ρ 0) (consA (fun ρ => fzAt ρ 5) (fun _ => some []))))) (sq (setS 3 (fnV (consA (fun ρ => fzAt ρ 3) (consA (callV m_period (consA (un1 (fun ρ => fzAt ρ 0) (dFld "Setup" "week")) (consA (fun ρ => fzAt ρ 7) (fun _ => some [])))) (fun _ => some []))) dLcm)) (setS 4 (fnV (consA (fun ρ => fzAt ρ 4) (consA (callV m_settled (consA (fun ρ => fzAt ρ 7) (fun _ => some []))) (fun _ => some []))) dMax))))
def b__horizon : Reg → Out := (sq (setS 3 (fun _ => some (.int 1))) (sq (setS 4 (fun ρ => fzAt ρ 2)) (sq (forS (itV (bin2 (callV m_policy_of (consA (fun ρ => fzAt ρ 0) (consA (bin2 (fun ρ => fzAt ρ 1) (fun _ => some (.int 5)) dItem) (fun _ => some [])))) (fun _ => some (.int 1)) dItem)) (gT (gsC (gN 5) (gsC (gN 6) gsN))) L1__horizon) (sq (iteS (truT (bin2 (fun ρ => fzAt ρ 1) (fun _ => some (.int 4)) dItem)) (setS 3 (fnV (consA (fun ρ => fzAt ρ 3) (consA (un1 (fun ρ => fzAt ρ 0) (dFld "Setup" "week")) (fun _ => some []))) dLcm)) skip) (sq (iteS (cmp2 (fun ρ => fzAt ρ 3) (fun _ => some (.int 2000)) dGt) (fun _ => .bad) skip) (retS (tupV (consA (fun ρ => fzAt ρ 3) (consA (fun ρ => fzAt ρ 4) (fun _ => some []))))))))))
def m__horizon : List D → Option D := fun ds => fin (b__horizon (startR 8 ds))
def px__horizon : Reg → Option Bool := (thenX (sq (setS 3 (fun _ => some (.int 1))) (sq (setS 4 (fun ρ => fzAt ρ 2)) (sq (forS (itV (bin2 (callV m_policy_of (consA (fun ρ => fzAt ρ 0) (consA (bin2 (fun ρ => fzAt ρ 1) (fun _ => some (.int 5)) dItem) (fun _ => some [])))) (fun _ => some (.int 1)) dItem)) (gT (gsC (gN 5) (gsC (gN 6) gsN))) L1__horizon) (iteS (truT (bin2 (fun ρ => fzAt ρ 1) (fun _ => some (.int 4)) dItem)) (setS 3 (fnV (consA (fun ρ => fzAt ρ 3) (consA (un1 (fun ρ => fzAt ρ 0) (dFld "Setup" "week")) (fun _ => some []))) dLcm)) skip)))) (cmp2 (fun ρ => fzAt ρ 3) (fun _ => some (.int 2000)) dGt))
def x__horizon : List D → Option Bool := fun ds => px__horizon (startR 8 ds)
theorem okX__horizon (T : Txt K mg) {C : Addr} (OX : OwnX K mg "PeriodTooLong" C) : NameX P w K mg base 3 "_horizon" 3 x__horizon C :=
  nameX_data (p := px__horizon) T.f__horizon sc__horizon (fun _ _ h => h) fun f cdv A outer s H E hr => ⟨_, (xs_eq (by unfold px__horizon; simp only [thenX_sq]; try rfl) (xs_pre (ds_set 3 sc__horizon.nd de_int) (xs_pre (ds_set 4 sc__horizon.nd (de_var 2)) (xs_pre (ds_for (passes_of rfl) rfl (di_any (de_item hr (de_callN (ok_policy_of T) hr (da_cons (de_var 0) (da_cons (de_item hr (de_var 1).toB de_int.toB) da_nil))).toB de_int.toB)) (dg_tup 2 rfl (dgs_cons (dg_name 5 sc__horizon.nd) (dgs_cons (dg_name 6 sc__horizon.nd) dgs_nil)) (gsC_len (gsC_len gsN_len))) (dss_cons (ds_set 7 sc__horizon.nd (de_callN (ok_schedule_of T) hr (da_cons (de_var 0) (da_cons (de_var 5) da_nil)))) (dss_cons (ds_set 3 sc__horizon.nd (de_lcm T.b_lcm (da_cons (de_var 3) (da_cons (de_callN (ok_period T) hr (da_cons (de_fld T.q_Setup (by decide +kernel) (de_var 0).toB) (da_cons (de_var 7) da_nil))) da_nil)))) (dss_one (ds_set 4 sc__horizon.nd (de_max rfl T.z_max (da_cons (de_var 4) (da_cons (de_callN (ok_settled T) hr (da_cons (de_var 7) da_nil)) da_nil)))))))) (xs_pre (ds_if (dt_tru (de_item hr (de_var 1).toB de_int.toB).toB) (dss_one (ds_set 3 sc__horizon.nd (de_lcm T.b_lcm (da_cons (de_var 3) (da_cons (de_fld T.q_Setup (by decide +kernel) (de_var 0).toB) da_nil))))) dss_nil) (xs_if rfl (takes_of rfl rfl rfl rfl) OX rfl (dt_gt (de_var 3).toB (de_cint T.c_MOST_PERIOD).toB)))))))⟩
theorem ok__horizon (T : Txt K mg) : NameOk P w K mg base 3 "_horizon" 3 m__horizon :=
  name_data T.f__horizon sc__horizon (fun _ _ _ h => h) fun f cdv A outer s H E hr => ⟨_, (dss_cons (ds_set 3 sc__horizon.nd de_int) (dss_cons (ds_set 4 sc__horizon.nd (de_var 2)) (dss_cons (ds_for PassesOwn.never rfl (di_any (de_item hr (de_callN (ok_policy_of T) hr (da_cons (de_var 0) (da_cons (de_item hr (de_var 1).toB de_int.toB) da_nil))).toB de_int.toB)) (dg_tup 2 rfl (dgs_cons (dg_name 5 sc__horizon.nd) (dgs_cons (dg_name 6 sc__horizon.nd) dgs_nil)) (gsC_len (gsC_len gsN_len))) (dss_cons (ds_set 7 sc__horizon.nd (de_callN (ok_schedule_of T) hr (da_cons (de_var 0) (da_cons (de_var 5) da_nil)))) (dss_cons (ds_set 3 sc__horizon.nd (de_lcm T.b_lcm (da_cons (de_var 3) (da_cons (de_callN (ok_period T) hr (da_cons (de_fld T.q_Setup (by decide +kernel) (de_var 0).toB) (da_cons (de_var 7) da_nil))) da_nil)))) (dss_one (ds_set 4 sc__horizon.nd (de_max rfl T.z_max (da_cons (de_var 4) (da_cons (de_callN (ok_settled T) hr (da_cons (de_var 7) da_nil)) da_nil)))))))) (dss_cons (ds_if (dt_tru (de_item hr (de_var 1).toB de_int.toB).toB) (dss_one (ds_set 3 sc__horizon.nd (de_lcm T.b_lcm (da_cons (de_var 3) (da_cons (de_fld T.q_Setup (by decide +kernel) (de_var 0).toB) da_nil))))) dss_nil) (dss_cons (ds_if (dt_gt (de_var 3).toB (de_cint T.c_MOST_PERIOD).toB) (dss_one ds_never) dss_nil) (dss_one (ds_ret (de_tup (da_cons (de_var 3) (da_cons (de_var 4) da_nil))))))))))⟩
/-! in_spans -/
theorem sc_in_spans : FnScope ["week", "spans", "time", "first", "last"] ["week", "spans", "time"] (defScope s_in_spans) := ⟨rfl, rfl, rfl, by decide +kernel, rfl, by decide +kernel, by decide +kernel⟩
def C1_in_spans : Reg → Option D := (bV (chn (fun ρ => fzAt ρ 3) (bin2 (fun ρ => fzAt ρ 2) (fun ρ => fzAt ρ 0) dMod) (fun ρ => fzAt ρ 4) dLe dLt))
def b_in_spans : Reg → Out := (retS (un1 (lcV (itV (fun ρ => fzAt ρ 1)) (gT (gsC (gN 3) (gsC (gN 4) gsN))) (fun _ => some true) C1_in_spans [3, 4]) dAny))
def m_in_spans : List D → Option D := fun ds => fin (b_in_spans (startR 5 ds))
theorem ok_in_spans (T : Txt K mg) : NameOk P w K mg base 1 "in_spans" 3 m_in_spans :=
  name_data T.f_in_spans sc_in_spans (fun _ _ _ h => h) fun f cdv A outer s H E hr => ⟨_, (dss_one (ds_ret (de_any rfl T.z_any (dn_lc [("first", 3), ("last", 4)] rfl sc_in_spans.nd (di_any (de_var 1)) (fun _ _ _ _ _ => ⟨_, (dg_tup 2 rfl (dgs_cons (dg_name 3 sc_in_spans.nd) (dgs_cons (dg_name 4 sc_in_spans.nd) dgs_nil)) (gsC_len (gsC_len gsN_len)))⟩) (fun _ _ _ _ _ => ⟨_, dts_nil⟩) (fun _ _ _ _ _ => ⟨_, (de_chain op_le op_lt rd_le rd_lt (de_var 3).toB (de_mod (de_var 2).toB (de_var 0).toB).toB (de_var 4).toB)⟩) (ok := blkOk_by (N := ["week", "spans", "time", "first", "last"]) (sc := defScope s_in_spans) (by decide +kernel))).toE.toB)))⟩
/-! window_of -/
theorem sc_window_of : FnScope ["made", "name"] ["made", "name"] (defScope s_window_of) := ⟨rfl, rfl, rfl, by decide +kernel, rfl, by decide +kernel, by decide +kernel⟩
def b_window_of : Reg → Out := (retS (callV m_entry_of (consA (un1 (fun ρ => fzAt ρ 0) (dFld "Setup" "windows")) (consA (fun ρ => fzAt ρ 1) (consA (fun _ => some (.str (lit "window"))) (fun _ => some []))))))
def m_window_of : List D → Option D := fun ds => fin (b_window_of (startR 2 ds))
theorem ok_window_of (T : Txt K mg) : NameOk P w K mg base 2 "window_of" 2 m_window_of :=
  name_data T.f_window_of sc_window_of (fun _ _ _ h => h) fun f cdv A outer s H E hr => ⟨_, (dss_one (ds_ret (de_callN (ok_entry_of T) hr (da_cons (de_fld T.q_Setup (by decide +kernel) (de_var 0).toB) (da_cons (de_var 1) (da_cons de_str da_nil))))))⟩
/-! is_muted -/
theorem sc_is_muted : FnScope ["setup", "mutes", "time", "name"] ["setup", "mutes", "time"] (defScope s_is_muted) := ⟨rfl, rfl, rfl, by decide +kernel, rfl, by decide +kernel, by decide +kernel⟩
def C1_is_muted : Reg → Option D := (callV m_in_spans (consA (un1 (fun ρ => fzAt ρ 0) (dFld "Setup" "week")) (consA (bin2 (callV m_window_of (consA (fun ρ => fzAt ρ 0) (consA (fun ρ => fzAt ρ 3) (fun _ => some [])))) (fun _ => some (.int 1)) dItem) (consA (fun ρ => fzAt ρ 2) (fun _ => some [])))))
def b_is_muted : Reg → Out := (retS (un1 (lcV (itV (fun ρ => fzAt ρ 1)) (gN 3) (fun _ => some true) C1_is_muted [3]) dAny))
def m_is_muted : List D → Option D := fun ds => fin (b_is_muted (startR 4 ds))
theorem ok_is_muted (T : Txt K mg) : NameOk P w K mg base 3 "is_muted" 3 m_is_muted :=
  name_data T.f_is_muted sc_is_muted (fun _ _ _ h => h) fun f cdv A outer s H E hr => ⟨_, (dss_one (ds_ret (de_any rfl T.z_any (dn_lc [("name", 3)] rfl sc_is_muted.nd (di_any (de_var 1)) (fun _ _ _ _ _ => ⟨_, (dg_name 3 sc_is_muted.nd)⟩) (fun _ _ _ _ _ => ⟨_, dts_nil⟩) (fun _ _ _ _ _ => ⟨_, (de_callN (ok_in_spans T) hr (da_cons (de_fld T.q_Setup (by decide +kernel) (de_var 0).toB) (da_cons (de_item hr (de_callN (ok_window_of T) hr (da_cons (de_var 0) (da_cons (de_var 3) da_nil))).toB de_int.toB) (da_cons (de_var 2) da_nil))))⟩) (ok := blkOk_by (N := ["setup", "mutes", "time", "name"]) (sc := defScope s_is_muted) (by decide +kernel))).toE.toB)))⟩
/-! on_layer -/
theorem sc_on_layer : FnScope ["week", "layer", "time", "members", "start", "shift", "spans"] ["week", "layer", "time"] (defScope s_on_layer) := ⟨rfl, rfl, rfl, by decide +kernel, rfl, by decide +kernel, by decide +kernel⟩
def b_on_layer : Reg → Out := (sq (asgS (fun ρ => fzAt ρ 1) (gT (gsC (gN 3) (gsC (gN 4) (gsC (gN 5) (gsC (gN 6) gsN)))))) (sq (iteS (cmp2 (fun ρ => fzAt ρ 2) (fun ρ => fzAt ρ 4) dLt) (retS (fun _ => some .non)) skip) (sq (iteS (andT (truT (fun ρ => fzAt ρ 6)) (notT (truT (callV m_in_spans (consA (fun ρ => fzAt ρ 0) (consA (fun ρ => fzAt ρ 6) (consA (fun ρ => fzAt ρ 2) (fun _ => some [])))))))) (retS (fun _ => some .non)) skip) (retS (bin2 (fun ρ => fzAt ρ 3) (bin2 (bin2 (bin2 (fun ρ => fzAt ρ 2) (fun ρ => fzAt ρ 4) dSub) (fun ρ => fzAt ρ 5) dDiv) (un1 (fun ρ => fzAt ρ 3) dLen) dMod) dItem)))))
def m_on_layer : List D → Option D := fun ds => fin (b_on_layer (startR 7 ds))
theorem ok_on_layer (T : Txt K mg) : NameOk P w K mg base 2 "on_layer" 3 m_on_layer :=
  name_data T.f_on_layer sc_on_layer (fun _ _ _ h => h) fun f cdv A outer s H E hr => ⟨_, (dss_cons (ds_asg (de_var 1) (dg_tup 4 rfl (dgs_cons (dg_name 3 sc_on_layer.nd) (dgs_cons (dg_name 4 sc_on_layer.nd) (dgs_cons (dg_name 5 sc_on_layer.nd) (dgs_cons (dg_name 6 sc_on_layer.nd) dgs_nil)))) (gsC_len (gsC_len (gsC_len (gsC_len gsN_len)))))) (dss_cons (ds_if (dt_lt (de_var 2).toB (de_var 4).toB) (dss_one (ds_ret de_non)) dss_nil) (dss_cons (ds_if (dw_and (dt_tru (de_var 6).toB) (dw_and1 (dt_not (dt_tru (de_callN (ok_in_spans T) hr (da_cons (de_var 0) (da_cons (de_var 6) (da_cons (de_var 2) da_nil)))).toB)))).toT (dss_one (ds_ret de_non)) dss_nil) (dss_one (ds_ret (de_item hr (de_var 3).toB (de_mod (de_div (de_sub (de_var 2).toB (de_var 4).toB).toB (de_var 5).toB).toB (de_len T.z_len (de_var 3).toB).toB).toB))))))⟩
/-! on_call -/
theorem sc_on_call : FnScope ["week", "schedule", "time", "first", "last", "person", "layer"] ["week", "schedule", "time"] (defScope s_on_call) := ⟨rfl, rfl, rfl, by decide +kernel, rfl, by decide +kernel, by decide +kernel⟩
def L1_on_call : Reg → Out := (iteS (chn (fun ρ => fzAt ρ 3) (fun ρ => fzAt ρ 2) (fun ρ => fzAt ρ 4) dLe dLt) (retS (fun ρ => fzAt ρ 5)) skip)
def L2_on_call : Reg → Out := (sq (setS 5 (callV m_on_layer (consA (fun ρ => fzAt ρ 0) (consA (fun ρ => fzAt ρ 6) (consA (fun ρ => fzAt ρ 2) (fun _ => some [])))))) (iteS (cmp2 (fun ρ => fzAt ρ 5) (fun _ => some .non) dNotN) (retS (fun ρ => fzAt ρ 5)) skip))
def b_on_call : Reg → Out := (sq (forS (itV (un1 (un1 (bin2 (fun ρ => fzAt ρ 1) (fun _ => some (.int 2)) dItem) dList) dRev)) (gT (gsC (gN 3) (gsC (gN 4) (gsC (gN 5) gsN)))) L1_on_call) (sq (forS (itV (un1 (un1 (bin2 (fun ρ => fzAt ρ 1) (fun _ => some (.int 1)) dItem) dList) dRev)) (gN 6) L2_on_call) (retS (fun _ => some .non))))
def m_on_call : List D → Option D := fun ds => fin (b_on_call (startR 7 ds))
theorem ok_on_call (T : Txt K mg) : NameOk P w K mg base 3 "on_call" 3 m_on_call :=
  name_data T.f_on_call sc_on_call (fun _ _ _ h => h) fun f cdv A outer s H E hr => ⟨_, (dss_cons (ds_for PassesOwn.never rfl (di_any (dn_rev (dn_list T.z_list (de_item hr (de_var 1).toB de_int.toB).toB).toE.toB).toE) (dg_tup 3 rfl (dgs_cons (dg_name 3 sc_on_call.nd) (dgs_cons (dg_name 4 sc_on_call.nd) (dgs_cons (dg_name 5 sc_on_call.nd) dgs_nil))) (gsC_len (gsC_len (gsC_len gsN_len)))) (dss_one (ds_if (dt_chain op_le op_lt rd_le rd_lt (de_var 3).toB (de_var 2).toB (de_var 4).toB) (dss_one (ds_ret (de_var 5))) dss_nil))) (dss_cons (ds_for PassesOwn.never rfl (di_any (dn_rev (dn_list T.z_list (de_item hr (de_var 1).toB de_int.toB).toB).toE.toB).toE) (dg_name 6 sc_on_call.nd) (dss_cons (ds_set 5 sc_on_call.nd (de_callN (ok_on_layer T) hr (da_cons (de_var 0) (da_cons (de_var 6) (da_cons (de_var 2) da_nil))))) (dss_one (ds_if (dt_notN (de_var 5).toB de_non.toB) (dss_one (ds_ret (de_var 5))) dss_nil)))) (dss_one (ds_ret de_non))))⟩
/-! channels_of -/
theorem sc_channels_of : FnScope ["made", "person"] ["made", "person"] (defScope s_channels_of) := ⟨rfl, rfl, rfl, by decide +kernel, rfl, by decide +kernel, by decide +kernel⟩
def b_channels_of : Reg → Out := (retS (bin2 (callV m_entry_of (consA (un1 (fun ρ => fzAt ρ 0) (dFld "Setup" "people")) (consA (fun ρ => fzAt ρ 1) (consA (fun _ => some (.str (lit "person"))) (fun _ => some []))))) (fun _ => some (.int 1)) dItem))
def m_channels_of : List D → Option D := fun ds => fin (b_channels_of (startR 2 ds))
theorem ok_channels_of (T : Txt K mg) : NameOk P w K mg base 2 "channels_of" 2 m_channels_of :=
  name_data T.f_channels_of sc_channels_of (fun _ _ _ h => h) fun f cdv A outer s H E hr => ⟨_, (dss_one (ds_ret (de_item hr (de_callN (ok_entry_of T) hr (da_cons (de_fld T.q_Setup (by decide +kernel) (de_var 0).toB) (da_cons (de_var 1) (da_cons de_str da_nil)))).toB de_int.toB)))⟩
/-! is_sure -/
theorem sc_is_sure : FnScope ["setup", "person"] ["setup", "person"] (defScope s_is_sure) := ⟨rfl, rfl, rfl, by decide +kernel, rfl, by decide +kernel, by decide +kernel⟩
def b_is_sure : Reg → Out := (retS (bV (cmp2 (callV m_channels_of (consA (fun ρ => fzAt ρ 0) (consA (fun ρ => fzAt ρ 1) (fun _ => some [])))) (un1 (fun ρ => fzAt ρ 0) (dFld "Setup" "down")) dGt)))
def m_is_sure : List D → Option D := fun ds => fin (b_is_sure (startR 2 ds))
theorem ok_is_sure (T : Txt K mg) : NameOk P w K mg base 3 "is_sure" 2 m_is_sure :=
  name_data T.f_is_sure sc_is_sure (fun _ _ _ h => h) fun f cdv A outer s H E hr => ⟨_, (dss_one (ds_ret (de_gt (de_callN (ok_channels_of T) hr (da_cons (de_var 0) (da_cons (de_var 1) da_nil))).toB (de_fld T.q_Setup (by decide +kernel) (de_var 0).toB).toB)))⟩
/-! plan -/
theorem sc_plan : FnScope ["setup", "policy", "begun", "rows", "schedule", "after", "person"] ["setup", "policy", "begun"] (defScope s_plan) := ⟨rfl, rfl, rfl, by decide +kernel, rfl, by decide +kernel, by decide +kernel⟩
def L1_plan : Reg → Out := (sq (setS 6 (callV m_on_call (consA (un1 (fun ρ => fzAt ρ 0) (dFld "Setup" "week")) (consA (callV m_schedule_of (consA (fun ρ => fzAt ρ 0) (consA (fun ρ => fzAt ρ 4) (fun _ => some [])))) (consA (bin2 (fun ρ => fzAt ρ 2) (fun ρ => fzAt ρ 5) dPlus) (fun _ => some [])))))) (iteS (cmp2 (fun ρ => fzAt ρ 6) (fun _ => some .non) dNotN) (appS 3 (tupV (consA (bin2 (fun ρ => fzAt ρ 2) (fun ρ => fzAt ρ 5) dPlus) (consA (fun ρ => fzAt ρ 6) (consA (callV m_is_sure (consA (fun ρ => fzAt ρ 0) (consA (fun ρ => fzAt ρ 6) (fun _ => some [])))) (fun _ => some [])))))) skip))
def b_plan : Reg → Out := (sq (setN 3 (lstV (fun _ => some []))) (sq (forS (itV (bin2 (callV m_policy_of (consA (fun ρ => fzAt ρ 0) (consA (fun ρ => fzAt ρ 1) (fun _ => some [])))) (fun _ => some (.int 1)) dItem)) (gT (gsC (gN 4) (gsC (gN 5) gsN))) L1_plan) (frzS 3 (retS (fun ρ => fzAt ρ 3)))))
def m_plan : List D → Option D := fun ds => fin (b_plan (startR 7 ds))
theorem ok_plan (T : Txt K mg) : NameOk P w K mg base 4 "plan" 3 m_plan :=
  name_data T.f_plan sc_plan (fun _ _ _ h => h) fun f cdv A outer s H E hr => ⟨_, (dss_cons (ds_setN 3 sc_plan.nd (dn_lst da_nil)) (dss_cons (ds_for PassesOwn.never rfl (di_any (de_item hr (de_callN (ok_policy_of T) hr (da_cons (de_var 0) (da_cons (de_var 1) da_nil))).toB de_int.toB)) (dg_tup 2 rfl (dgs_cons (dg_name 4 sc_plan.nd) (dgs_cons (dg_name 5 sc_plan.nd) dgs_nil)) (gsC_len (gsC_len gsN_len))) (dss_cons (ds_set 6 sc_plan.nd (de_callN (ok_on_call T) hr (da_cons (de_fld T.q_Setup (by decide +kernel) (de_var 0).toB) (da_cons (de_callN (ok_schedule_of T) hr (da_cons (de_var 0) (da_cons (de_var 4) da_nil))) (da_cons (de_plus (de_var 2).toB (de_var 5).toB) da_nil))))) (dss_one (ds_if (dt_notN (de_var 6).toB de_non.toB) (dss_one (ds_append 3 (de_tup (da_cons (de_plus (de_var 2).toB (de_var 5).toB) (da_cons (de_var 6) (da_cons (de_callN (ok_is_sure T) hr (da_cons (de_var 0) (da_cons (de_var 6) da_nil))) da_nil)))))) dss_nil)))) (dss_one (ds_frz 3 (ds_ret (de_var 3))))))⟩
/-! delay -/
theorem sc_delay : FnScope ["setup", "policy", "begun", "delays", "time", "person", "sure"] ["setup", "policy", "begun"] (defScope s_delay) := ⟨rfl, rfl, rfl, by decide +kernel, rfl, by decide +kernel, by decide +kernel⟩
def C1_delay : Reg → Option D := (bin2 (fun ρ => fzAt ρ 4) (fun ρ => fzAt ρ 2) dSub)
def b_delay : Reg → Out := (sq (setS 3 (lcV (itV (callV m_plan (consA (fun ρ => fzAt ρ 0) (consA (fun ρ => fzAt ρ 1) (consA (fun ρ => fzAt ρ 2) (fun _ => some [])))))) (gT (gsC (gN 4) (gsC (gN 5) (gsC (gN 6) gsN)))) (truT (fun ρ => fzAt ρ 6)) C1_delay [4, 5, 6])) (sq (iteS (notT (truT (fun ρ => fzAt ρ 3))) (retS (fun _ => some .non)) skip) (retS (un1 (fun ρ => fzAt ρ 3) dMinL))))
def m_delay : List D → Option D := fun ds => fin (b_delay (startR 7 ds))
theorem ok_delay (T : Txt K mg) : NameOk P w K mg base 5 "delay" 3 m_delay :=
  name_data T.f_delay sc_delay (fun _ _ _ h => h) fun f cdv A outer s H E hr => ⟨_, (dss_cons (ds_setLc 3 [("time", 4), ("person", 5), ("sure", 6)] rfl sc_delay.nd (di_any (de_callN (ok_plan T) hr (da_cons (de_var 0) (da_cons (de_var 1) (da_cons (de_var 2) da_nil))))) (fun _ _ _ _ _ => ⟨_, (dg_tup 3 rfl (dgs_cons (dg_name 4 sc_delay.nd) (dgs_cons (dg_name 5 sc_delay.nd) (dgs_cons (dg_name 6 sc_delay.nd) dgs_nil))) (gsC_len (gsC_len (gsC_len gsN_len))))⟩) (fun _ _ _ _ _ => ⟨_, (dts_one (dt_tru (de_var 6).toB))⟩) (fun _ _ _ _ _ => ⟨_, (de_sub (de_var 4).toB (de_var 2).toB)⟩) (ok := blkOk_by (N := ["setup", "policy", "begun", "delays", "time", "person", "sure"]) (sc := defScope s_delay) (by decide +kernel))) (dss_cons (ds_if (dt_not (dt_tru (de_var 3).toB)) (dss_one (ds_ret de_non)) dss_nil) (dss_one (ds_ret (de_minL rfl T.z_min (de_var 3).toB)))))⟩
/-! slack -/
theorem sc_slack : FnScope ["setup"] ["setup"] (defScope s_slack) := ⟨rfl, rfl, rfl, by decide +kernel, rfl, by decide +kernel, by decide +kernel⟩
def b_slack : Reg → Out := (retS (bin2 (bin2 (un1 (fun ρ => fzAt ρ 0) (dFld "Setup" "replicas")) (fun _ => some (.int 1)) dSub) (un1 (fun ρ => fzAt ρ 0) (dFld "Setup" "pause")) dMul))
def m_slack : List D → Option D := fun ds => fin (b_slack (startR 1 ds))
theorem ok_slack (T : Txt K mg) : NameOk P w K mg base 1 "slack" 1 m_slack :=
  name_data T.f_slack sc_slack (fun _ _ _ h => h) fun f cdv A outer s H E hr => ⟨_, (dss_one (ds_ret (de_mul (de_sub (de_fld T.q_Setup (by decide +kernel) (de_var 0).toB).toB de_int.toB).toB (de_fld T.q_Setup (by decide +kernel) (de_var 0).toB).toB)))⟩
/-! sure_limit -/
theorem sc_sure_limit : FnScope ["setup", "labels", "time", "settings", "many", "begin", "muted", "most", "at", "wait"] ["setup", "labels", "time"] (defScope s_sure_limit) := ⟨rfl, rfl, rfl, by decide +kernel, rfl, by decide +kernel, by decide +kernel⟩
def L1_sure_limit : Reg → Out := (iteS (truT (callV m_is_muted (consA (fun ρ => fzAt ρ 0) (consA (bin2 (fun ρ => fzAt ρ 3) (fun _ => some (.int 4)) dItem) (consA (fun ρ => fzAt ρ 8) (fun _ => some [])))))) (setS 6 (bin2 (fun ρ => fzAt ρ 6) (fun _ => some (.int 1)) dPlus)) (sq (setS 9 (callV m_delay (consA (fun ρ => fzAt ρ 0) (consA (bin2 (fun ρ => fzAt ρ 3) (fun _ => some (.int 5)) dItem) (consA (fun ρ => fzAt ρ 8) (fun _ => some [])))))) (sq (iteS (cmp2 (fun ρ => fzAt ρ 9) (fun _ => some .non) dIsN) (retS (fun _ => some .non)) skip) (sq (setS 7 (fnV (consA (fun ρ => fzAt ρ 7) (consA (bin2 (fun ρ => fzAt ρ 6) (fun ρ => fzAt ρ 9) dPlus) (fun _ => some []))) dMax)) (setS 6 (fun _ => some (.int 0)))))))
def b_sure_limit : Reg → Out := (sq (setS 3 (bin2 (bin2 (un1 (fun ρ => fzAt ρ 0) (dFld "Setup" "routes")) (callV m_end_of (consA (un1 (fun ρ => fzAt ρ 0) (dFld "Setup" "routes")) (consA (fun ρ => fzAt ρ 1) (fun _ => some [])))) dItem) (fun _ => some (.int 2)) dItem)) (sq (asgS (callV m__horizon (consA (fun ρ => fzAt ρ 0) (consA (fun ρ => fzAt ρ 3) (consA (fun ρ => fzAt ρ 2) (fun _ => some []))))) (gT (gsC (gN 4) (gsC (gN 5) gsN)))) (sq (setS 6 (fun _ => some (.int 0))) (sq (setS 7 (fun _ => some (.int 0))) (sq (forS (rng2 (consA (fun ρ => fzAt ρ 2) (consA (bin2 (fun ρ => fzAt ρ 5) (bin2 (fun _ => some (.int 2)) (fun ρ => fzAt ρ 4) dMul) dPlus) (fun _ => some [])))) (gN 8) L1_sure_limit) (sq (iteS (cmp2 (fun ρ => fzAt ρ 6) (fun ρ => fzAt ρ 4) dGe) (retS (fun _ => some .non)) skip) (retS (bin2 (bin2 (fnV (consA (bin2 (fun ρ => fzAt ρ 3) (fun _ => some (.int 1)) dItem) (consA (bin2 (bin2 (fun ρ => fzAt ρ 3) (fun _ => some (.int 2)) dItem) (fun _ => some (.int 1)) dSub) (fun _ => some []))) dMax) (callV m_slack (consA (fun ρ => fzAt ρ 0) (fun _ => some []))) dPlus) (fun ρ => fzAt ρ 7) dPlus))))))))
def m_sure_limit : List D → Option D := fun ds => fin (b_sure_limit (startR 10 ds))
def px_sure_limit : Reg → Option Bool := (thenX (setS 3 (bin2 (bin2 (un1 (fun ρ => fzAt ρ 0) (dFld "Setup" "routes")) (callV m_end_of (consA (un1 (fun ρ => fzAt ρ 0) (dFld "Setup" "routes")) (consA (fun ρ => fzAt ρ 1) (fun _ => some [])))) dItem) (fun _ => some (.int 2)) dItem)) (callX x__horizon (consA (fun ρ => fzAt ρ 0) (consA (fun ρ => fzAt ρ 3) (consA (fun ρ => fzAt ρ 2) (fun _ => some []))))))
def x_sure_limit : List D → Option Bool := fun ds => px_sure_limit (startR 10 ds)
theorem okX_sure_limit (T : Txt K mg) {C : Addr} (OX : OwnX K mg "PeriodTooLong" C) : NameX P w K mg base 7 "sure_limit" 3 x_sure_limit C :=
  nameX_data (p := px_sure_limit) T.f_sure_limit sc_sure_limit (fun _ _ h => h) fun f cdv A outer s H E hr => ⟨_, (xs_eq (by unfold px_sure_limit; simp only [thenX_sq]; try rfl) (xs_pre (ds_set 3 sc_sure_limit.nd (de_item hr (de_item hr (de_fld T.q_Setup (by decide +kernel) (de_var 0).toB).toB (de_callN (ok_end_of T) hr (da_cons (de_fld T.q_Setup (by decide +kernel) (de_var 0).toB) (da_cons (de_var 1) da_nil))).toB).toB de_int.toB)) (xs_asg (okX__horizon T OX) hr (takes_of rfl rfl rfl rfl) (da_cons (de_var 0) (da_cons (de_var 3) (da_cons (de_var 2) da_nil))) (dg_tup 2 rfl (dgs_cons (dg_name 4 sc_sure_limit.nd) (dgs_cons (dg_name 5 sc_sure_limit.nd) dgs_nil)) (gsC_len (gsC_len gsN_len))))))⟩
theorem ok_sure_limit (T : Txt K mg) : NameOk P w K mg base 7 "sure_limit" 3 m_sure_limit :=
  name_data T.f_sure_limit sc_sure_limit (fun _ _ _ h => h) fun f cdv A outer s H E hr => ⟨_, (dss_cons (ds_set 3 sc_sure_limit.nd (de_item hr (de_item hr (de_fld T.q_Setup (by decide +kernel) (de_var 0).toB).toB (de_callN (ok_end_of T) hr (da_cons (de_fld T.q_Setup (by decide +kernel) (de_var 0).toB) (da_cons (de_var 1) da_nil))).toB).toB de_int.toB)) (dss_cons (ds_asg (de_callN (ok__horizon T) hr (da_cons (de_var 0) (da_cons (de_var 3) (da_cons (de_var 2) da_nil)))) (dg_tup 2 rfl (dgs_cons (dg_name 4 sc_sure_limit.nd) (dgs_cons (dg_name 5 sc_sure_limit.nd) dgs_nil)) (gsC_len (gsC_len gsN_len)))) (dss_cons (ds_set 6 sc_sure_limit.nd de_int) (dss_cons (ds_set 7 sc_sure_limit.nd de_int) (dss_cons (ds_for PassesOwn.never rfl (di_range2 T.z_range (da_cons (de_var 2) (da_cons (de_plus (de_var 5).toB (de_mul de_int.toB (de_var 4).toB).toB) da_nil))) (dg_name 8 sc_sure_limit.nd) (dss_one (ds_if (dt_tru (de_callN (ok_is_muted T) hr (da_cons (de_var 0) (da_cons (de_item hr (de_var 3).toB de_int.toB) (da_cons (de_var 8) da_nil)))).toB) (dss_one (ds_set 6 sc_sure_limit.nd (de_plus (de_var 6).toB de_int.toB))) (dss_cons (ds_set 9 sc_sure_limit.nd (de_callN (ok_delay T) hr (da_cons (de_var 0) (da_cons (de_item hr (de_var 3).toB de_int.toB) (da_cons (de_var 8) da_nil))))) (dss_cons (ds_if (dt_isN (de_var 9).toB de_non.toB) (dss_one (ds_ret de_non)) dss_nil) (dss_cons (ds_set 7 sc_sure_limit.nd (de_max rfl T.z_max (da_cons (de_var 7) (da_cons (de_plus (de_var 6).toB (de_var 9).toB) da_nil)))) (dss_one (ds_set 6 sc_sure_limit.nd de_int)))))))) (dss_cons (ds_if (dt_ge (de_var 6).toB (de_var 4).toB) (dss_one (ds_ret de_non)) dss_nil) (dss_one (ds_ret (de_plus (de_plus (de_max rfl T.z_max (da_cons (de_item hr (de_var 3).toB de_int.toB) (da_cons (de_sub (de_item hr (de_var 3).toB de_int.toB).toB de_int.toB) da_nil))).toB (de_callN (ok_slack T) hr (da_cons (de_var 0) da_nil)).toB).toB (de_var 7).toB)))))))))⟩
/-! law -/
theorem sc_law : FnScope ["_law_script_here", "_law_made", "_law_labels_here", "_law_settings", "_law_start", "_law_limit", "_law_many", "_law_end", "_law_name", "_law_after", "_law_rota_here", "_law_best", "_law_due_here", "e"] ["_law_script_here"] (defScope s_law) := ⟨rfl, rfl, rfl, by decide +kernel, rfl, by decide +kernel, by decide +kernel⟩
def L1_law : Reg → Out := (sq (setS 10 (callV m__law_find (consA (un1 (fun ρ => fzAt ρ 1) (dFld "Setup" "schedules")) (consA (fun ρ => fzAt ρ 8) (fun _ => some []))))) (sq (setS 6 (callV m__law_lcm (consA (fun ρ => fzAt ρ 6) (consA (callV m__law_period (consA (un1 (fun ρ => fzAt ρ 1) (dFld "Setup" "week")) (consA (fun ρ => fzAt ρ 10) (fun _ => some [])))) (fun _ => some []))))) (setS 7 (fnV (consA (fun ρ => fzAt ρ 7) (consA (callV m__law_settled (consA (fun ρ => fzAt ρ 10) (fun _ => some []))) (fun _ => some []))) dMax))))
def b_law : Reg → Out := (sq (asgS (callV m__law_case (consA (fun ρ => fzAt ρ 0) (fun _ => some []))) (gT (gsC (gN 1) (gsC (gN 2) (gsC (gN 3) (gsC (gN 4) (gsC (gN 5) gsN))))))) (sq (setS 6 (ifV (cmp2 (un1 (bin2 (fun ρ => fzAt ρ 3) (fun _ => some (.int 4)) dItem) dLen) (fun _ => some (.int 0)) dGt) (un1 (fun ρ => fzAt ρ 1) (dFld "Setup" "week")) (fun _ => some (.int 1)))) (sq (setS 7 (fun ρ => fzAt ρ 4)) (sq (forS (itV (bin2 (callV m__law_find (consA (un1 (fun ρ => fzAt ρ 1) (dFld "Setup" "policies")) (consA (bin2 (fun ρ => fzAt ρ 3) (fun _ => some (.int 5)) dItem) (fun _ => some [])))) (fun _ => some (.int 1)) dItem)) (gT (gsC (gN 8) (gsC (gN 9) gsN))) L1_law) (sq (iteS (cmp2 (fun ρ => fzAt ρ 6) (fun _ => some (.int 600)) dLe) (sq (setS 11 (callV m__law_sums (consA (fun ρ => fzAt ρ 1) (consA (fun ρ => fzAt ρ 3) (consA (fun ρ => fzAt ρ 4) (consA (fun ρ => fzAt ρ 6) (consA (fun ρ => fzAt ρ 7) (fun _ => some [])))))))) (sq (setS 12 (ifV (cmp2 (fun ρ => fzAt ρ 11) (fun _ => some .non) dIsN) (fun _ => some .non) (bin2 (bin2 (fnV (consA (bin2 (fun ρ => fzAt ρ 3) (fun _ => some (.int 1)) dItem) (consA (bin2 (bin2 (fun ρ => fzAt ρ 3) (fun _ => some (.int 2)) dItem) (fun _ => some (.int 1)) dSub) (fun _ => some []))) dMax) (callV m__law_slack (consA (fun ρ => fzAt ρ 1) (fun _ => some []))) dPlus) (fun ρ => fzAt ρ 11) dPlus))) (retS (callV (m__law_same 8) (consA (callV m_sure_limit (consA (fun ρ => fzAt ρ 1) (consA (fun ρ => fzAt ρ 2) (consA (fun ρ => fzAt ρ 4) (fun _ => some []))))) (consA (fun ρ => fzAt ρ 12) (fun _ => some []))))))) skip) (sq (iteS (cmp2 (fun ρ => fzAt ρ 6) (fun _ => some (.int 2000)) dLe) (retS (fun _ => some (.bl true))) skip) (sq (tryI 13 x_sure_limit (consA (fun ρ => fzAt ρ 1) (consA (fun ρ => fzAt ρ 2) (consA (fun ρ => fzAt ρ 4) (fun _ => some [])))) (.bl true)) (retS (fun _ => some (.bl false))))))))))
def m_law : List D → Option D := fun ds => fin (b_law (startR 14 ds))
theorem fn_law (T : Txt K mg) {f : Addr} {fd : FuncData} (F : Fun K "law" "law" s_law f fd) : FnOk P w K mg base CX0 12 f fd ["_law_script_here"] (spD ⟨K, mg⟩ 1 m_law) :=
  let ⟨_, _, _, OX, hX1, hX2, hX3⟩ := T.x_PeriodTooLong
  fn_data F sc_law (fun _ _ _ h => h) fun cdv A outer s H E hr => ⟨_, (dss_cons (ds_asg (de_callN (ok__law_case T) hr (da_cons (de_var 0) da_nil)) (dg_tup 5 rfl (dgs_cons (dg_name 1 sc_law.nd) (dgs_cons (dg_name 2 sc_law.nd) (dgs_cons (dg_name 3 sc_law.nd) (dgs_cons (dg_name 4 sc_law.nd) (dgs_cons (dg_name 5 sc_law.nd) dgs_nil))))) (gsC_len (gsC_len (gsC_len (gsC_len (gsC_len gsN_len))))))) (dss_cons (ds_set 6 sc_law.nd (de_if (dt_gt (de_len T.z_len (de_item hr (de_var 3).toB de_int.toB).toB).toB de_int.toB) (de_fld T.q_Setup (by decide +kernel) (de_var 1).toB) de_int)) (dss_cons (ds_set 7 sc_law.nd (de_var 4)) (dss_cons (ds_for PassesOwn.never rfl (di_any (de_item hr (de_callN (ok__law_find T) hr (da_cons (de_fld T.q_Setup (by decide +kernel) (de_var 1).toB) (da_cons (de_item hr (de_var 3).toB de_int.toB) da_nil))).toB de_int.toB)) (dg_tup 2 rfl (dgs_cons (dg_name 8 sc_law.nd) (dgs_cons (dg_name 9 sc_law.nd) dgs_nil)) (gsC_len (gsC_len gsN_len))) (dss_cons (ds_set 10 sc_law.nd (de_callN (ok__law_find T) hr (da_cons (de_fld T.q_Setup (by decide +kernel) (de_var 1).toB) (da_cons (de_var 8) da_nil)))) (dss_cons (ds_set 6 sc_law.nd (de_callN (ok__law_lcm T) hr (da_cons (de_var 6) (da_cons (de_callN (ok__law_period T) hr (da_cons (de_fld T.q_Setup (by decide +kernel) (de_var 1).toB) (da_cons (de_var 10) da_nil))) da_nil)))) (dss_one (ds_set 7 sc_law.nd (de_max rfl T.z_max (da_cons (de_var 7) (da_cons (de_callN (ok__law_settled T) hr (da_cons (de_var 10) da_nil)) da_nil)))))))) (dss_cons (ds_if (dt_le (de_var 6).toB de_int.toB) (dss_cons (ds_set 11 sc_law.nd (de_callN (ok__law_sums T) hr (da_cons (de_var 1) (da_cons (de_var 3) (da_cons (de_var 4) (da_cons (de_var 6) (da_cons (de_var 7) da_nil))))))) (dss_cons (ds_set 12 sc_law.nd (de_if (dt_isN (de_var 11).toB de_non.toB) de_non (de_plus (de_plus (de_max rfl T.z_max (da_cons (de_item hr (de_var 3).toB de_int.toB) (da_cons (de_sub (de_item hr (de_var 3).toB de_int.toB).toB de_int.toB) da_nil))).toB (de_callN (ok__law_slack T) hr (da_cons (de_var 1) da_nil)).toB).toB (de_var 11).toB))) (dss_one (ds_ret (de_callN (ok__law_same T 8) hr (da_cons (de_callN (ok_sure_limit T) hr (da_cons (de_var 1) (da_cons (de_var 2) (da_cons (de_var 4) da_nil)))) (da_cons (de_var 12) da_nil))))))) dss_nil) (dss_cons (ds_if (dt_le (de_var 6).toB de_int.toB) (dss_one (ds_ret de_bl)) dss_nil) (dss_cons (ds_tryIs 13 (okX_sure_limit T OX) OX hX1.1 hX1.2 hX2 hX3 T.z_isinstance hr sc_law.nd (fun _ _ => (da_cons (de_var 1) (da_cons (de_var 2) (da_cons (de_var 4) da_nil))))) (dss_one (ds_ret de_bl)))))))))⟩
end
end G74

namespace G74
open PySem PySem.Spec PyProof.Rows L2 DL
/-! ### draws -/
def Small (ds : List Int) : Prop := ∀ d ∈ ds, 0 ≤ d ∧ d < 1000
theorem small_nil : Small [] := fun _ h => nomatch h
theorem small_snoc {ds : List Int} {d : Int} (h : Small ds) (h0 : 0 ≤ d) (h1 : d < 1000) : Small (ds ++ [d]) := fun x hx => by
  rcases List.mem_append.mp hx with z | z
  · exact h x z
  · rw [List.mem_singleton.mp z]; exact ⟨h0, h1⟩
theorem map_snoc {ds : List Int} {x : Int} : ds.map D.int ++ [D.int x] = (ds ++ [x]).map D.int := by rw [List.map_append]; rfl
theorem draws_ex (c : Int) (n : Nat) (hn : n ≤ 1000) : Ev (m__law_draws [.int c, .int n]) fun d => ∃ ds : List Int, d = .lst (ds.map D.int) ∧ ds.length = n ∧ Small ds := by
  have hz := line_big
  have hb1 : -4611686018427387904 ≤ (n : Int) := by omega
  have hb2 : (n : Int) < 4611686018427387904 := by omega
  refine run (fun _ => rfl) ?_
  have second : ∀ (ds : List Int) (r : Int) (s : Sl) (st : Int) (N : Reg → Prop) (R : D → Prop) (Bk Ct : Reg → Prop), ds.length ≤ n → Small ds →
      (∀ (ds : List Int) (s : Sl) (st : Int), ds.length = n → Small ds → N [.fz (.int c), .fz (.int n), .ow (.lst (ds.map D.int)), .fz (.int r), s, .fz (.int st)]) →
      Ok (loopD (gN 4) L2__law_draws (rngL 0 n) [.fz (.int c), .fz (.int n), .ow (.lst (ds.map D.int)), .fz (.int r), s, .fz (.int st)]) N R Bk Ct := by
    intro ds r s st N R Bk Ct hl hs hN
    refine ok_range (fun j ρ => ∃ (ds : List Int) (s : Sl) (st : Int), ρ = [.fz (.int c), .fz (.int n), .ow (.lst (ds.map D.int)), .fz (.int r), s, .fz (.int st)] ∧ ds.length ≤ n ∧ j ≤ ds.length ∧ Small ds) ⟨ds, s, st, rfl, hl, Nat.zero_le _, hs⟩ ?_ ?_
    · rintro j ρ hj ⟨ds, s, st, rfl, h1, h2, h3⟩
      refine ⟨_, rfl, ?_⟩
      simp [L2__law_draws]
      refine ⟨fun h => ⟨by omega, ds ++ [_], map_snoc, ?_, ?_, small_snoc h3 (Int.emod_nonneg _ (by omega)) (Int.emod_lt_of_pos _ (by omega))⟩, fun h => ⟨ds, rfl, h1, by omega, h3⟩⟩ <;> simp <;> omega
    · rintro ρ ⟨ds, s, st, rfl, h1, h2, h3⟩
      exact hN ds s st (by omega) h3
  simp [b__law_draws, hb2]
  refine ⟨fun hc => ?_, fun hc => ?_⟩
  · refine ok_range (fun j ρ => ∃ (ds : List Int) (s : Sl) (r : Int), ρ = [.fz (.int c), .fz (.int n), .ow (.lst (ds.map D.int)), .fz (.int r), s, .no] ∧ ds.length ≤ j ∧ Small ds) ⟨[], .no, c, rfl, Nat.le_refl _, small_nil⟩ ?_ ?_
    · rintro j ρ hj ⟨ds, s, r, rfl, h1, h3⟩
      refine ⟨_, rfl, ?_⟩
      simp [L1__law_draws]
      refine ⟨fun h => ⟨by omega, ds ++ [_], map_snoc, ?_, small_snoc h3 (Int.emod_nonneg _ (by omega)) (Int.emod_lt_of_pos _ (by omega))⟩, fun h => ⟨ds, rfl, by omega, h3⟩⟩
      simp; omega
    · rintro ρ ⟨ds, s, r, rfl, h1, h3⟩
      simp [hb2]
      exact second ds r s _ _ _ _ _ h1 h3 fun ds s st h1 h2 => by simp; exact ⟨ds, rfl, h1, h2⟩
  · exact second [] c .no _ _ _ _ _ (Nat.zero_le _) small_nil fun ds s st h1 h2 => by simp; exact ⟨ds, rfl, h1, h2⟩
theorem draws_ex2 (c : Int) (n : Nat) (hn : n ≤ 1000) : ∃ ds : List Int, m__law_draws [.int c, .int n] = some (.lst (ds.map D.int)) ∧ ds.length = n ∧ Small ds := by
  obtain ⟨_, h, ds, rfl, h1, h2⟩ := draws_ex c n hn
  exact ⟨ds, h, h1, h2⟩
/-- the draws of a cell -/
noncomputable def drawsOf (c : Int) (n : Nat) : List Int := if h : n ≤ 1000 then (draws_ex2 c n h).choose else []
theorem draws_spec (c : Int) (n : Nat) (hn : n ≤ 1000) : m__law_draws [.int c, .int n] = some (.lst ((drawsOf c n).map D.int)) ∧ (drawsOf c n).length = n ∧ Small (drawsOf c n) := by
  have e : drawsOf c n = (draws_ex2 c n hn).choose := by unfold drawsOf; rw [dif_pos hn]
  rw [e]
  exact (draws_ex2 c n hn).choose_spec
end G74

namespace G74
open PySem PySem.Spec PyProof.Rows L2 DL
theorem cut {A B : Reg → Out} {ρ : Reg} {N : Reg → Prop} {R : D → Prop} {Bk Ct : Reg → Prop} (M : Reg → Prop) (h1 : Ok (A ρ) M R Bk Ct) (h2 : ∀ ρ, M ρ → Ok (B ρ) N R Bk Ct) : Ok (sq A B ρ) N R Bk Ct :=
  ok_sq.mpr (h1.imp h2 (fun _ z => z) (fun _ z => z) (fun _ z => z))
theorem lcE {α β : Type} {ρ : Reg} {p : Reg → Option Bool} {f : Reg → Option D} {h : D → Reg → Option Reg} {K : List D → Prop} (enc : α → D) (enc' : β → D) (F : α → β) (xs : List α)
    (st : ∀ x ∈ xs, Ev (h (enc x) ρ) fun ρ1 => Ev (p ρ1) fun b => b = true ∧ Ev (f ρ1) fun d => d = enc' (F x)) (k : K ((xs.map F).map enc')) : Ev (lcD h p f ρ (xs.map enc)) K := by
  refine ev_of (lcD_enc enc enc' F xs fun x hx => ?_) k
  obtain ⟨ρ1, e1, b, e2, rfl, e3⟩ := st x hx
  exact ⟨ρ1, e1, e2, ev_eq.mp e3⟩
theorem small_at {ds : List Int} (h : Small ds) {k : Int} (h0 : 0 ≤ k) (hk : k < ds.length) : ∃ d, atI (ds.map D.int) k = some (.int d) ∧ 0 ≤ d ∧ d < 1000 := by
  obtain ⟨d, e, m⟩ := atI_mem (xs := ds) h0 hk
  exact ⟨d, by rw [atI_map, e]; rfl, h d m⟩
/-! ### names -/
def isSm (c : Nat) : Bool := decide (c ∈ lit "abcdefghijklmnopqrstuvwxyz")
def isWc (c : Nat) : Bool := decide (c ∈ lit "abcdefghijklmnopqrstuvwxyz0123456789_")
def hd (w : List Nat) : Nat := match w with
  | [] => 0
  | c :: _ => c
/-- a text that a label may have, not empty -/
def Val (w : List Nat) : Prop := w ≠ [] ∧ w.length ≤ 20 ∧ w.all isWc = true
def Nam (w : List Nat) : Prop := Val w ∧ isSm (hd w) = true ∧ w ≠ lit "zzzzzzzzzzzzzzzzzzzz"
instance (w : List Nat) : Decidable (Val w) := inferInstanceAs (Decidable (_ ∧ _ ∧ _))
instance (w : List Nat) : Decidable (Nam w) := inferInstanceAs (Decidable (_ ∧ _ ∧ _))
/-- the k-th word of a cell: by place and letter -/
def wordL (p : Nat) (j : Nat) : List Nat := (lit "xyz").take p ++ (lit "abcdefghijklmnopqrstuvwxyz").getD j 97 :: (lit "xyzw").drop p
theorem word_nam : ∀ (p : Fin 4) (j : Fin 26), Nam (wordL p.val j.val) := by decide +kernel
theorem word_inj : ∀ (p : Fin 4) (j k : Fin 26), wordL p.val j.val = wordL p.val k.val → j = k := by decide +kernel
def worthL (p : Nat) (j : Nat) : List Nat := (lit "v7_").take p ++ (lit "0123456789_abcdefghijklmnopqrstuvwxyz").getD j 97 :: (lit "0_").drop p
theorem worth_val : ∀ (p : Fin 3) (j : Fin 37), Val (worthL p.val j.val) := by decide +kernel
theorem cut_take {α : Type} {xs : List α} {p : Int} (h : 0 ≤ p) : cutG xs none (some p) = xs.take p.toNat := by
  unfold cutG
  rw [sIx_nn h]
  show List.take (min p.toNat xs.length - 0) (List.drop 0 xs) = _
  rw [List.drop_zero, Nat.sub_zero]
  by_cases hh : p.toNat ≤ xs.length
  · rw [Nat.min_eq_left hh]
  · rw [Nat.min_eq_right (by omega), List.take_length, List.take_of_length_le (by omega)]
theorem cut_drop {α : Type} {xs : List α} {p : Int} (h : 0 ≤ p) : cutG xs (some p) none = xs.drop p.toNat := by
  unfold cutG
  rw [sIx_nn h]
  show List.take (xs.length - min p.toNat xs.length) (List.drop (min p.toNat xs.length) xs) = _
  by_cases hh : p.toNat ≤ xs.length
  · rw [Nat.min_eq_left hh, List.take_of_length_le (by rw [List.length_drop]; omega)]
  · rw [Nat.min_eq_right (by omega), List.drop_of_length_le (Nat.le_refl _), List.drop_of_length_le (by omega)]
    simp
def wordsL (c : Int) (n : Nat) : List (List Nat) := (List.range n).map fun k => wordL (c / 26 % 4).toNat ((c + 3 * (k : Nat)) % 26).toNat
def worthsL (c : Int) (n : Nat) : List (List Nat) := (List.range n).map fun k => worthL (c / 37 % 3).toNat ((c + 5 * (k : Nat)) % 37).toNat
theorem words_ok (c : Int) (n : Nat) (hn : n ≤ 10) : m__law_words [.int c, .int n] = some (strsD (wordsL c n)) := by
  have hz := line_big
  have hb2 : (n : Int) < 4611686018427387904 := by omega
  have e26 : (lit "abcdefghijklmnopqrstuvwxyz").length = 26 ∧ (lit "xyz").length = 3 ∧ (lit "xyzw").length = 4 := by decide +kernel
  refine run_eq (fun _ => rfl) ?_
  simp [b__law_words, hb2]
  refine ⟨by rw [rngL_len]; omega, ?_⟩
  refine lcE (fun k : Nat => D.int (0 + (k : Nat))) D.str (fun k => wordL (c / 26 % 4).toNat ((c + 3 * (k : Nat)) % 26).toNat) (List.range n) (fun k _ => ?_) rfl
  have p0 : 0 ≤ c / 26 % 4 := Int.emod_nonneg _ (by decide)
  have i0 : 0 ≤ (c + 3 * (k : Int)) % 26 := Int.emod_nonneg _ (by decide)
  have i1 : (c + 3 * (k : Int)) % 26 < 26 := Int.emod_lt_of_pos _ (by decide)
  have ea := atI_in (xs := lit "abcdefghijklmnopqrstuvwxyz") (i := (c + 3 * (k : Int)) % 26) i0 (by rw [e26.1]; exact i1) 97
  simp [C1__law_words, e26, ea, cut_take p0, cut_drop p0, wordL]
  refine ⟨by omega, by omega, by omega, by omega, by omega⟩
theorem worths_ok (c : Int) (n : Nat) (hn : n ≤ 10) : m__law_worths [.int c, .int n] = some (strsD (worthsL c n)) := by
  have hz := line_big
  have hb2 : (n : Int) < 4611686018427387904 := by omega
  have e26 : (lit "0123456789_abcdefghijklmnopqrstuvwxyz").length = 37 ∧ (lit "v7_").length = 3 ∧ (lit "0_").length = 2 := by decide +kernel
  refine run_eq (fun _ => rfl) ?_
  simp [b__law_worths, hb2]
  refine ⟨by rw [rngL_len]; omega, ?_⟩
  refine lcE (fun k : Nat => D.int (0 + (k : Nat))) D.str (fun k => worthL (c / 37 % 3).toNat ((c + 5 * (k : Nat)) % 37).toNat) (List.range n) (fun k _ => ?_) rfl
  have p0 : 0 ≤ c / 37 % 3 := Int.emod_nonneg _ (by decide)
  have i0 : 0 ≤ (c + 5 * (k : Int)) % 37 := Int.emod_nonneg _ (by decide)
  have i1 : (c + 5 * (k : Int)) % 37 < 37 := Int.emod_lt_of_pos _ (by decide)
  have ea := atI_in (xs := lit "0123456789_abcdefghijklmnopqrstuvwxyz") (i := (c + 5 * (k : Int)) % 37) i0 (by rw [e26.1]; exact i1) 97
  simp [C1__law_worths, e26, ea, cut_take p0, cut_drop p0, worthL]
  refine ⟨by omega, by omega, by omega, by omega, by omega⟩
theorem words_nam (c : Int) (n : Nat) : ∀ w ∈ wordsL c n, Nam w := by
  intro w hw
  obtain ⟨k, _, rfl⟩ := List.mem_map.mp hw
  have p1 : c / 26 % 4 < 4 := Int.emod_lt_of_pos _ (by decide)
  have p0 : 0 ≤ c / 26 % 4 := Int.emod_nonneg _ (by decide)
  have i0 : 0 ≤ (c + 3 * (k : Int)) % 26 := Int.emod_nonneg _ (by decide)
  have i1 : (c + 3 * (k : Int)) % 26 < 26 := Int.emod_lt_of_pos _ (by decide)
  exact word_nam ⟨(c / 26 % 4).toNat, by omega⟩ ⟨((c + 3 * (k : Int)) % 26).toNat, by omega⟩
theorem words_nodup (c : Int) (n : Nat) (hn : n ≤ 8) : (wordsL c n).Nodup := by
  unfold wordsL
  refine List.pairwise_map.mpr ?_
  refine List.Pairwise.imp_of_mem ?_ (List.nodup_range (n := n))
  intro a b ha hb hab e
  have ha := List.mem_range.mp ha
  have hb := List.mem_range.mp hb
  have p1 : c / 26 % 4 < 4 := Int.emod_lt_of_pos _ (by decide)
  have p0 : 0 ≤ c / 26 % 4 := Int.emod_nonneg _ (by decide)
  have := word_inj ⟨(c / 26 % 4).toNat, by omega⟩ ⟨((c + 3 * (a : Int)) % 26).toNat, by omega⟩ ⟨((c + 3 * (b : Int)) % 26).toNat, by omega⟩ e
  have := congrArg Fin.val this
  dsimp only at this
  omega
theorem worths_val (c : Int) (n : Nat) : ∀ w ∈ worthsL c n, Val w := by
  intro w hw
  obtain ⟨k, _, rfl⟩ := List.mem_map.mp hw
  have p1 : c / 37 % 3 < 3 := Int.emod_lt_of_pos _ (by decide)
  have p0 : 0 ≤ c / 37 % 3 := Int.emod_nonneg _ (by decide)
  have i0 : 0 ≤ (c + 5 * (k : Int)) % 37 := Int.emod_nonneg _ (by decide)
  have i1 : (c + 5 * (k : Int)) % 37 < 37 := Int.emod_lt_of_pos _ (by decide)
  exact worth_val ⟨(c / 37 % 3).toNat, by omega⟩ ⟨((c + 5 * (k : Int)) % 37).toNat, by omega⟩
theorem cell_ok (ns : List Int) (k : Nat) : m__law_cell [.lst (ns.map D.int), .int k] = some (.int (ns.getD k 0)) := by
  refine run_eq (fun _ => rfl) ?_
  simp [b__law_cell]
  refine ⟨fun h => ?_, fun h => ?_⟩
  · have := atI_in (xs := ns) (i := (k : Int)) (by omega) (by omega) 0
    rw [atI_map, this]
    simp
  · rw [List.getElem?_eq_none h]
    simp
end G74

namespace G74
open PySem PySem.Spec PyProof.Rows L2 DL
/-! ### the plain data of a setup -/
def spanD (s : Int × Int) : D := .tup [.int s.1, .int s.2]
structure Layer where
  mem : List (List Nat)
  start : Int
  shift : Int
  spans : List (Int × Int)
def layerD (l : Layer) : D := .tup [.tup (l.mem.map D.str), .int l.start, .int l.shift, .tup (l.spans.map spanD)]
def GSpans (W : Int) (ss : List (Int × Int)) : Prop := ∀ s ∈ ss, 0 ≤ s.1 ∧ s.1 < s.2 ∧ s.2 ≤ W
def GLayer (crew : List (List Nat)) (W : Int) (l : Layer) : Prop :=
  l.mem ≠ [] ∧ l.mem.length ≤ 3 ∧ (∀ m ∈ l.mem, m ∈ crew) ∧ 0 ≤ l.start ∧ l.start ≤ 12 ∧ 1 ≤ l.shift ∧ l.shift ≤ 9 ∧ l.spans.length ≤ 2 ∧ GSpans W l.spans
theorem map_snocG {α : Type} {f : α → D} {ds : List α} {x : α} {d : D} (e : d = f x) : ds.map f ++ [d] = (ds ++ [x]).map f := by rw [List.map_append, e]; rfl
theorem layer_ex (part : List Int) (hs : Small part) (hl : part.length = 11) (crew : List (List Nat)) (hc : crew ≠ []) (W : Int) (w1 : 2 ≤ W) (w2 : W ≤ 24) : Ev (m__law_layer [.lst (part.map D.int), strsD crew, .int W]) fun d => ∃ l, d = layerD l ∧ GLayer crew W l := by
  have hz := line_big
  have cl : 0 < (crew.length : Int) := by have := List.length_pos_iff.mpr hc; omega
  refine run (fun _ => rfl) ?_
  obtain ⟨d3, a3, p3, q3⟩ := small_at (k := 3) hs (by omega) (by omega)
  obtain ⟨d4, a4, p4, q4⟩ := small_at (k := 4) hs (by omega) (by omega)
  obtain ⟨d5, a5, p5, q5⟩ := small_at (k := 5) hs (by omega) (by omega)
  obtain ⟨d6, a6, p6, q6⟩ := small_at (k := 6) hs (by omega) (by omega)
  simp [b__law_layer, a3, a4, a5, a6, strsD]
  refine ⟨⟨by omega, by omega⟩, by rw [rngL_len]; omega, ?_⟩
  refine (lcD_ex (fun k : Nat => D.int (0 + (k : Nat))) D.str (fun _ m => m ∈ crew) (List.range (1 + d3 % 3).toNat) (fun k hk => ?_)).imp fun ys ⟨zs, e, g2, g3⟩ => ?_
  · have hk := List.mem_range.mp hk
    obtain ⟨c, b1, b2, b3⟩ := small_at (k := (k : Int)) hs (by omega) (by omega)
    obtain ⟨m, e1, e2⟩ := atI_mem (xs := crew) (i := c % (crew.length : Int)) (Int.emod_nonneg _ (by omega)) (Int.emod_lt_of_pos _ cl)
    simp [C1__law_layer, b1, hc, atI_map, e1, e2]
    omega
  · subst e
    refine ⟨⟨by omega, by omega⟩, ?_⟩
    refine ok_range (fun j ρ => ∃ (ss : List (Int × Int)) (s1 s2 s3 : Sl), ρ = [.fz (.lst (part.map D.int)), .fz (.lst (crew.map D.str)), .fz (.int W), .fz (.lst (zs.map D.str)), .ow (.lst (ss.map spanD)), s1, s2, s3] ∧ ss.length = j ∧ GSpans W ss) ⟨[], _, _, _, rfl, rfl, fun _ h => nomatch h⟩ ?_ ?_
    · rintro j ρ hj ⟨ss, s1, s2, s3, rfl, h1, h2⟩
      refine ⟨_, rfl, ?_⟩
      obtain ⟨c, b1, b2, b3⟩ := small_at (k := 7 + 2 * (j : Int)) hs (by omega) (by omega)
      obtain ⟨c', b1', b2', b3'⟩ := small_at (k := 8 + 2 * (j : Int)) hs (by omega) (by omega)
      simp [L1__law_layer, b1, b1']
      have u0 : 0 ≤ c % W := Int.emod_nonneg _ (by omega)
      have u1 : c % W < W := Int.emod_lt_of_pos _ (by omega)
      have u2 : 0 ≤ c' % (W - c % W) := Int.emod_nonneg _ (by omega)
      have u3 : c' % (W - c % W) < W - c % W := Int.emod_lt_of_pos _ (by omega)
      refine ⟨by omega, u1, by omega, ss ++ [(c % W, c % W + 1 + c' % (W - c % W))], map_snocG rfl, by simp; omega, fun s hs => ?_⟩
      rcases List.mem_append.mp hs with z | z
      · exact h2 s z
      · rw [List.mem_singleton.mp z]
        exact ⟨u0, by dsimp only; omega, by dsimp only; omega⟩
    · rintro ρ ⟨ss, s1, s2, s3, rfl, h1, h2⟩
      simp [a4, a5]
      refine ⟨⟨zs, d4 % 13, 1 + d5 % 9, ss⟩, rfl, fun z => ?_, ?_, fun m hm => ?_, by dsimp only; omega, by dsimp only; omega, by dsimp only; omega, by dsimp only; omega, by dsimp only; omega, h2⟩
      · dsimp only at z
        subst z
        simp at g2
        omega
      · dsimp only
        rw [g2, List.length_range]
        omega
      · obtain ⟨_, _, h⟩ := g3 m hm
        exact h
/-- one who stands in: first, last, who -/
def standD (s : Int × Int × List Nat) : D := .tup [.int s.1, .int s.2.1, .str s.2.2]
structure Rota where
  name : List Nat
  layers : List Layer
  stands : List (Int × Int × List Nat)
def rotaD (r : Rota) : D := .tup [.str r.name, .tup (r.layers.map layerD), .tup (r.stands.map standD)]
def GStands (crew : List (List Nat)) (ss : List (Int × Int × List Nat)) : Prop := ∀ s ∈ ss, 0 ≤ s.1 ∧ s.1 < s.2.1 ∧ s.2.1 ≤ 42 ∧ s.2.2 ∈ crew
def GRota (crew : List (List Nat)) (W : Int) (r : Rota) : Prop := r.layers.length ≤ 2 ∧ (∀ l ∈ r.layers, GLayer crew W l) ∧ r.stands.length ≤ 3 ∧ GStands crew r.stands
theorem rota_ex (c : Int) (name : List Nat) (crew : List (List Nat)) (hc : crew ≠ []) (W : Int) (w1 : 2 ≤ W) (w2 : W ≤ 24) : Ev (m__law_rota [.int c, .str name, strsD crew, .int W]) fun d => ∃ r, d = rotaD r ∧ r.name = name ∧ GRota crew W r := by
  have hz := line_big
  have cl : 0 < (crew.length : Int) := by have := List.length_pos_iff.mpr hc; omega
  obtain ⟨ed, hl, hs⟩ := draws_spec c 40 (by decide)
  have ed : m__law_draws [.int c, .int 40] = _ := ed
  generalize drawsOf c 40 = ds at ed hl hs
  refine run (fun _ => rfl) ?_
  obtain ⟨d0, a0, p0, q0⟩ := small_at (k := 0) hs (by omega) (by omega)
  obtain ⟨d1, a1, p1, q1⟩ := small_at (k := 1) hs (by omega) (by omega)
  simp [b__law_rota, ed, a0, a1]
  obtain ⟨n, hn, hn2⟩ : ∃ n : Nat, ((if 0 < d0 % 8 then 1 else 0) + if d0 % 3 = 1 then 1 else 0 : Int) = (n : Int) ∧ n ≤ 2 := by
    by_cases h1 : 0 < d0 % 8 <;> by_cases h2 : d0 % 3 = 1
    · exact ⟨2, by simp [h1, h2], by omega⟩
    · exact ⟨1, by simp [h1, h2], by omega⟩
    · exact ⟨1, by simp [h1, h2], by omega⟩
    · exact ⟨0, by simp [h1, h2], by omega⟩
  rw [hn]
  refine ⟨⟨by omega, by omega⟩, ?_⟩
  refine ok_range (fun j ρ => ∃ (ls : List Layer) (s1 s2 s3 : Sl), ρ = [.fz (.int c), .fz (.str name), .fz (strsD crew), .fz (.int W), .fz (.lst (ds.map D.int)), .ow (.lst (ls.map layerD)), s1, s2, s3] ∧ ls.length = j ∧ ∀ l ∈ ls, GLayer crew W l) ⟨[], _, _, _, rfl, rfl, fun _ h => nomatch h⟩ ?_ ?_
  · rintro j ρ hj ⟨ls, s1, s2, s3, rfl, h1, h2⟩
    refine ⟨_, rfl, ?_⟩
    have k1 : (0 : Int) ≤ 2 + 11 * (j : Int) := by omega
    have k2 : (0 : Int) ≤ 13 + 11 * (j : Int) := by omega
    have eL : (cutG ds (some (2 + 11 * (j : Int))) (some (13 + 11 * (j : Int)))).length = 11 := by
      rw [cutG_nn k1 k2, List.length_take, List.length_drop, hl]
      omega
    have eS : Small (cutG ds (some (2 + 11 * (j : Int))) (some (13 + 11 * (j : Int)))) := fun d h => hs d (cutG_mem h)
    obtain ⟨_, e1, l, rfl, gl⟩ := layer_ex _ eS eL crew hc W w1 w2
    simp [L1__law_rota, cutG_map, e1]
    refine ⟨by omega, ls ++ [l], map_snocG rfl, by simp; omega, fun x hx => ?_⟩
    rcases List.mem_append.mp hx with z | z
    · exact h2 x z
    · rw [List.mem_singleton.mp z]
      exact gl
  · rintro ρ ⟨ls, s1, s2, s3, rfl, h1, h2⟩
    simp [a1]
    refine ⟨⟨by omega, by omega⟩, ?_⟩
    refine ok_range (fun j ρ => ∃ (ss : List (Int × Int × List Nat)) (s1 s3 : Sl), ρ = [.fz (.int c), .fz (.str name), .fz (strsD crew), .fz (.int W), .fz (.lst (ds.map D.int)), .ow (.lst (ls.map layerD)), s1, .ow (.lst (ss.map standD)), s3] ∧ ss.length = j ∧ GStands crew ss) ⟨[], _, _, rfl, rfl, fun _ h => nomatch h⟩ ?_ ?_
    · rintro j ρ hj ⟨ss, s1, s3, rfl, h3, h4⟩
      refine ⟨_, rfl, ?_⟩
      obtain ⟨c0, b0, i0, j0⟩ := small_at (k := 24 + 3 * (j : Int)) hs (by omega) (by omega)
      obtain ⟨c1, b1, i1, j1⟩ := small_at (k := 25 + 3 * (j : Int)) hs (by omega) (by omega)
      obtain ⟨c2, b2, i2, j2⟩ := small_at (k := 26 + 3 * (j : Int)) hs (by omega) (by omega)
      obtain ⟨m, e1, e2⟩ := atI_mem (xs := crew) (i := c2 % (crew.length : Int)) (Int.emod_nonneg _ (by omega)) (Int.emod_lt_of_pos _ cl)
      simp [L2__law_rota, b0, b1, b2, hc, atI_map, e1, strsD]
      refine ⟨by omega, by omega, ss ++ [(c0 % 30, c0 % 30 + 1 + c1 % 12, m)], map_snocG rfl, by simp; omega, fun x hx => ?_⟩
      rcases List.mem_append.mp hx with z | z
      · exact h4 x z
      · rw [List.mem_singleton.mp z]
        exact ⟨by dsimp only; omega, by dsimp only; omega, by dsimp only; omega, e2⟩
    · rintro ρ ⟨ss, s1, s3, rfl, h3, h4⟩
      simp
      exact ⟨⟨name, ls, ss⟩, rfl, rfl, by dsimp only; omega, h2, by dsimp only; omega, h4⟩
/-! ### ladders and shutters -/
structure Ladder where
  name : List Nat
  levels : List (List Nat × Int)
def levelD (l : List Nat × Int) : D := .tup [.str l.1, .int l.2]
def ladderD (l : Ladder) : D := .tup [.str l.name, .tup (l.levels.map levelD)]
def GLadder (titles : List (List Nat)) (l : Ladder) : Prop := l.levels ≠ [] ∧ l.levels.length ≤ 3 ∧ ∀ s ∈ l.levels, s.1 ∈ titles ∧ 0 ≤ s.2 ∧ s.2 ≤ 8
structure Shutter where
  name : List Nat
  spans : List (Int × Int)
def shutterD (l : Shutter) : D := .tup [.str l.name, .tup (l.spans.map spanD)]
def GShutter (W : Int) (l : Shutter) : Prop := l.spans ≠ [] ∧ l.spans.length ≤ 2 ∧ GSpans W l.spans
theorem ladder_ex (ds : List Int) (hs : Small ds) (hl : ds.length = 8) (name : List Nat) (titles : List (List Nat)) (hc : titles ≠ []) : Ev (m__law_ladder [.lst (ds.map D.int), .str name, strsD titles]) fun d => ∃ l, d = ladderD l ∧ l.name = name ∧ GLadder titles l := by
  have hz := line_big
  have cl : 0 < (titles.length : Int) := by have := List.length_pos_iff.mpr hc; omega
  refine run (fun _ => rfl) ?_
  obtain ⟨d0, a0, p0, q0⟩ := small_at (k := 0) hs (by omega) (by omega)
  simp [b__law_ladder, a0]
  refine ⟨⟨by omega, by omega⟩, ?_⟩
  refine ok_range (fun j ρ => ∃ (ls : List (List Nat × Int)) (s1 : Sl), ρ = [.fz (.lst (ds.map D.int)), .fz (.str name), .fz (strsD titles), .ow (.lst (ls.map levelD)), s1] ∧ ls.length = j ∧ ∀ s ∈ ls, s.1 ∈ titles ∧ 0 ≤ s.2 ∧ s.2 ≤ 8) ⟨[], _, rfl, rfl, fun _ h => nomatch h⟩ ?_ ?_
  · rintro j ρ hj ⟨ls, s1, rfl, h1, h2⟩
    refine ⟨_, rfl, ?_⟩
    obtain ⟨c1, b1, i1, j1⟩ := small_at (k := 1 + 2 * (j : Int)) hs (by omega) (by omega)
    obtain ⟨c2, b2, i2, j2⟩ := small_at (k := 2 + 2 * (j : Int)) hs (by omega) (by omega)
    obtain ⟨m, e1, e2⟩ := atI_mem (xs := titles) (i := c1 % (titles.length : Int)) (Int.emod_nonneg _ (by omega)) (Int.emod_lt_of_pos _ cl)
    simp [L1__law_ladder, b1, b2, hc, atI_map, e1, strsD]
    refine ⟨by omega, by omega, ls ++ [(m, c2 % 9)], map_snocG rfl, by simp; omega, fun a b hx => ?_⟩
    rcases List.mem_append.mp hx with z | z
    · exact h2 (a, b) z
    · cases List.mem_singleton.mp z
      exact ⟨e2, by omega, by omega⟩
  · rintro ρ ⟨ls, s1, rfl, h1, h2⟩
    simp
    refine ⟨⟨name, ls⟩, rfl, rfl, fun z => ?_, by dsimp only; omega, h2⟩
    dsimp only at z
    subst z
    simp at h1
    omega
theorem shutter_ex (ds : List Int) (hs : Small ds) (hl : ds.length = 6) (name : List Nat) (W : Int) (w1 : 2 ≤ W) (w2 : W ≤ 24) : Ev (m__law_shutter [.lst (ds.map D.int), .str name, .int W]) fun d => ∃ l, d = shutterD l ∧ l.name = name ∧ GShutter W l := by
  have hz := line_big
  refine run (fun _ => rfl) ?_
  obtain ⟨d0, a0, p0, q0⟩ := small_at (k := 0) hs (by omega) (by omega)
  simp [b__law_shutter, a0]
  refine ⟨⟨by omega, by omega⟩, ?_⟩
  refine ok_range (fun j ρ => ∃ (ss : List (Int × Int)) (s1 s2 : Sl), ρ = [.fz (.lst (ds.map D.int)), .fz (.str name), .fz (.int W), .ow (.lst (ss.map spanD)), s1, s2] ∧ ss.length = j ∧ GSpans W ss) ⟨[], _, _, rfl, rfl, fun _ h => nomatch h⟩ ?_ ?_
  · rintro j ρ hj ⟨ss, s1, s2, rfl, h1, h2⟩
    refine ⟨_, rfl, ?_⟩
    obtain ⟨c, b1, i1, j1⟩ := small_at (k := 1 + 2 * (j : Int)) hs (by omega) (by omega)
    obtain ⟨c', b2, i2, j2⟩ := small_at (k := 2 + 2 * (j : Int)) hs (by omega) (by omega)
    simp [L1__law_shutter, b1, b2]
    have u0 : 0 ≤ c % W := Int.emod_nonneg _ (by omega)
    have u1 : c % W < W := Int.emod_lt_of_pos _ (by omega)
    have u2 : 0 ≤ c' % (W - c % W) := Int.emod_nonneg _ (by omega)
    have u3 : c' % (W - c % W) < W - c % W := Int.emod_lt_of_pos _ (by omega)
    refine ⟨by omega, u1, by omega, ss ++ [(c % W, c % W + 1 + c' % (W - c % W))], map_snocG rfl, by simp; omega, fun s hs => ?_⟩
    rcases List.mem_append.mp hs with z | z
    · exact h2 s z
    · rw [List.mem_singleton.mp z]
      exact ⟨u0, by dsimp only; omega, by dsimp only; omega⟩
  · rintro ρ ⟨ss, s1, s2, rfl, h1, h2⟩
    simp
    refine ⟨⟨name, ss⟩, rfl, rfl, fun z => ?_, by dsimp only; omega, h2⟩
    dsimp only at z
    subst z
    simp at h1
    omega
/-! ### matchers and routes -/
structure Mat where
  name : List Nat
  vals : List (List Nat)
  inside : Bool
def matD (m : Mat) : D := .tup [.str m.name, .tup (m.vals.map D.str), .bl m.inside]
def GMat (names worths : List (List Nat)) (m : Mat) : Prop := m.name ∈ names ∧ m.vals ≠ [] ∧ m.vals.length ≤ 2 ∧ ∀ v ∈ m.vals, v ∈ worths ∨ v = []
theorem matcher_ex (a b : Int) (names worths : List (List Nat)) (hn : names ≠ []) (hw : worths.length ≤ 10) : Ev (m__law_matcher [.int a, .int b, strsD names, strsD worths]) fun d => ∃ m, d = matD m ∧ GMat names worths m := by
  have hz := line_big
  have cl : 0 < (names.length : Int) := by have := List.length_pos_iff.mpr hn; omega
  refine run (fun _ => rfl) ?_
  obtain ⟨ws, hws⟩ : ∃ ws : List (List Nat), ws = worths ++ [[]] := ⟨_, rfl⟩
  have e0 : worths.map D.str ++ [D.str []] = ws.map D.str := by rw [hws, List.map_append]; rfl
  have ml : (ws.length : Int) = worths.length + 1 := by rw [hws]; simp
  have hm : ∀ v ∈ ws, v ∈ worths ∨ v = [] := fun v h => by
    rw [hws] at h
    rcases List.mem_append.mp h with z | z
    · exact .inl z
    · exact .inr (List.mem_singleton.mp z)
  obtain ⟨m, e1, e2⟩ := atI_mem (xs := names) (i := a % (names.length : Int)) (Int.emod_nonneg _ (by omega)) (Int.emod_lt_of_pos _ cl)
  obtain ⟨v, e3, e4⟩ := atI_mem (xs := ws) (i := a / 7 % (ws.length : Int)) (Int.emod_nonneg _ (by omega)) (Int.emod_lt_of_pos _ (by omega))
  obtain ⟨v', e3', e4'⟩ := atI_mem (xs := ws) (i := a / 50 % (ws.length : Int)) (Int.emod_nonneg _ (by omega)) (Int.emod_lt_of_pos _ (by omega))
  have e4 := hm v e4
  have e4' := hm v' e4'
  simp [b__law_matcher, strsD, e0, atI_map, e1, e3, e3']
  refine ⟨by omega, by omega, fun hb => ⟨by omega, by omega, by omega, ⟨m, [v, v'], decide (b % 2 = 0)⟩, rfl, e2, (fun h => by cases h), by simp, fun x hx => ?_⟩, fun hb => ⟨by omega, ⟨m, [v], decide (b % 2 = 0)⟩, rfl, e2, (fun h => by cases h), by simp, fun x hx => ?_⟩⟩
  · rcases List.mem_cons.mp hx with rfl | hx
    · exact e4
    · rw [List.mem_singleton.mp hx]; exact e4'
  · rw [List.mem_singleton.mp hx]; exact e4
structure Sett where
  group : List (List Nat)
  wait : Int
  interval : Int
  again : Int
  mutes : List (List Nat)
  policy : List Nat
def settD (s : Sett) : D := .tup [.tup (s.group.map D.str), .int s.wait, .int s.interval, .int s.again, .tup (s.mutes.map D.str), .str s.policy]
structure Route where
  parent : Option Nat
  mats : List Mat
  sett : Sett
def parD (p : Option Nat) : D := match p with
  | none => .non
  | some k => .int k
def routeD (r : Route) : D := .tup [parD r.parent, .tup (r.mats.map matD), settD r.sett]
def GSett (names ladders shutters : List (List Nat)) (s : Sett) : Prop :=
  s.group.length ≤ 2 ∧ (∀ g ∈ s.group, g ∈ names) ∧ (s.group.length = 2 → ∃ k : Nat, s.group = [names.getD (k % names.length) [], names.getD ((k + 1) % names.length) []]) ∧ 0 ≤ s.wait ∧ s.wait ≤ 4 ∧ 1 ≤ s.interval ∧ s.interval ≤ 6 ∧ s.interval ≤ s.again ∧ s.again ≤ s.interval + 8 ∧ (∃ n, s.mutes = shutters.take n) ∧ s.policy ∈ ladders
def GRoute (names worths ladders shutters : List (List Nat)) (place : Nat) (r : Route) : Prop :=
  (match r.parent with | none => place = 0 | some k => k < place) ∧ (place = 0 → r.mats = []) ∧ r.mats.length ≤ 2 ∧ (∀ m ∈ r.mats, GMat names worths m) ∧ GSett names ladders shutters r.sett
theorem route_ex (c : Int) (place : Nat) (hp : place ≤ 10) (names worths ladders shutters : List (List Nat)) (hn : names ≠ []) (hw : worths.length ≤ 10) (hld : ladders ≠ []) (hsh : shutters.length ≤ 10) :
    Ev (m__law_route [.int c, .int place, strsD names, strsD worths, strsD ladders, strsD shutters]) fun d => ∃ r, d = routeD r ∧ GRoute names worths ladders shutters place r := by
  have hz := line_big
  have cl : 0 < (names.length : Int) := by have := List.length_pos_iff.mpr hn; omega
  have cL : 0 < (ladders.length : Int) := by have := List.length_pos_iff.mpr hld; omega
  obtain ⟨ed, hl, hs⟩ := draws_spec c 16 (by decide)
  have ed : m__law_draws [.int c, .int 16] = _ := ed
  generalize drawsOf c 16 = ds at ed hl hs
  obtain ⟨d0, a0, p0, q0⟩ := small_at (k := 0) hs (by omega) (by omega)
  obtain ⟨d1, a1, p1, q1⟩ := small_at (k := 1) hs (by omega) (by omega)
  obtain ⟨d6, a6, p6, q6⟩ := small_at (k := 6) hs (by omega) (by omega)
  obtain ⟨d7, a7, p7, q7⟩ := small_at (k := 7) hs (by omega) (by omega)
  obtain ⟨d8, a8, p8, q8⟩ := small_at (k := 8) hs (by omega) (by omega)
  obtain ⟨d9, a9, p9, q9⟩ := small_at (k := 9) hs (by omega) (by omega)
  obtain ⟨d10, a10, p10, q10⟩ := small_at (k := 10) hs (by omega) (by omega)
  obtain ⟨d11, a11, p11, q11⟩ := small_at (k := 11) hs (by omega) (by omega)
  obtain ⟨d12, a12, p12, q12⟩ := small_at (k := 12) hs (by omega) (by omega)
  refine run (fun _ => rfl) ?_
  unfold b__law_route
  refine cut (fun ρ => ρ = [.fz (.int c), .fz (.int place), .fz (strsD names), .fz (strsD worths), .fz (strsD ladders), .fz (strsD shutters), .fz (.lst (ds.map D.int)), .no, .no, .no, .no, .no, .no, .no, .no]) (by simp [ed]) ?_
  rintro ρ rfl
  refine cut (fun ρ => ρ = [.fz (.int c), .fz (.int place), .fz (strsD names), .fz (strsD worths), .fz (strsD ladders), .fz (strsD shutters), .fz (.lst (ds.map D.int)), .fz .non, .no, .no, .no, .no, .no, .no, .no]) (by simp) ?_
  rintro ρ rfl
  refine cut (fun ρ => ρ = [.fz (.int c), .fz (.int place), .fz (strsD names), .fz (strsD worths), .fz (strsD ladders), .fz (strsD shutters), .fz (.lst (ds.map D.int)), .fz .non, .ow (.lst []), .no, .no, .no, .no, .no, .no]) (by simp) ?_
  rintro ρ rfl
  refine cut (fun ρ => ∃ (p : Option Nat) (ms : List Mat) (s : Sl), ρ = [.fz (.int c), .fz (.int place), .fz (strsD names), .fz (strsD worths), .fz (strsD ladders), .fz (strsD shutters), .fz (.lst (ds.map D.int)), .fz (parD p), .ow (.lst (ms.map matD)), s, .no, .no, .no, .no, .no] ∧ (match p with | none => place = 0 | some k => k < place) ∧ (place = 0 → ms = []) ∧ ms.length ≤ 2 ∧ ∀ m ∈ ms, GMat names worths m) ?_ ?_
  · simp [a0]
    refine ⟨fun hp0 => ⟨hp0, ?_⟩, fun hp0 => ?_⟩
    · simp [a1]
      refine ⟨⟨by omega, by omega⟩, ?_⟩
      refine ok_range (fun j ρ => ∃ (ms : List Mat) (s : Sl), ρ = [.fz (.int c), .fz (.int place), .fz (strsD names), .fz (strsD worths), .fz (strsD ladders), .fz (strsD shutters), .fz (.lst (ds.map D.int)), .fz (.int (d0 % (place : Int))), .ow (.lst (ms.map matD)), s, .no, .no, .no, .no, .no] ∧ ms.length = j ∧ ∀ m ∈ ms, GMat names worths m) ⟨[], _, rfl, rfl, fun _ h => nomatch h⟩ ?_ ?_
      · rintro j ρ hj ⟨ms, s, rfl, h1, h2⟩
        refine ⟨_, rfl, ?_⟩
        obtain ⟨x, b1, i1, j1⟩ := small_at (k := 2 + 2 * (j : Int)) hs (by omega) (by omega)
        obtain ⟨y, b2, i2, j2⟩ := small_at (k := 3 + 2 * (j : Int)) hs (by omega) (by omega)
        obtain ⟨_, e1, m, rfl, gm⟩ := matcher_ex x y names worths hn hw
        simp [L1__law_route, b1, b2, e1]
        refine ⟨by omega, ms ++ [m], map_snocG rfl, by simp; omega, fun q hq => ?_⟩
        rcases List.mem_append.mp hq with z | z
        · exact h2 q z
        · rw [List.mem_singleton.mp z]
          exact gm
      · rintro ρ ⟨ms, s, rfl, h1, h2⟩
        have u0 : 0 ≤ d0 % (place : Int) := Int.emod_nonneg _ (by omega)
        have u1 : d0 % (place : Int) < place := Int.emod_lt_of_pos _ (by omega)
        have u2 : ((d0 % (place : Int)).toNat : Int) = d0 % (place : Int) := Int.toNat_of_nonneg u0
        exact ⟨some (d0 % (place : Int)).toNat, ms, ⟨s, by simp only [parD, u2]⟩, by show (d0 % (place : Int)).toNat < place; omega, fun h => by omega, by omega, h2⟩
    · exact ⟨none, [], ⟨rfl, rfl⟩, hp0, fun _ => rfl, by decide, fun _ h => nomatch h⟩
  · rintro ρ ⟨p, ms, s, rfl, h1, h2, h3, h4⟩
    refine cut (fun ρ => ∃ (g : List (List Nat)) (s : Sl), ρ = [.fz (.int c), .fz (.int place), .fz (strsD names), .fz (strsD worths), .fz (strsD ladders), .fz (strsD shutters), .fz (.lst (ds.map D.int)), .fz (parD p), .ow (.lst (ms.map matD)), s, .fz (strsD g), .no, .no, .no, .no] ∧ g.length ≤ 2 ∧ (∀ x ∈ g, x ∈ names) ∧ (g.length = 2 → ∃ k : Nat, g = [names.getD (k % names.length) [], names.getD ((k + 1) % names.length) []])) ?_ ?_
    · simp [a6]
      refine ⟨⟨by omega, by omega⟩, by rw [rngL_len]; omega, ?_⟩
      refine lcE (fun k : Nat => D.int (0 + (k : Nat))) D.str (fun k => names.getD ((d7 + (k : Nat)) % (names.length : Int)).toNat []) (List.range (d6 % 3).toNat) (fun k hk => ?_) ⟨(List.range (d6 % 3).toNat).map fun k => names.getD ((d7 + (k : Nat)) % (names.length : Int)).toNat [], rfl, ?_, fun x hx => ?_, fun h => ⟨d7.toNat, ?_⟩⟩
      · have ea := atI_in (xs := names) (i := (d7 + (k : Int)) % (names.length : Int)) (Int.emod_nonneg _ (by omega)) (Int.emod_lt_of_pos _ cl) []
        simp [C1__law_route, a7, strsD, atI_map, ea, hn]
        omega
      · simp; omega
      · obtain ⟨k, hk, rfl⟩ := List.mem_map.mp hx
        have u0 : 0 ≤ (d7 + (k : Int)) % (names.length : Int) := Int.emod_nonneg _ (by omega)
        have u1 : (d7 + (k : Int)) % (names.length : Int) < names.length := Int.emod_lt_of_pos _ cl
        have u2 : ((d7 + (k : Int)) % (names.length : Int)).toNat < names.length := by omega
        rw [List.getD_eq_getElem?_getD, List.getElem?_eq_getElem u2]
        exact List.getElem_mem u2
      · have e2 : (d6 % 3).toNat = 2 := by simpa using h
        rw [e2]
        have t0 : (d7.toNat : Int) = d7 := Int.toNat_of_nonneg p7
        have t1 : (d7 % (names.length : Int)).toNat = d7.toNat % names.length := by rw [← t0, ← Int.natCast_emod, Int.toNat_natCast, t0]
        have t2 : ((d7 + 1) % (names.length : Int)).toNat = (d7.toNat + 1) % names.length := by
          rw [← t0, show ((d7.toNat : Int) + 1) = ((d7.toNat + 1 : Nat) : Int) by omega, ← Int.natCast_emod, Int.toNat_natCast, t0]
        simp [List.range_succ, t1, t2]
    · rintro ρ ⟨g, s, rfl, g1, g2, g3⟩
      obtain ⟨m, e1, e2⟩ := atI_mem (xs := ladders) (i := d12 % (ladders.length : Int)) (Int.emod_nonneg _ (by omega)) (Int.emod_lt_of_pos _ cL)
      simp [a8, a9, a10, a11, a12, strsD, atI_map, e1, hld]
      have eM : cutG (shutters.map D.str) none (some (d11 % ((shutters.length : Int) + 1))) = (shutters.take (d11 % ((shutters.length : Int) + 1)).toNat).map D.str := by
        rw [cutG_map, cut_take (Int.emod_nonneg _ (by omega))]
      rw [eM]
      exact ⟨by omega, ⟨p, ms, ⟨g, d8 % 5, 1 + d9 % 6, 1 + d9 % 6 + d10 % 9, shutters.take (d11 % ((shutters.length : Int) + 1)).toNat, m⟩⟩, rfl, h1, h2, h3, h4, g1, g2, g3, by dsimp only; omega, by dsimp only; omega, by dsimp only; omega, by dsimp only; omega, by dsimp only; omega, by dsimp only; omega, ⟨_, rfl⟩, e2⟩
structure Hold where
  source : List Mat
  target : List Mat
  equal : List (List Nat)
def holdD (h : Hold) : D := .tup [.tup (h.source.map matD), .tup (h.target.map matD), .tup (h.equal.map D.str)]
/-- names one after another, from the k-th on -/
def namesFrom (names : List (List Nat)) (k n : Nat) : List (List Nat) := (List.range n).map fun j => names.getD ((k + j) % names.length) []
def GHold (names worths : List (List Nat)) (h : Hold) : Prop := h.source.length = 1 ∧ (∀ m ∈ h.source, GMat names worths m) ∧ h.target.length ≤ 1 ∧ (∀ m ∈ h.target, GMat names worths m) ∧ ∃ k n, n ≤ 2 ∧ h.equal = namesFrom names k n
theorem holds_ex (c : Int) (names worths : List (List Nat)) (hn : names ≠ []) (hw : worths.length ≤ 10) : Ev (m__law_holds [.int c, strsD names, strsD worths]) fun d => ∃ hs : List Hold, d = .lst (hs.map holdD) ∧ hs.length ≤ 2 ∧ ∀ h ∈ hs, GHold names worths h := by
  have hz := line_big
  have cl : 0 < (names.length : Int) := by have := List.length_pos_iff.mpr hn; omega
  obtain ⟨ed, hl, hs⟩ := draws_spec c 20 (by decide)
  have ed : m__law_draws [.int c, .int 20] = _ := ed
  generalize drawsOf c 20 = ds at ed hl hs
  refine run (fun _ => rfl) ?_
  obtain ⟨d0, a0, p0, q0⟩ := small_at (k := 0) hs (by omega) (by omega)
  simp [b__law_holds, ed, a0]
  refine ⟨⟨by omega, by omega⟩, ?_⟩
  refine ok_range (fun j ρ => ∃ (ls : List Hold) (s5 s6 s7 s8 s9 s10 : Sl), ρ = [.fz (.int c), .fz (strsD names), .fz (strsD worths), .fz (.lst (ds.map D.int)), .ow (.lst (ls.map holdD)), s5, s6, s7, s8, s9, s10] ∧ ls.length = j ∧ ∀ h ∈ ls, GHold names worths h) ⟨[], _, _, _, _, _, _, rfl, rfl, fun _ h => nomatch h⟩ ?_ ?_
  · rintro j ρ hj ⟨ls, s5, s6, s7, s8, s9, s10, rfl, h1, h2⟩
    refine ⟨_, rfl, ?_⟩
    have k1 : (0 : Int) ≤ 2 + 9 * (j : Int) := by omega
    have k2 : (0 : Int) ≤ 11 + 9 * (j : Int) := by omega
    have eL : (cutG ds (some (2 + 9 * (j : Int))) (some (11 + 9 * (j : Int)))).length = 9 := by
      rw [cutG_nn k1 k2, List.length_take, List.length_drop, hl]
      omega
    have eS : Small (cutG ds (some (2 + 9 * (j : Int))) (some (11 + 9 * (j : Int)))) := fun d h => hs d (cutG_mem h)
    obtain ⟨qs, hqs⟩ : ∃ qs, qs = cutG ds (some (2 + 9 * (j : Int))) (some (11 + 9 * (j : Int))) := ⟨_, rfl⟩
    rw [← hqs] at eL eS
    obtain ⟨x0, b0, _, _⟩ := small_at (k := 0) eS (by omega) (by omega)
    obtain ⟨x1, b1, _, _⟩ := small_at (k := 1) eS (by omega) (by omega)
    obtain ⟨x2, b2, _, _⟩ := small_at (k := 2) eS (by omega) (by omega)
    obtain ⟨x3, b3, _, _⟩ := small_at (k := 3) eS (by omega) (by omega)
    obtain ⟨x4, b4, _, _⟩ := small_at (k := 4) eS (by omega) (by omega)
    obtain ⟨x5, b5, _, _⟩ := small_at (k := 5) eS (by omega) (by omega)
    obtain ⟨x6, b6, p6, _⟩ := small_at (k := 6) eS (by omega) (by omega)
    obtain ⟨_, e1, m1, rfl, g1⟩ := matcher_ex x0 x1 names worths hn hw
    obtain ⟨_, e2, m2, rfl, g2⟩ := matcher_ex x2 x3 names worths hn hw
    simp [L1__law_holds, cutG_map, ← hqs, b0, b1, b2, b3, b4, b5, b6, e1]
    refine ⟨⟨by omega, by omega⟩, by rw [rngL_len]; omega, ?_⟩
    refine lcE (fun k : Nat => D.int (0 + (k : Nat))) matD (fun _ => m2) (List.range (x4 % 2).toNat) (fun k _ => by simp [C1__law_holds, b2, b3, e2]) ⟨⟨by omega, by omega⟩, by rw [rngL_len]; omega, ?_⟩
    refine lcE (fun k : Nat => D.int (0 + (k : Nat))) D.str (fun k => names.getD ((x6.toNat + k) % names.length) []) (List.range (x5 % 3).toNat) (fun k _ => ?_) ⟨by omega, ls ++ [⟨[m1], (List.range (x4 % 2).toNat).map fun _ => m2, namesFrom names x6.toNat (x5 % 3).toNat⟩], map_snocG rfl, by simp; omega, fun h hh => ?_⟩
    · have t0 : (x6.toNat : Int) = x6 := Int.toNat_of_nonneg p6
      have t1 : ((x6 + (k : Int)) % (names.length : Int)).toNat = (x6.toNat + k) % names.length := by
        rw [← t0, ← Int.natCast_add, ← Int.natCast_emod, Int.toNat_natCast, t0]
      have ea := atI_in (xs := names) (i := (x6 + (k : Int)) % (names.length : Int)) (Int.emod_nonneg _ (by omega)) (Int.emod_lt_of_pos _ cl) []
      rw [t1] at ea
      simp [C2__law_holds, b6, strsD, atI_map, ea, hn]
      omega
    · rcases List.mem_append.mp hh with z | z
      · exact h2 h z
      · rw [List.mem_singleton.mp z]
        refine ⟨rfl, fun m hm => ?_, by simp; omega, fun m hm => ?_, x6.toNat, (x5 % 3).toNat, by omega, rfl⟩
        · rw [List.mem_singleton.mp hm]; exact g1
        · obtain ⟨_, _, rfl⟩ := List.mem_map.mp hm
          exact g2
  · rintro ρ ⟨ls, s5, s6, s7, s8, s9, s10, rfl, h1, h2⟩
    simp
    exact ⟨ls, rfl, by omega, h2⟩
end G74

namespace G74
open PySem PySem.Spec PyProof.Rows L2 DL
/-! ### the checks answer True on good data -/
theorem between_ok (a b c : Int) : m_is_between [.int a, .int b, .int c] = some (.bl (decide (a ≤ b) && decide (b ≤ c))) := by
  refine run_eq (fun _ => rfl) ?_
  simp [b_is_between]
  exact ⟨fun h _ => h, fun h g => by omega⟩
theorem all_true_ok (bs : List Bool) (h : ∀ b ∈ bs, b = true) : m_all_true [.lst (bs.map D.bl)] = some (.bl true) := by
  refine run_eq (fun _ => rfl) ?_
  simp [b_all_true]
  refine ok_each D.bl bs (fun _ ρ => ∃ s, ρ = [.fz (.lst (bs.map D.bl)), s]) ⟨_, rfl⟩ ?_ ?_
  · rintro j x ρ hx ⟨s, rfl⟩
    refine ⟨_, rfl, ?_⟩
    have := h x (List.mem_of_getElem? hx)
    subst this
    simp [L1_all_true]
  · rintro ρ ⟨s, rfl⟩
    simp
theorem span_fits_ok (W : Int) (s : Int × Int) (h : 0 ≤ s.1 ∧ s.1 < s.2 ∧ s.2 ≤ W) : m_span_fits [.int W, spanD s] = some (.bl true) := by
  refine run_eq (fun _ => rfl) ?_
  obtain ⟨h1, h2, h3⟩ := h
  have e0 : atI [D.int s.1, D.int s.2] 0 = some (.int s.1) := rfl
  have e1 : atI [D.int s.1, D.int s.2] 1 = some (.int s.2) := rfl
  simp [b_span_fits, spanD, e0, e1, h1, h2, h3]
theorem layer_fits_ok (W : Int) (crew : List (List Nat)) (l : Layer) (g : GLayer crew W l) : m_layer_fits [.int W, strsD crew, layerD l] = some (.bl true) := by
  have hz := line_big
  obtain ⟨g1, g2, g3, g4, g5, g6, g7, g8, g9⟩ := g
  have hl : 1 ≤ l.mem.length := List.length_pos_iff.mpr g1
  refine run_eq (fun _ => rfl) ?_
  simp [b_layer_fits, layerD, strsD, between_ok]
  refine ⟨by omega, fun _ _ => ⟨by omega, fun _ _ => ⟨by omega, fun _ _ => ⟨by omega, ?_⟩⟩⟩⟩
  refine lcE D.str D.bl (fun _ => true) l.mem (fun m hm => ?_) ?_
  · simp [C1_layer_fits, g3 m hm]
  · rw [all_true_ok _ (fun b hb => by obtain ⟨_, _, rfl⟩ := List.mem_map.mp hb; rfl)]
    simp
    refine ⟨by omega, ?_⟩
    refine lcE spanD D.bl (fun _ => true) l.spans (fun s hs => ?_) ?_
    · simp [C2_layer_fits, span_fits_ok W s (g9 s hs)]
    · rw [all_true_ok _ (fun b hb => by obtain ⟨_, _, rfl⟩ := List.mem_map.mp hb; rfl)]
      simp
theorem trues {α : Type} (xs : List α) : ∀ b ∈ xs.map (fun _ => true), b = true := fun b hb => by obtain ⟨_, _, rfl⟩ := List.mem_map.mp hb; rfl
theorem standin_fits_ok (crew : List (List Nat)) (s : Int × Int × List Nat) (h : 0 ≤ s.1 ∧ s.1 < s.2.1 ∧ s.2.1 ≤ 42 ∧ s.2.2 ∈ crew) : m_standin_fits [strsD crew, standD s] = some (.bl true) := by
  obtain ⟨h1, h2, h3, h4⟩ := h
  have h5 : s.2.1 ≤ 10000 := by omega
  refine run_eq (fun _ => rfl) ?_
  simp [b_standin_fits, standD, strsD, h1, h2, h5, h4]
theorem window_fits_ok (W : Int) (l : Shutter) (g : GShutter W l) : m_window_fits [.int W, shutterD l] = some (.bl true) := by
  have hz := line_big
  obtain ⟨g1, g2, g3⟩ := g
  have hl : 1 ≤ l.spans.length := List.length_pos_iff.mpr g1
  have e1 : atI [D.str l.name, D.tup (l.spans.map spanD)] 1 = some (.tup (l.spans.map spanD)) := rfl
  refine run_eq (fun _ => rfl) ?_
  simp [b_window_fits, shutterD, between_ok, e1]
  refine ⟨fun _ _ => ⟨by omega, ?_⟩, fun h => by omega⟩
  refine lcE spanD D.bl (fun _ => true) l.spans (fun s hs => ?_) ?_
  · simp [C1_window_fits, span_fits_ok W s (g3 s hs)]
  · rw [all_true_ok _ (trues _)]
    simp
theorem schedule_fits_ok (W : Int) (crew : List (List Nat)) (r : Rota) (g : GRota crew W r) : m_schedule_fits [.int W, strsD crew, rotaD r] = some (.bl true) := by
  have hz := line_big
  obtain ⟨g1, g2, g3, g4⟩ := g
  have e1 : dSlice (.tup [D.str r.name, D.tup (r.layers.map layerD), D.tup (r.stands.map standD)]) (some 1) none = some (.tup [D.tup (r.layers.map layerD), D.tup (r.stands.map standD)]) := rfl
  have u1 : ¬ (6 < (r.layers.length : Int)) := by omega
  have u2 : ¬ (20 < (r.stands.length : Int)) := by omega
  refine run_eq (fun _ => rfl) ?_
  simp [b_schedule_fits, rotaD, e1, u1, u2]
  refine ⟨by omega, ?_⟩
  refine lcE layerD D.bl (fun _ => true) r.layers (fun s hs => ?_) ?_
  · simp [C1_schedule_fits, layer_fits_ok W crew s (g2 s hs)]
  · rw [all_true_ok _ (trues _)]
    simp
    refine ⟨by omega, ?_⟩
    refine lcE standD D.bl (fun _ => true) r.stands (fun s hs => ?_) ?_
    · simp [C2_schedule_fits, standin_fits_ok crew s (g4 s hs)]
    · rw [all_true_ok _ (trues _)]
      simp
theorem policy_fits_ok (titles : List (List Nat)) (l : Ladder) (g : GLadder titles l) : m_policy_fits [strsD titles, ladderD l] = some (.bl true) := by
  have hz := line_big
  obtain ⟨g1, g2, g3⟩ := g
  have hl : 1 ≤ l.levels.length := List.length_pos_iff.mpr g1
  have e1 : atI [D.str l.name, D.tup (l.levels.map levelD)] 1 = some (.tup (l.levels.map levelD)) := rfl
  refine run_eq (fun _ => rfl) ?_
  simp [b_policy_fits, ladderD, e1, between_ok]
  refine ⟨by omega, fun _ _ => ⟨by omega, ?_⟩⟩
  refine lcE levelD D.bl (fun _ => true) l.levels (fun s hs => ?_) ?_
  · obtain ⟨k1, k2, k3⟩ := g3 s hs
    have k4 : s.2 ≤ 1000 := by omega
    simp [C1_policy_fits, levelD, strsD, between_ok, k1, k2, k4]
  · rw [all_true_ok _ (trues _)]
    simp
theorem is_value_ok (w : List Nat) (h : Val w) : m_is_value [.str w] = some (.bl true) := by
  have hz := line_big
  obtain ⟨h1, h2, h3⟩ := h
  have h4 : ¬ (20 < (w.length : Int)) := by omega
  refine run_eq (fun _ => rfl) ?_
  simp [b_is_value, h1, h4]
  refine ⟨by omega, ?_⟩
  refine ok_each (fun c : Nat => D.str [c]) w (fun _ ρ => ∃ s, ρ = [.fz (.str w), s]) ⟨_, rfl⟩ ?_ ?_
  · rintro j x ρ hx ⟨s, rfl⟩
    refine ⟨_, rfl, ?_⟩
    have hx := List.all_eq_true.mp h3 x (List.mem_of_getElem? hx)
    have hx : x ∈ lit "abcdefghijklmnopqrstuvwxyz0123456789_" := of_decide_eq_true hx
    simp [L1_is_value, hx]
  · rintro ρ ⟨s, rfl⟩
    simp
theorem is_name_ok (w : List Nat) (h : Nam w) : m_is_name [.str w] = some (.bl true) := by
  obtain ⟨h1, h2, h3⟩ := h
  have e := is_value_ok w h1
  cases w with
  | nil => exact absurd rfl h1.1
  | cons c w =>
    have hc : c ∈ lit "abcdefghijklmnopqrstuvwxyz" := of_decide_eq_true h2
    refine run_eq (fun _ => rfl) ?_
    have hl : w.length + 1 ≤ 20 := h1.2.1
    have hz := line_big
    have e0 : atI (c :: w) 0 = some c := by
      have := atI_in (xs := c :: w) (i := 0) (by omega) (by simp) 0
      exact this
    simp [b_is_name, e, e0]
    exact ⟨by omega, hc⟩
theorem label_fits_ok (w : List Nat) (h : Nam w) : m_label_fits [.str w] = some (.bl true) := by
  have e := is_name_ok w h
  have h3 := h.2.2
  refine run_eq (fun _ => rfl) ?_
  simp [b_label_fits, e, h3]
theorem matcher_fits_ok (names worths : List (List Nat)) (hn : ∀ w ∈ names, Nam w) (hw : ∀ w ∈ worths, Val w) (m : Mat) (g : GMat names worths m) : m_matcher_fits [matD m] = some (.bl true) := by
  have hz := line_big
  obtain ⟨g1, g2, g3, g4⟩ := g
  have hl : 1 ≤ m.vals.length := List.length_pos_iff.mpr g2
  have e1 : dSlice (.tup [D.str m.name, D.tup (m.vals.map D.str), D.bl m.inside]) none (some 2) = some (.tup [D.str m.name, D.tup (m.vals.map D.str)]) := rfl
  refine run_eq (fun _ => rfl) ?_
  simp [b_matcher_fits, matD, e1, label_fits_ok m.name (hn _ g1), between_ok]
  refine ⟨by omega, fun _ _ => ⟨by omega, ?_⟩⟩
  refine lcE D.str D.bl (fun _ => true) m.vals (fun s hs => ?_) ?_
  · rcases g4 s hs with h | h
    · have hv := hw s h
      have hne : s ≠ [] := hv.1
      simp [C1_matcher_fits, is_value_ok s hv, hne]
    · subst h
      simp [C1_matcher_fits]
  · rw [all_true_ok _ (trues _)]
    simp
theorem matchers_fit_ok (names worths : List (List Nat)) (hn : ∀ w ∈ names, Nam w) (hw : ∀ w ∈ worths, Val w) (ms : List Mat) (hl : ms.length ≤ 2) (g : ∀ m ∈ ms, GMat names worths m) : m_matchers_fit [.tup (ms.map matD)] = some (.bl true) := by
  have hz := line_big
  have h6 : (ms.length : Int) ≤ 6 := by omega
  refine run_eq (fun _ => rfl) ?_
  simp [b_matchers_fit, h6]
  refine ⟨by omega, ?_⟩
  refine lcE matD D.bl (fun _ => true) ms (fun s hs => ?_) ?_
  · simp [C1_matchers_fit, matcher_fits_ok names worths hn hw s (g s hs)]
  · rw [all_true_ok _ (trues _)]
    simp
theorem labels_fit_ok (ws : List (List Nat)) (hl : ws.length ≤ 2) (g : ∀ w ∈ ws, Nam w) : m_labels_fit [.tup (ws.map D.str)] = some (.bl true) := by
  have hz := line_big
  have h6 : (ws.length : Int) ≤ 6 := by omega
  refine run_eq (fun _ => rfl) ?_
  simp [b_labels_fit, h6]
  refine ⟨by omega, ?_⟩
  refine lcE D.str D.bl (fun _ => true) ws (fun s hs => ?_) ?_
  · simp [C1_labels_fit, label_fits_ok s (g s hs)]
  · rw [all_true_ok _ (trues _)]
    simp
theorem mem_from {names : List (List Nat)} (hn : names ≠ []) {k n : Nat} {w : List Nat} (h : w ∈ namesFrom names k n) : w ∈ names := by
  obtain ⟨j, _, rfl⟩ := List.mem_map.mp h
  have u2 : (k + j) % names.length < names.length := Nat.mod_lt _ (List.length_pos_iff.mpr hn)
  rw [List.getD_eq_getElem?_getD, List.getElem?_eq_getElem u2]
  exact List.getElem_mem u2
theorem holdback_fits_ok (names worths : List (List Nat)) (h0 : names ≠ []) (hn : ∀ w ∈ names, Nam w) (hw : ∀ w ∈ worths, Val w) (h : Hold) (g : GHold names worths h) : m_holdback_fits [holdD h] = some (.bl true) := by
  obtain ⟨g1, g2, g3, g4, k, n, hk, g5⟩ := g
  have e1 := matchers_fit_ok names worths hn hw h.source (by omega) g2
  have e2 := matchers_fit_ok names worths hn hw h.target (by omega) g4
  have e3 := labels_fit_ok h.equal (by rw [g5]; simp [namesFrom]; omega) (fun w z => hn w (mem_from h0 (g5 ▸ z)))
  refine run_eq (fun _ => rfl) ?_
  simp [b_holdback_fits, holdD, e1, e2, e3]
theorem settings_fit_ok (names ladders shutters : List (List Nat)) (hn : ∀ w ∈ names, Nam w) (hs : shutters.length ≤ 6) (s : Sett) (g : GSett names ladders shutters s) : m_settings_fit [strsD shutters, strsD ladders, settD s] = some (.bl true) := by
  have hz := line_big
  obtain ⟨g1, g2, g3, g4, g5, g6, g7, g8, g9, ⟨n, g10⟩, g11⟩ := g
  have e3 := labels_fit_ok s.group g1 (fun w z => hn w (g2 w z))
  have hm : s.mutes.length ≤ 6 := by rw [g10, List.length_take]; omega
  have hm' : (s.mutes.length : Int) ≤ 6 := by omega
  have u1 : s.wait ≤ 1000 := by omega
  have u2 : s.interval ≤ 1000 := by omega
  have u3 : s.again ≤ 1000 := by omega
  refine run_eq (fun _ => rfl) ?_
  simp [b_settings_fit, settD, strsD, e3, between_ok, g4, u1, g6, u2, g8, u3, hm', g11]
  refine ⟨by omega, ?_⟩
  refine lcE D.str D.bl (fun _ => true) s.mutes (fun x hx => ?_) ?_
  · have : x ∈ shutters := List.mem_of_mem_take (g10 ▸ hx)
    simp [C1_settings_fit, this]
  · rw [all_true_ok _ (trues _)]
    simp
theorem route_fits_ok (names worths ladders shutters : List (List Nat)) (hn : ∀ w ∈ names, Nam w) (hw : ∀ w ∈ worths, Val w) (hs : shutters.length ≤ 6) (place : Nat) (hp : place ≤ 10) (r : Route) (g : GRoute names worths ladders shutters place r) :
    m_route_fits [strsD shutters, strsD ladders, .int place, routeD r] = some (.bl true) := by
  have hz := line_big
  obtain ⟨g1, g2, g3, g4, g5⟩ := g
  have e1 := matchers_fit_ok names worths hn hw r.mats g3 g4
  have e2 := settings_fit_ok names ladders shutters hn hs r.sett g5
  obtain ⟨p, ms, st⟩ := r
  dsimp only at g1 g2 e1 e2
  refine run_eq (fun _ => rfl) ?_
  cases p with
  | none =>
    dsimp only at g1
    have := g2 g1
    subst g1
    subst this
    have e1 : m_matchers_fit [.tup []] = some (.bl true) := e1
    simp [b_route_fits, routeD, parD, e1, e2]
  | some k =>
    have g1 : k < place := g1
    have h0 : ¬ place = 0 := by omega
    have h1 : (0 : Int) ≤ (k : Int) := by omega
    have h2 : (k : Int) ≤ (place : Int) - 1 := by omega
    simp [b_route_fits, routeD, parD, e1, e2, h0, between_ok, h1, h2]
    all_goals omega
end G74

namespace G74
open PySem PySem.Spec PyProof.Rows L2 DL
/-! ### entries with names -/
theorem names_of_ok {α : Type} (enc : α → D) (name : α → List Nat) (hE : ∀ x, dItem (enc x) (.int 0) = some (.str (name x))) (xs : List α) (hl : xs.length ≤ 100) : m_names_of [.lst (xs.map enc)] = some (strsD (xs.map name)) := by
  have hz := line_big
  refine run_eq (fun _ => rfl) ?_
  simp [b_names_of]
  refine ⟨by omega, ?_⟩
  refine lcE enc D.str name xs (fun s hs => ?_) ?_
  · simp [C1_names_of, hE]
  · simp [strsD]
theorem is_new_name_ok {α : Type} (enc : α → D) (name : α → List Nat) (hE : ∀ x, dItem (enc x) (.int 0) = some (.str (name x))) (xs : List α) (hl : xs.length ≤ 100) (hN : ∀ x ∈ xs, Nam (name x)) (hd : (xs.map name).Nodup) (k : Nat) (hk : k < xs.length) :
    m_is_new_name [.lst (xs.map enc), .int k] = some (.bl true) := by
  have hz := line_big
  obtain ⟨x, e1, e2⟩ := atI_mem (xs := xs) (i := (k : Int)) (by omega) (by omega)
  have e3 := is_name_ok (name x) (hN x e2)
  have e4 := names_of_ok enc name hE (xs.take k) (by rw [List.length_take]; omega)
  have ec : cutG (xs.map enc) none (some (k : Int)) = (xs.take k).map enc := by
    rw [cutG_map, cut_take (by omega)]; rfl
  refine run_eq (fun _ => rfl) ?_
  simp [b_is_new_name, atI_map, e1, hE, e3]
  rw [ec, e4]
  have ek : atI xs (k : Int) = some xs[k] := by
    have := atI_in (xs := xs) (i := (k : Int)) (by omega) (by omega) x
    rw [this, Int.toNat_natCast, List.getD_eq_getElem?_getD, List.getElem?_eq_getElem hk]; rfl
  have ex : x = xs[k] := Option.some.inj (e1.symm.trans ek)
  have nm : name x ∉ (xs.take k).map name := by
    intro hm
    rw [ex] at hm
    rw [List.map_take] at hm
    obtain ⟨i, hi, e⟩ := List.mem_take_iff_getElem.mp hm
    have hik : i < k := by omega
    have p := List.pairwise_iff_getElem.mp hd i k (by simp; omega) (by simpa using hk) hik
    apply p
    rw [e, List.getElem_map]
  generalize (xs.take k).map name = ws at nm
  simp [strsD, nm]
theorem require_ok (w : List Nat) (bs : List Bool) (h : ∀ b ∈ bs, b = true) (hl : bs.length ≤ 100) : m_require [.str w, .lst (bs.map D.bl)] = some .non := by
  have hz := line_big
  refine run_eq (fun _ => rfl) ?_
  simp [b_require]
  refine ok_loop (fun _ ρ => ∃ s1 s2, ρ = [.fz (.str w), .fz (.lst (bs.map D.bl)), s1, s2]) (enumD 0 (bs.map D.bl)) 0 _ ⟨_, _, rfl⟩ ?_ ?_
  · rintro j d ρ hx ⟨s1, s2, rfl⟩
    obtain ⟨x, h1, rfl⟩ := enumD_at hx
    rw [List.getElem?_map] at h1
    obtain ⟨b, h3, rfl⟩ := Option.map_eq_some_iff.mp h1
    have := h b (List.mem_of_getElem? h3)
    subst this
    refine ⟨_, rfl, ?_⟩
    simp [L1_require]
  · rintro ρ ⟨s1, s2, rfl⟩
    simp
end G74

namespace G74
open PySem PySem.Spec PyProof.Rows L2 DL
/-! ### the object of a setup -/
structure Made where
  week : Int
  people : List (List Nat × Int)
  schedules : List Rota
  policies : List Ladder
  windows : List Shutter
  routes : List Route
  holdbacks : List Hold
  replicas : Int
  pause : Int
  down : Int
def personD (p : List Nat × Int) : D := .tup [.str p.1, .int p.2]
def madeF (m : Made) : Fds := [("week", D.int m.week), ("people", D.lst (m.people.map personD)), ("schedules", D.lst (m.schedules.map rotaD)), ("policies", D.lst (m.policies.map ladderD)), ("windows", D.lst (m.windows.map shutterD)), ("routes", D.lst (m.routes.map routeD)), ("holdbacks", D.lst (m.holdbacks.map holdD)), ("groups", D.lst []), ("replicas", D.int m.replicas), ("pause", D.int m.pause), ("down", D.int m.down), ("store", D.tup [D.int 0, D.int 10, D.int 2, D.int 0]), ("lookback", D.int 5)]
def madeD (m : Made) : D := .obj "Setup" (madeF m)
theorem made_ok (m : Made) : m_Setup [.int m.week, .lst (m.people.map personD), .lst (m.schedules.map rotaD), .lst (m.policies.map ladderD), .lst (m.windows.map shutterD), .lst (m.routes.map routeD), .lst (m.holdbacks.map holdD), .lst [], .tup [.int m.replicas, .int m.pause, .int m.down, .tup [.int 0, .int 10, .int 2, .int 0], .int 5]] = some (madeF m) := by
  rfl
theorem fld_week (m : Made) : dFld "Setup" "week" (madeD m) = some (.int m.week) := rfl
theorem fld_people (m : Made) : dFld "Setup" "people" (madeD m) = some (.lst (m.people.map personD)) := rfl
theorem fld_schedules (m : Made) : dFld "Setup" "schedules" (madeD m) = some (.lst (m.schedules.map rotaD)) := rfl
theorem fld_policies (m : Made) : dFld "Setup" "policies" (madeD m) = some (.lst (m.policies.map ladderD)) := rfl
theorem fld_windows (m : Made) : dFld "Setup" "windows" (madeD m) = some (.lst (m.windows.map shutterD)) := rfl
theorem fld_routes (m : Made) : dFld "Setup" "routes" (madeD m) = some (.lst (m.routes.map routeD)) := rfl
theorem fld_holdbacks (m : Made) : dFld "Setup" "holdbacks" (madeD m) = some (.lst (m.holdbacks.map holdD)) := rfl
theorem fld_groups (m : Made) : dFld "Setup" "groups" (madeD m) = some (.lst []) := rfl
theorem fld_replicas (m : Made) : dFld "Setup" "replicas" (madeD m) = some (.int m.replicas) := rfl
theorem fld_pause (m : Made) : dFld "Setup" "pause" (madeD m) = some (.int m.pause) := rfl
theorem fld_down (m : Made) : dFld "Setup" "down" (madeD m) = some (.int m.down) := rfl
theorem fld_store (m : Made) : dFld "Setup" "store" (madeD m) = some (.tup [.int 0, .int 10, .int 2, .int 0]) := rfl
theorem fld_lookback (m : Made) : dFld "Setup" "lookback" (madeD m) = some (.int 5) := rfl
end G74

namespace G74
open PySem PySem.Spec PyProof.Rows L2 DL
/-! ### a setup that is in order -/
structure GMade (m : Made) (names worths : List (List Nat)) : Prop where
  w1 : 2 ≤ m.week
  w2 : m.week ≤ 24
  p0 : m.people ≠ []
  pl : m.people.length ≤ 4
  pN : ∀ p ∈ m.people, Nam p.1
  pd : (m.people.map Prod.fst).Nodup
  pc : ∀ p ∈ m.people, 0 ≤ p.2 ∧ p.2 ≤ 3
  s0 : m.schedules ≠ []
  sl : m.schedules.length ≤ 2
  sN : ∀ p ∈ m.schedules, Nam p.name
  sd : (m.schedules.map Rota.name).Nodup
  sg : ∀ p ∈ m.schedules, GRota (m.people.map Prod.fst) m.week p
  o0 : m.policies ≠ []
  ol : m.policies.length ≤ 2
  oN : ∀ p ∈ m.policies, Nam p.name
  od : (m.policies.map Ladder.name).Nodup
  og : ∀ p ∈ m.policies, GLadder (m.schedules.map Rota.name) p
  wl : m.windows.length ≤ 2
  wN : ∀ p ∈ m.windows, Nam p.name
  wd : (m.windows.map Shutter.name).Nodup
  wg : ∀ p ∈ m.windows, GShutter m.week p
  r0 : m.routes ≠ []
  rl : m.routes.length ≤ 4
  rg : ∀ (k : Nat) (r : Route), m.routes[k]? = some r → GRoute names worths (m.policies.map Ladder.name) (m.windows.map Shutter.name) k r
  hl : m.holdbacks.length ≤ 2
  hg : ∀ p ∈ m.holdbacks, GHold names worths p
  a1 : 1 ≤ m.replicas
  a2 : m.replicas ≤ 3
  b1 : 0 ≤ m.pause
  b2 : m.pause ≤ 3
  d1 : 0 ≤ m.down
  d2 : m.down ≤ 2
  nl : names.length = 3
  nN : ∀ w ∈ names, Nam w
  nd : names.Nodup
  vl : worths.length = 3
  vN : ∀ w ∈ worths, Val w
theorem GMade.n0 {m : Made} {names worths : List (List Nat)} (g : GMade m names worths) : names ≠ [] := fun h => by have := g.nl; rw [h] at this; cases this
theorem person_0 (x : List Nat × Int) : dItem (personD x) (.int 0) = some (.str x.1) := rfl
theorem rota_0 (x : Rota) : dItem (rotaD x) (.int 0) = some (.str x.name) := rfl
theorem ladder_0 (x : Ladder) : dItem (ladderD x) (.int 0) = some (.str x.name) := rfl
theorem shutter_0 (x : Shutter) : dItem (shutterD x) (.int 0) = some (.str x.name) := rfl
theorem person_1 (x : List Nat × Int) : dItem (personD x) (.int 1) = some (.int x.2) := rfl
theorem bl_snoc {bs : List Bool} {b : Bool} : bs.map D.bl ++ [D.bl b] = (bs ++ [b]).map D.bl := by rw [List.map_append]; rfl
theorem all_snoc {bs : List Bool} (h : ∀ b ∈ bs, b = true) : ∀ b ∈ bs ++ [true], b = true := fun b hb => by
  rcases List.mem_append.mp hb with z | z
  · exact h b z
  · exact List.mem_singleton.mp z
theorem nf_snoc {bs : List Bool} (h : ∀ b ∈ bs, b = true) : ¬ false ∈ bs ++ [true] := fun hb => by cases all_snoc h false hb
theorem getI {α : Type} {xs : List α} {j : Nat} {x : α} (h : xs[j]? = some x) : j < xs.length ∧ x ∈ xs := ⟨(List.getElem?_eq_some_iff.mp h).1, List.mem_of_getElem? h⟩
section
variable {m : Made} {names worths : List (List Nat)}
theorem check_people_ok (g : GMade m names worths) : m_check_people [madeD m] = some .non := by
  have hz := line_big
  obtain ⟨w1, w2, pl, sl⟩ : _ ∧ _ ∧ _ ∧ _ := ⟨g.w1, g.w2, g.pl, g.sl⟩
  have v1 : 1 ≤ m.week := by omega
  have v2 : m.week ≤ 2000 := by omega
  have r0 : m_require [.str (lit "week"), .lst [.bl true]] = some .non := require_ok _ [true] (by simp) (by decide)
  refine run_eq (fun _ => rfl) ?_
  simp [b_check_people, fld_week, fld_people, between_ok, v1, v2, r0]
  refine ok_loop (fun j ρ => ∃ (bs : List Bool) (s2 s3 : Sl), ρ = [.fz (madeD m), .ow (.lst (bs.map D.bl)), s2, s3, .no, .no] ∧ bs.length = j ∧ ∀ b ∈ bs, b = true) _ 0 _ ⟨[], _, _, rfl, rfl, by simp⟩ ?_ ?_
  · rintro j d ρ hx ⟨bs, s2, s3, rfl, h1, h2⟩
    obtain ⟨x, h3, rfl⟩ := enumD_at hx
    rw [List.getElem?_map] at h3
    obtain ⟨p, h4, rfl⟩ := Option.map_eq_some_iff.mp h3
    obtain ⟨h5, h6⟩ := getI h4
    refine ⟨_, rfl, ?_⟩
    have n1 := is_new_name_ok personD Prod.fst person_0 m.people (by omega) g.pN g.pd j h5
    obtain ⟨c1, c2⟩ := g.pc p h6
    have c3 : p.2 ≤ 20 := by omega
    simp [L1_check_people, fld_people, n1, person_1, between_ok, c1, c3]
    exact ⟨by omega, bs ++ [true], bl_snoc, by simp; omega, nf_snoc h2⟩
  · rintro ρ ⟨bs, s2, s3, rfl, h1, h2⟩
    have h1 : bs.length = m.people.length := by rw [h1, Nat.zero_add, enumD_len, List.length_map]
    have r1 := require_ok (lit "people") bs h2 (by omega)
    have n2 := names_of_ok personD Prod.fst person_0 m.people (by omega)
    simp [r1, fld_people, n2, fld_schedules]
    refine ok_loop (fun j ρ => ∃ (bs : List Bool) (s2 s3 s5 : Sl), ρ = [.fz (madeD m), .ow (.lst (bs.map D.bl)), s2, s3, .fz (strsD (m.people.map Prod.fst)), s5] ∧ bs.length = j ∧ ∀ b ∈ bs, b = true) _ 0 _ ⟨[], _, _, _, rfl, rfl, by simp⟩ ?_ ?_
    · rintro j d ρ hx ⟨bs, s2, s3, s5, rfl, h1, h2⟩
      obtain ⟨x, h3, rfl⟩ := enumD_at hx
      rw [List.getElem?_map] at h3
      obtain ⟨p, h4, rfl⟩ := Option.map_eq_some_iff.mp h3
      obtain ⟨h5, h6⟩ := getI h4
      refine ⟨_, rfl, ?_⟩
      have n1 := is_new_name_ok rotaD Rota.name rota_0 m.schedules (by omega) g.sN g.sd j h5
      have f1 := schedule_fits_ok m.week _ p (g.sg p h6)
      simp [L2_check_people, fld_schedules, fld_week, n1, f1]
      exact ⟨by omega, bs ++ [true], bl_snoc, by simp; omega, nf_snoc h2⟩
    · rintro ρ ⟨bs, s2, s3, s5, rfl, h1, h2⟩
      have h1 : bs.length = m.schedules.length := by rw [h1, Nat.zero_add, enumD_len, List.length_map]
      have r1 := require_ok (lit "schedules") bs h2 (by omega)
      simp [r1]
theorem check_routes_ok (g : GMade m names worths) : m_check_routes [madeD m] = some .non := by
  have hz := line_big
  obtain ⟨sl, ol, wl, rl, hl⟩ : _ ∧ _ ∧ _ ∧ _ ∧ _ := ⟨g.sl, g.ol, g.wl, g.rl, g.hl⟩
  have n1 := names_of_ok rotaD Rota.name rota_0 m.schedules (by omega)
  have n2 := names_of_ok ladderD Ladder.name ladder_0 m.policies (by omega)
  have n3 := names_of_ok shutterD Shutter.name shutter_0 m.windows (by omega)
  refine run_eq (fun _ => rfl) ?_
  simp [b_check_routes, fld_schedules, fld_policies, n1]
  refine ok_loop (fun j ρ => ∃ (bs : List Bool) (s3 s4 : Sl), ρ = [.fz (madeD m), .fz (strsD (m.schedules.map Rota.name)), .ow (.lst (bs.map D.bl)), s3, s4, .no, .no, .no, .no, .no] ∧ bs.length = j ∧ ∀ b ∈ bs, b = true) _ 0 _ ⟨[], _, _, rfl, rfl, by simp⟩ ?_ ?_
  · rintro j d ρ hx ⟨bs, s3, s4, rfl, h1, h2⟩
    obtain ⟨x, h3, rfl⟩ := enumD_at hx
    rw [List.getElem?_map] at h3
    obtain ⟨p, h4, rfl⟩ := Option.map_eq_some_iff.mp h3
    obtain ⟨h5, h6⟩ := getI h4
    refine ⟨_, rfl, ?_⟩
    have k1 := is_new_name_ok ladderD Ladder.name ladder_0 m.policies (by omega) g.oN g.od j h5
    have f1 := policy_fits_ok _ p (g.og p h6)
    simp [L1_check_routes, fld_policies, k1, f1]
    exact ⟨by omega, bs ++ [true], bl_snoc, by simp; omega, nf_snoc h2⟩
  · rintro ρ ⟨bs, s3, s4, rfl, h1, h2⟩
    have h1 : bs.length = m.policies.length := by rw [h1, Nat.zero_add, enumD_len, List.length_map]
    have r1 := require_ok (lit "policies") bs h2 (by omega)
    simp [r1, fld_windows]
    refine ok_loop (fun j ρ => ∃ (bs : List Bool) (s3 s5 : Sl), ρ = [.fz (madeD m), .fz (strsD (m.schedules.map Rota.name)), .ow (.lst (bs.map D.bl)), s3, s4, s5, .no, .no, .no, .no] ∧ bs.length = j ∧ ∀ b ∈ bs, b = true) _ 0 _ ⟨[], _, _, rfl, rfl, by simp⟩ ?_ ?_
    · rintro j d ρ hx ⟨bs, s3, s5, rfl, h1, h2⟩
      obtain ⟨x, h3, rfl⟩ := enumD_at hx
      rw [List.getElem?_map] at h3
      obtain ⟨p, h4, rfl⟩ := Option.map_eq_some_iff.mp h3
      obtain ⟨h5, h6⟩ := getI h4
      refine ⟨_, rfl, ?_⟩
      have k1 := is_new_name_ok shutterD Shutter.name shutter_0 m.windows (by omega) g.wN g.wd j h5
      have f1 := window_fits_ok m.week p (g.wg p h6)
      simp [L2_check_routes, fld_windows, fld_week, k1, f1]
      exact ⟨by omega, bs ++ [true], bl_snoc, by simp; omega, nf_snoc h2⟩
    · rintro ρ ⟨bs, s3, s5, rfl, h1, h2⟩
      have h1 : bs.length = m.windows.length := by rw [h1, Nat.zero_add, enumD_len, List.length_map]
      have r1 := require_ok (lit "windows") bs h2 (by omega)
      have r0 := g.r0
      simp [r1, fld_routes, r0, fld_windows, fld_policies, n2, n3]
      refine ok_loop (fun j ρ => ∃ (bs : List Bool) (s3 s8 : Sl), ρ = [.fz (madeD m), .fz (strsD (m.schedules.map Rota.name)), .ow (.lst (bs.map D.bl)), s3, s4, s5, .fz (strsD (m.windows.map Shutter.name)), .fz (strsD (m.policies.map Ladder.name)), s8, .no] ∧ bs.length = j ∧ ∀ b ∈ bs, b = true) _ 0 _ ⟨[], _, _, rfl, rfl, by simp⟩ ?_ ?_
      · rintro j d ρ hx ⟨bs, s3, s8, rfl, h1, h2⟩
        obtain ⟨x, h3, rfl⟩ := enumD_at hx
        rw [List.getElem?_map] at h3
        obtain ⟨p, h4, rfl⟩ := Option.map_eq_some_iff.mp h3
        obtain ⟨h5, h6⟩ := getI h4
        refine ⟨_, rfl, ?_⟩
        have f1 := route_fits_ok names worths (m.policies.map Ladder.name) (m.windows.map Shutter.name) g.nN g.vN (by simp; omega) j (by omega) p (g.rg j p h4)
        have j30 : (j : Int) < 30 := by omega
        simp [L3_check_routes, j30, f1]
        exact ⟨by omega, bs ++ [true], bl_snoc, by simp; omega, nf_snoc h2⟩
      · rintro ρ ⟨bs, s3, s8, rfl, h1, h2⟩
        have h1 : bs.length = m.routes.length := by rw [h1, Nat.zero_add, enumD_len, List.length_map]
        have r1 := require_ok (lit "routes") bs h2 (by omega)
        simp [r1, fld_holdbacks]
        have el : (enumD 0 (m.holdbacks.map holdD)).length = m.holdbacks.length := by rw [enumD_len, List.length_map]
        refine ⟨by rw [el]; omega, ?_⟩
        have hm := lcD_map (p := fun _ => some true) (f := C1_check_routes) (h := gT (gsC (gN 3) (gsC (gN 9) gsN))) (ρ := [.fz (madeD m), .fz (strsD (m.schedules.map Rota.name)), .fz (.lst (bs.map D.bl)), .no, s4, s5, .fz (strsD (m.windows.map Shutter.name)), .fz (strsD (m.policies.map Ladder.name)), s8, .no]) (fun _ => .bl true) (enumD 0 (m.holdbacks.map holdD)) (fun d hd => ?_)
        · rw [hm]
          have r2 := require_ok (lit "holdbacks") ((enumD 0 (m.holdbacks.map holdD)).map fun _ => true) (trues _) (by rw [List.length_map, el]; omega)
          rw [List.map_map] at r2
          simp
          exact ⟨_, r2, trivial⟩
        · obtain ⟨j, hj, e⟩ := List.getElem_of_mem hd
          have hj2 : j < m.holdbacks.length := by omega
          obtain ⟨x, h3, rfl⟩ := enumD_at (List.getElem?_eq_some_iff.mpr ⟨hj, e⟩)
          rw [List.getElem?_map] at h3
          obtain ⟨p, h4, rfl⟩ := Option.map_eq_some_iff.mp h3
          have f1 := holdback_fits_ok names worths g.n0 g.nN g.vN p (g.hg p (getI h4).2)
          have j10 : (j : Int) < 10 := by omega
          refine ⟨_, rfl, rfl, ev_eq.mp ?_⟩
          simp [C1_check_routes, j10, f1]
theorem check_rest_ok (g : GMade m names worths) : m_check_rest [madeD m] = some .non := by
  obtain ⟨a1, a2, b1, b2, d1, d2⟩ : _ ∧ _ ∧ _ ∧ _ ∧ _ ∧ _ := ⟨g.a1, g.a2, g.b1, g.b2, g.d1, g.d2⟩
  have a3 : m.replicas ≤ 5 := by omega
  have b3 : m.pause ≤ 1000 := by omega
  have d3 : m.down ≤ 20 := by omega
  have rr := fun w => require_ok w [true] (by simp) (by decide)
  have rr : ∀ w, m_require [.str w, .lst [.bl true]] = some .non := rr
  have r0 : m_require [.str (lit "groups"), .lst []] = some .non := require_ok _ [] (by simp) (by decide)
  have st : m_store_fits [.tup [.int 0, .int 10, .int 2, .int 0]] = some (.bl true) := by
    refine run_eq (fun _ => rfl) ?_
    simp [b_store_fits, between_ok]
  refine run_eq (fun _ => rfl) ?_
  simp [b_check_rest, fld_groups, enumD, loopD, r0, rr, fld_replicas, fld_pause, fld_down, fld_store, fld_lookback, between_ok, a1, a3, b1, b3, d1, d3, st]
theorem setup_ok (g : GMade m names worths) : m_setup [.int m.week, .lst (m.people.map personD), .lst (m.schedules.map rotaD), .lst (m.policies.map ladderD), .lst (m.windows.map shutterD), .lst (m.routes.map routeD), .lst (m.holdbacks.map holdD), .lst [], .int m.replicas, .int m.pause, .int m.down, .tup [.int 0, .int 10, .int 2, .int 0], .int 5] = some (madeD m) := by
  have e : D.obj "Setup" (madeF m) = madeD m := rfl
  refine run_eq (fun _ => rfl) ?_
  simp [b_setup, made_ok, e, check_people_ok g, check_routes_ok g, check_rest_ok g]
theorem law_setup_ok (g : GMade m names worths) : m__law_setup [.int m.week, .lst (m.people.map personD), .lst (m.schedules.map rotaD), .lst (m.policies.map ladderD), .lst (m.windows.map shutterD), .lst (m.routes.map routeD), .lst (m.holdbacks.map holdD), .lst [], .lst [.int m.replicas, .int m.pause, .int m.down, .int 5]] = some (madeD m) := by
  have e := setup_ok g
  refine run_eq (fun _ => rfl) ?_
  simp [b__law_setup, atI_0, atI_1, atI_2, atI_3, g_setup, e]
end
end G74

namespace G74
open PySem PySem.Spec PyProof.Rows L2 DL
/-! ### the world of a script -/
theorem lcD_zip {α β : Type} {ρ : Reg} {p : Reg → Option Bool} {f : Reg → Option D} {h : D → Reg → Option Reg} (enc : α → D) (enc' : β → D) (P : α → β → Prop) : ∀ (xs : List α), (∀ x ∈ xs, Ev (h (enc x) ρ) fun ρ1 => Ev (p ρ1) fun b => b = true ∧ Ev (f ρ1) fun d => ∃ y, d = enc' y ∧ P x y) →
    Ev (lcD h p f ρ (xs.map enc)) fun ys => ∃ zs : List β, ys = zs.map enc' ∧ zs.length = xs.length ∧ ∀ (k : Nat) (x : α) (z : β), xs[k]? = some x → zs[k]? = some z → P x z
  | [], _ => ⟨[], rfl, [], rfl, rfl, fun k x z h _ => by cases h⟩
  | x :: xs, st => by
    obtain ⟨ρ1, e1, _, e2, rfl, d, e3, y, rfl, py⟩ := st x List.mem_cons_self
    obtain ⟨ys, e4, zs, rfl, h1, h2⟩ := lcD_zip enc enc' P xs fun x' hx => st x' (List.mem_cons_of_mem _ hx)
    refine ⟨enc' y :: zs.map enc', ?_, y :: zs, rfl, by rw [List.length_cons, List.length_cons, h1], fun k x' z hx hz => ?_⟩
    · rw [List.map_cons]
      unfold lcD
      rw [e1]
      simp only [Option.bind_some, e2, if_true, e3, e4]
    · cases k with
      | zero => cases hx; cases hz; exact py
      | succ k => exact h2 k x' z hx hz
theorem lcZ {α β : Type} {ρ : Reg} {p : Reg → Option Bool} {f : Reg → Option D} {h : D → Reg → Option Reg} {K : List D → Prop} (enc : α → D) (enc' : β → D) (P : α → β → Prop) (xs : List α) (st : ∀ x ∈ xs, Ev (h (enc x) ρ) fun ρ1 => Ev (p ρ1) fun b => b = true ∧ Ev (f ρ1) fun d => ∃ y, d = enc' y ∧ P x y)
    (k : ∀ zs : List β, zs.length = xs.length → (∀ (k : Nat) (x : α) (z : β), xs[k]? = some x → zs[k]? = some z → P x z) → K (zs.map enc')) : Ev (lcD h p f ρ (xs.map enc)) K :=
  (lcD_zip enc enc' P xs st).imp fun ys ⟨zs, e, l, q⟩ => e ▸ k zs l q
theorem range_at {n k x : Nat} (h : (List.range n)[k]? = some x) : x = k ∧ k < n := by
  obtain ⟨hk, e⟩ := List.getElem?_eq_some_iff.mp h
  simp at hk e
  exact ⟨e.symm, hk⟩
theorem wordsL_len (c : Int) (n : Nat) : (wordsL c n).length = n := by simp [wordsL]
theorem worthsL_len (c : Int) (n : Nat) : (worthsL c n).length = n := by simp [worthsL]
theorem map_getD {α : Type} (xs : List α) (a : α) (n : Nat) (h : n ≤ xs.length) : (List.range n).map (fun k => xs.getD k a) = xs.take n := by
  apply List.ext_getElem
  · simp; omega
  · intro i h1 h2
    simp at h1
    have : i < xs.length := by omega
    simp [List.getElem_take, List.getD_eq_getElem?_getD, this]
theorem map_getD2 {α : Type} (xs : List α) (a : α) (n m : Nat) (h : m + n ≤ xs.length) : (List.range n).map (fun k => xs.getD (m + k) a) = (xs.drop m).take n := by
  apply List.ext_getElem
  · simp; omega
  · intro i h1 h2
    simp at h1
    have : m + i < xs.length := by omega
    simp [List.getElem_take, List.getD_eq_getElem?_getD, this]
theorem zs_names {β : Type} {n : Nat} {zs : List β} (nm : β → List Nat) (g : Nat → List Nat) (hl : zs.length = n) (h : ∀ (k : Nat) (z : β), k < n → zs[k]? = some z → nm z = g k) : zs.map nm = (List.range n).map g := by
  apply List.ext_getElem
  · simp [hl]
  · intro i h1 h2
    simp at h1 h2
    simp
    exact h i _ h2 (List.getElem?_eq_getElem h1)
theorem cell_okS (ns : List Int) (a k : Nat) : m__law_cell [.lst (ns.map D.int), .int ((a : Int) + (k : Int))] = some (.int (ns.getD (a + k) 0)) := by
  have := cell_ok ns (a + k)
  rwa [show ((a + k : Nat) : Int) = (a : Int) + (k : Int) by omega] at this
theorem getD_mem' {α : Type} {xs : List α} {k : Nat} {a : α} (h : k < xs.length) : xs.getD k a ∈ xs := by
  rw [List.getD_eq_getElem?_getD, List.getElem?_eq_getElem h]
  exact List.getElem_mem h
theorem atI_str {xs : List (List Nat)} {i : Int} (h0 : 0 ≤ i) (h1 : i < xs.length) : atI (xs.map D.str) i = some (.str (xs.getD i.toNat [])) := by
  rw [atI_map, atI_in h0 h1 []]
  rfl
theorem world_ex (ns : List Int) : Ev (m__law_world [.lst (ns.map D.int)]) fun d => ∃ m names worths, d = .lst [madeD m, strsD names, strsD worths] ∧ GMade m names worths := by
  have hz := line_big
  obtain ⟨W8, hW8⟩ : ∃ W8, W8 = wordsL (ns.getD 0 0) 8 := ⟨_, rfl⟩
  obtain ⟨names, hnames⟩ : ∃ names, names = wordsL (ns.getD 1 0) 3 := ⟨_, rfl⟩
  obtain ⟨worths, hworths⟩ : ∃ worths, worths = worthsL (ns.getD 1 0) 3 := ⟨_, rfl⟩
  have w8l : W8.length = 8 := by rw [hW8, wordsL_len]
  have w8N : ∀ w ∈ W8, Nam w := by rw [hW8]; exact words_nam _ _
  have w8d : W8.Nodup := by rw [hW8]; exact words_nodup _ _ (by omega)
  have nl : names.length = 3 := by rw [hnames, wordsL_len]
  have nN : ∀ w ∈ names, Nam w := by rw [hnames]; exact words_nam _ _
  have nd : names.Nodup := by rw [hnames]; exact words_nodup _ _ (by omega)
  have vl : worths.length = 3 := by rw [hworths, worthsL_len]
  have vN : ∀ w ∈ worths, Val w := by rw [hworths]; exact worths_val _ _
  have n0 : names ≠ [] := fun h => by rw [h] at nl; cases nl
  have ew : m__law_words [.int (ns.getD 0 0), .int 8] = some (strsD W8) := by rw [hW8]; exact words_ok _ 8 (by omega)
  have en : m__law_words [.int (ns.getD 1 0), .int 3] = some (strsD names) := by rw [hnames]; exact words_ok _ 3 (by omega)
  have ev : m__law_worths [.int (ns.getD 1 0), .int 3] = some (strsD worths) := by rw [hworths]; exact worths_ok _ 3 (by omega)
  clear hW8 hnames hworths
  have c0 : m__law_cell [.lst (ns.map D.int), .int 0] = some (.int (ns.getD 0 0)) := cell_ok ns 0
  have c1 : m__law_cell [.lst (ns.map D.int), .int 1] = some (.int (ns.getD 1 0)) := cell_ok ns 1
  have c2 : m__law_cell [.lst (ns.map D.int), .int 2] = some (.int (ns.getD 2 0)) := cell_ok ns 2
  have c5 : m__law_cell [.lst (ns.map D.int), .int 5] = some (.int (ns.getD 5 0)) := cell_ok ns 5
  have c6 : m__law_cell [.lst (ns.map D.int), .int 6] = some (.int (ns.getD 6 0)) := cell_ok ns 6
  have c11 : m__law_cell [.lst (ns.map D.int), .int 11] = some (.int (ns.getD 11 0)) := cell_ok ns 11
  have c3 : ∀ k : Nat, m__law_cell [.lst (ns.map D.int), .int (3 + (k : Int))] = some (.int (ns.getD (3 + k) 0)) := cell_okS ns 3
  have c7 : ∀ k : Nat, m__law_cell [.lst (ns.map D.int), .int (7 + (k : Int))] = some (.int (ns.getD (7 + k) 0)) := cell_okS ns 7
  generalize ns.getD 0 0 = x0 at *
  generalize ns.getD 1 0 = x1 at *
  generalize ns.getD 2 0 = x2 at *
  generalize ns.getD 5 0 = x5 at *
  generalize ns.getD 6 0 = x6 at *
  generalize ns.getD 11 0 = x11 at *
  obtain ⟨ed, hl, hs⟩ := draws_spec x2 16 (by decide)
  have ed : m__law_draws [.int x2, .int 16] = _ := ed
  generalize drawsOf x2 16 = ds at ed hl hs
  obtain ⟨et, htl, hts⟩ := draws_spec x5 16 (by decide)
  have et : m__law_draws [.int x5, .int 16] = _ := et
  generalize drawsOf x5 16 = ts at et htl hts
  obtain ⟨eb, hbl, hbs⟩ := draws_spec x6 12 (by decide)
  have eb : m__law_draws [.int x6, .int 12] = _ := eb
  generalize drawsOf x6 12 = bs at eb hbl hbs
  obtain ⟨d0, a0, p0, q0⟩ := small_at (k := 0) hs (by omega) (by omega)
  obtain ⟨d5, a5, p5, q5⟩ := small_at (k := 5) hs (by omega) (by omega)
  obtain ⟨d6, a6, p6, q6⟩ := small_at (k := 6) hs (by omega) (by omega)
  obtain ⟨d7, a7, p7, q7⟩ := small_at (k := 7) hs (by omega) (by omega)
  obtain ⟨d8, a8, p8, q8⟩ := small_at (k := 8) hs (by omega) (by omega)
  obtain ⟨d9, a9, p9, q9⟩ := small_at (k := 9) hs (by omega) (by omega)
  obtain ⟨d10, a10, p10, q10⟩ := small_at (k := 10) hs (by omega) (by omega)
  obtain ⟨d11, a11, p11, q11⟩ := small_at (k := 11) hs (by omega) (by omega)
  obtain ⟨d12, a12, p12, q12⟩ := small_at (k := 12) hs (by omega) (by omega)
  obtain ⟨W, hW⟩ : ∃ W, W = 2 + d0 % 23 := ⟨_, rfl⟩
  have w1 : 2 ≤ W := by omega
  have w2 : W ≤ 24 := by omega
  -- the staff
  obtain ⟨np, hnp⟩ : ∃ np, np = (1 + d5 % 4).toNat := ⟨_, rfl⟩
  obtain ⟨staff, hst⟩ : ∃ staff, staff = (List.range np).map fun k => (W8.getD k [], ds.getD (1 + k) 0 % 4) := ⟨_, rfl⟩
  have sl : staff.length = np := by rw [hst]; simp
  have sc : ∀ p ∈ staff, 0 ≤ p.2 ∧ p.2 ≤ 3 := fun p hp => by
    rw [hst] at hp
    obtain ⟨k, _, rfl⟩ := List.mem_map.mp hp
    exact ⟨by dsimp only; omega, by dsimp only; omega⟩
  have sn : staff.map Prod.fst = W8.take np := by
    rw [hst, List.map_map]
    exact map_getD W8 [] np (by omega)
  obtain ⟨crew, hcr⟩ : ∃ crew, crew = staff.map Prod.fst := ⟨_, rfl⟩
  have E1 : lcD (gN 6) (fun _ => some true) C1__law_world [.fz (.lst (ns.map D.int)), .fz (strsD W8), .fz (strsD names), .fz (strsD worths), .fz (.lst (ds.map D.int)), .fz (.int W), .no, .no, .no, .no, .no, .no, .no, .no, .no, .no, .no, .no, .no, .no, .no, .no] (rngL 0 np) = some (staff.map personD) := by
    refine ev_eq.mp ?_
    refine lcE (fun k : Nat => D.int (0 + (k : Nat))) personD (fun k => (W8.getD k [], ds.getD (1 + k) 0 % 4)) (List.range np) (fun k hk => ?_) (by rw [hst])
    have hk := List.mem_range.mp hk
    have e1 := atI_str (xs := W8) (i := (k : Int)) (by omega) (by omega)
    have e2 := atI_ints (xs := ds) (i := 1 + (k : Int)) (by omega) (by omega)
    rw [show (1 + (k : Int)).toNat = 1 + k by omega] at e2
    simp [C1__law_world, strsD, e1, e2, personD]
  have E2 : lcD (gN 19) (fun _ => some true) C2__law_world [.fz (.lst (ns.map D.int)), .fz (strsD W8), .fz (strsD names), .fz (strsD worths), .fz (.lst (ds.map D.int)), .fz (.int W), .no, .fz (.lst (staff.map personD)), .no, .no, .no, .no, .no, .no, .no, .no, .no, .no, .no, .no, .no, .no] (staff.map personD) = some ((crew).map D.str) := by
    refine ev_eq.mp ?_
    refine lcE personD D.str Prod.fst staff (fun k hk => ?_) (by rw [hcr])
    simp [C2__law_world, personD, atI_0]
  have crew0 : crew ≠ [] := fun h => by
    have := congrArg List.length h
    rw [hcr, List.length_map, sl] at this
    simp at this; omega
  clear hst
  -- the titles
  obtain ⟨nt, hnt⟩ : ∃ nt : Nat, nt = (1 + d6 % 2).toNat := ⟨_, rfl⟩
  obtain ⟨titles, hti⟩ : ∃ titles, titles = (W8.drop 4).take nt := ⟨_, rfl⟩
  have e4t : cutG (W8.map D.str) (some 4) (some (5 + d6 % 2)) = titles.map D.str := by
    have k1 : (0 : Int) ≤ 4 := by omega
    have k2 : (0 : Int) ≤ 5 + d6 % 2 := by omega
    have k3 : min (4 : Int).toNat W8.length = 4 := by omega
    have k4 : min (5 + d6 % 2).toNat W8.length - 4 = nt := by omega
    rw [cutG_map, cutG_nn k1 k2, k3, k4, hti]
  have tl : titles.length = nt := by rw [hti]; simp; omega
  have tm : ∀ w ∈ titles, w ∈ W8 := fun w h => by rw [hti] at h; exact List.mem_of_mem_drop (List.mem_of_mem_take h)
  have td : titles.Nodup := by rw [hti]; exact (w8d.sublist (List.drop_sublist _ _)).sublist (List.take_sublist _ _)
  clear hti
  have t0 : titles ≠ [] := fun h => by rw [h] at tl; simp at tl; omega
  -- the rotas
  obtain ⟨_, E3, rotas, rfl, rn, rg⟩ : Ev (lcD (gN 6) (fun _ => some true) C3__law_world [.fz (.lst (ns.map D.int)), .fz (strsD W8), .fz (strsD names), .fz (strsD worths), .fz (.lst (ds.map D.int)), .fz (.int W), .no, .fz (.lst (staff.map personD)), .fz (strsD (crew)), .fz (strsD titles), .no, .no, .no, .no, .no, .no, .no, .no, .no, .no, .no, .no] (rngL 0 titles.length)) fun d => ∃ rotas : List Rota, d = rotas.map rotaD ∧ rotas.map Rota.name = titles ∧ ∀ r ∈ rotas, GRota (crew) W r := by
    refine lcZ (fun k : Nat => D.int (0 + (k : Nat))) rotaD (fun k r => r.name = titles.getD k [] ∧ GRota (crew) W r) (List.range titles.length) (fun k hk => ?_) (fun zs zl zq => ⟨zs, rfl, ?_, fun r hr => ?_⟩)
    · have hk := List.mem_range.mp hk
      have e1 := atI_str (xs := titles) (i := (k : Int)) (by omega) (by omega)
      obtain ⟨d, e2, r, rfl, g1, g2⟩ := rota_ex (ns.getD (3 + k) 0) (titles.getD k []) (crew) crew0 W w1 w2
      simp [strsD] at e2
      refine ⟨_, rfl, true, rfl, rfl, rotaD r, ev_eq.mp ?_, r, rfl, g1, g2⟩
      simp [C3__law_world, c3, strsD, e1, e2]
    · rw [zs_names Rota.name (fun k => titles.getD k []) (n := titles.length) (by rw [zl, List.length_range]) (fun k z hk hz => (zq k k z (by rw [List.getElem?_range hk]) hz).1)]
      rw [map_getD titles [] titles.length (Nat.le_refl _), List.take_length]
    · obtain ⟨k, hk, e⟩ := List.getElem_of_mem hr
      exact (zq k k r (by rw [List.getElem?_range (by rw [zl, List.length_range] at hk; exact hk)]) (List.getElem?_eq_some_iff.mpr ⟨hk, e⟩)).2
  have rl : rotas.length = nt := by rw [← tl, ← rn, List.length_map]
  -- the ladders
  obtain ⟨nla, hnla⟩ : ∃ nla : Nat, nla = (1 + d7 % 2).toNat := ⟨_, rfl⟩
  obtain ⟨_, E4, ladders, rfl, ln, lg⟩ : Ev (lcD (gN 6) (fun _ => some true) C4__law_world [.fz (.lst (ns.map D.int)), .fz (strsD W8), .fz (strsD names), .fz (strsD worths), .fz (.lst (ds.map D.int)), .fz (.int W), .no, .fz (.lst (staff.map personD)), .fz (strsD (crew)), .fz (strsD titles), .fz (.lst (rotas.map rotaD)), .fz (.lst (ts.map D.int)), .no, .no, .no, .no, .no, .no, .no, .no, .no, .no] (rngL 0 nla)) fun d => ∃ ladders : List Ladder, d = ladders.map ladderD ∧ ladders.map Ladder.name = (W8.drop 6).take nla ∧ ∀ r ∈ ladders, GLadder titles r := by
    refine lcZ (fun k : Nat => D.int (0 + (k : Nat))) ladderD (fun k r => r.name = W8.getD (6 + k) [] ∧ GLadder titles r) (List.range nla) (fun k hk => ?_) (fun zs zl zq => ⟨zs, rfl, ?_, fun r hr => ?_⟩)
    · have hk := List.mem_range.mp hk
      have e1 := atI_str (xs := W8) (i := 6 + (k : Int)) (by omega) (by omega)
      rw [show (6 + (k : Int)).toNat = 6 + k by omega] at e1
      have k1 : (0 : Int) ≤ 8 * (k : Int) := by omega
      have k2 : (0 : Int) ≤ 8 * (k : Int) + 8 := by omega
      have eL : (cutG ts (some (8 * (k : Int))) (some (8 * (k : Int) + 8))).length = 8 := by
        rw [cutG_nn k1 k2, List.length_take, List.length_drop, htl]
        omega
      have eS : Small (cutG ts (some (8 * (k : Int))) (some (8 * (k : Int) + 8))) := fun d h => hts d (cutG_mem h)
      obtain ⟨d, e2, r, rfl, g1, g2⟩ := ladder_ex _ eS eL (W8.getD (6 + k) []) titles t0
      simp [strsD] at e2
      refine ⟨_, rfl, true, rfl, rfl, ladderD r, ev_eq.mp ?_, r, rfl, g1, g2⟩
      simp [C4__law_world, strsD, e1, cutG_map, e2]
    · rw [zs_names Ladder.name (fun k => W8.getD (6 + k) []) (n := nla) (by rw [zl, List.length_range]) (fun k z hk hz => (zq k k z (by rw [List.getElem?_range hk]) hz).1)]
      rw [map_getD2 W8 [] nla 6 (by omega)]
    · obtain ⟨k, hk, e⟩ := List.getElem_of_mem hr
      exact (zq k k r (by rw [List.getElem?_range (by rw [zl, List.length_range] at hk; exact hk)]) (List.getElem?_eq_some_iff.mpr ⟨hk, e⟩)).2
  have ll : ladders.length = nla := by
    have := congrArg List.length ln
    simp at this; omega
  -- the shutters
  obtain ⟨nsh, hnsh⟩ : ∃ nsh : Nat, nsh = (d8 % 3).toNat := ⟨_, rfl⟩
  obtain ⟨_, E5, shutters, rfl, hn, hg⟩ : Ev (lcD (gN 6) (fun _ => some true) C5__law_world [.fz (.lst (ns.map D.int)), .fz (strsD W8), .fz (strsD names), .fz (strsD worths), .fz (.lst (ds.map D.int)), .fz (.int W), .no, .fz (.lst (staff.map personD)), .fz (strsD (crew)), .fz (strsD titles), .fz (.lst (rotas.map rotaD)), .fz (.lst (ts.map D.int)), .fz (.lst (ladders.map ladderD)), .fz (.lst (bs.map D.int)), .no, .no, .no, .no, .no, .no, .no, .no] (rngL 0 nsh)) fun d => ∃ shutters : List Shutter, d = shutters.map shutterD ∧ shutters.map Shutter.name = W8.take nsh ∧ ∀ r ∈ shutters, GShutter W r := by
    refine lcZ (fun k : Nat => D.int (0 + (k : Nat))) shutterD (fun k r => r.name = W8.getD k [] ∧ GShutter W r) (List.range nsh) (fun k hk => ?_) (fun zs zl zq => ⟨zs, rfl, ?_, fun r hr => ?_⟩)
    · have hk := List.mem_range.mp hk
      have e1 := atI_str (xs := W8) (i := (k : Int)) (by omega) (by omega)
      have k1 : (0 : Int) ≤ 6 * (k : Int) := by omega
      have k2 : (0 : Int) ≤ 6 * (k : Int) + 6 := by omega
      have eL : (cutG bs (some (6 * (k : Int))) (some (6 * (k : Int) + 6))).length = 6 := by
        rw [cutG_nn k1 k2, List.length_take, List.length_drop, hbl]
        omega
      have eS : Small (cutG bs (some (6 * (k : Int))) (some (6 * (k : Int) + 6))) := fun d h => hbs d (cutG_mem h)
      obtain ⟨d, e2, r, rfl, g1, g2⟩ := shutter_ex _ eS eL (W8.getD k []) W w1 w2
      simp at e2
      refine ⟨_, rfl, true, rfl, rfl, shutterD r, ev_eq.mp ?_, r, rfl, g1, g2⟩
      simp [C5__law_world, strsD, e1, cutG_map, e2]
    · rw [zs_names Shutter.name (fun k => W8.getD k []) (n := nsh) (by rw [zl, List.length_range]) (fun k z hk hz => (zq k k z (by rw [List.getElem?_range hk]) hz).1)]
      rw [map_getD W8 [] nsh (by omega)]
    · obtain ⟨k, hk, e⟩ := List.getElem_of_mem hr
      exact (zq k k r (by rw [List.getElem?_range (by rw [zl, List.length_range] at hk; exact hk)]) (List.getElem?_eq_some_iff.mpr ⟨hk, e⟩)).2
  have shl : shutters.length = nsh := by
    have := congrArg List.length hn
    simp at this; omega
  -- the tree
  obtain ⟨ntr, hntr⟩ : ∃ ntr : Nat, ntr = (1 + d9 % 4).toNat := ⟨_, rfl⟩
  have ln0 : ladders.map Ladder.name ≠ [] := fun h => by
    have := congrArg List.length h
    simp [ll] at this; omega
  have l1 : (rngL 0 np).length ≤ sizeLine := by rw [rngL_len]; omega
  have l3 : (rngL 0 titles.length).length ≤ sizeLine := by rw [rngL_len]; omega
  have l4 : (rngL 0 nla).length ≤ sizeLine := by rw [rngL_len]; omega
  have l5 : (rngL 0 nsh).length ≤ sizeLine := by rw [rngL_len]; omega
  have l2 : staff.length ≤ sizeLine := by omega
  have z5 : -4611686018427387904 ≤ 1 + d5 % 4 ∧ 1 + d5 % 4 < 4611686018427387904 := by omega
  have z7 : -4611686018427387904 ≤ 1 + d7 % 2 ∧ 1 + d7 % 2 < 4611686018427387904 := by omega
  have z8 : -4611686018427387904 ≤ d8 % 3 ∧ d8 % 3 < 4611686018427387904 := by omega
  have z9 : -4611686018427387904 ≤ 1 + d9 % 4 ∧ 1 + d9 % 4 < 4611686018427387904 := by omega
  have zt : (titles.length : Int) < 4611686018427387904 := by omega
  simp only [strsD] at E1 E2 E3 E4 E5 ew en ev
  refine run (fun _ => rfl) ?_
  simp [b__law_world, strsD, c0, c1, c2, c5, c6, ew, en, ev, ed, et, eb, a0, a5, a6, a7, a8, a9, ← hW, ← hnp, ← hnla, ← hnsh, ← hntr, E1, E2, E3, E4, E5, e4t, l1, l2, l3, l4, l5, z5, z7, z8, z9, zt]
  refine ok_range (fun j ρ => ∃ (tree : List Route) (s6 s9 : Sl), ρ = [.fz (.lst (ns.map D.int)), .fz (strsD W8), .fz (strsD names), .fz (strsD worths), .fz (.lst (ds.map D.int)), .fz (.int W), s6, .fz (.lst (staff.map personD)), .fz (strsD (crew)), s9, .fz (.lst (rotas.map rotaD)), .fz (.lst (ts.map D.int)), .fz (.lst (ladders.map ladderD)), .fz (.lst (bs.map D.int)), .fz (.lst (shutters.map shutterD)), .ow (.lst (tree.map routeD)), .no, .no, .no, .no, .no, .no] ∧ tree.length = j ∧ ∀ (k : Nat) (r : Route), tree[k]? = some r → GRoute names worths (ladders.map Ladder.name) (shutters.map Shutter.name) k r) ⟨[], _, _, rfl, rfl, fun k r h => by cases h⟩ ?_ ?_
  · rintro j ρ hj ⟨tree, s6, s9, rfl, h1, h2⟩
    refine ⟨_, rfl, ?_⟩
    simp [L1__law_world]
    refine ⟨by omega, ?_⟩
    refine lcE shutterD D.str Shutter.name shutters (fun k hk => ?_) ?_
    · simp [C6__law_world, shutter_0]
    · simp [c7]
      refine ⟨by omega, ?_⟩
      refine lcE ladderD D.str Ladder.name ladders (fun k hk => ?_) ?_
      · simp [C7__law_world, ladder_0]
      · obtain ⟨d, e2, r, rfl, g1⟩ := route_ex (ns.getD (7 + j) 0) j (by omega) names worths (ladders.map Ladder.name) (shutters.map Shutter.name) n0 (by omega) ln0 (by simp; omega)
        simp [strsD] at e2
        simp [strsD, e2]
        refine ⟨by omega, tree ++ [r], ?_, by simp; omega, fun k r' hk => ?_⟩
        · rw [List.map_append]; rfl
        · by_cases hkj : k < tree.length
          · rw [List.getElem?_append_left hkj] at hk
            exact h2 k r' hk
          · have := (List.getElem?_eq_some_iff.mp hk).1
            simp at this
            have : k = tree.length := by omega
            subst this
            simp at hk
            subst hk
            rw [h1]
            exact g1
  · rintro ρ ⟨tree, s6, s9, rfl, trl, trg⟩
    obtain ⟨d, e2, holds, rfl, hdl, hdg⟩ := holds_ex x11 names worths n0 (by omega)
    let m : Made := ⟨W, staff, rotas, ladders, shutters, tree, holds, 1 + d10 % 3, d11 % 4, d12 % 3⟩
    have G : GMade m names worths := {
      w1 := w1, w2 := w2
      p0 := fun h => crew0 (by have h : staff = [] := h; rw [hcr, h]; rfl)
      pl := by show staff.length ≤ 4; omega
      pN := fun p hp => w8N _ (List.mem_of_mem_take (sn ▸ List.mem_map_of_mem hp))
      pd := by show (staff.map Prod.fst).Nodup; rw [sn]; exact w8d.sublist (List.take_sublist _ _)
      pc := sc
      s0 := fun h => t0 (by have h : rotas = [] := h; rw [← rn, h]; rfl)
      sl := by show rotas.length ≤ 2; omega
      sN := fun p hp => w8N _ (tm _ (rn ▸ List.mem_map_of_mem hp))
      sd := by show (rotas.map Rota.name).Nodup; rw [rn]; exact td
      sg := by intro p hp; show GRota (staff.map Prod.fst) W p; rw [← hcr]; exact rg p hp
      o0 := fun h => ln0 (by have h : ladders = [] := h; rw [h]; rfl)
      ol := by show ladders.length ≤ 2; omega
      oN := fun p hp => w8N _ (List.mem_of_mem_drop (List.mem_of_mem_take (ln ▸ List.mem_map_of_mem hp)))
      od := by show (ladders.map Ladder.name).Nodup; rw [ln]; exact (w8d.sublist (List.drop_sublist _ _)).sublist (List.take_sublist _ _)
      og := by intro p hp; show GLadder (rotas.map Rota.name) p; rw [rn]; exact lg p hp
      wl := by show shutters.length ≤ 2; omega
      wN := fun p hp => w8N _ (List.mem_of_mem_take (hn ▸ List.mem_map_of_mem hp))
      wd := by show (shutters.map Shutter.name).Nodup; rw [hn]; exact w8d.sublist (List.take_sublist _ _)
      wg := hg
      r0 := fun h => by have h : tree = [] := h; rw [h] at trl; simp at trl; omega
      rl := by show tree.length ≤ 4; omega
      rg := trg
      hl := hdl
      hg := hdg
      a1 := by show 1 ≤ 1 + d10 % 3; omega
      a2 := by show 1 + d10 % 3 ≤ 3; omega
      b1 := by show 0 ≤ d11 % 4; omega
      b2 := by show d11 % 4 ≤ 3; omega
      d1 := by show 0 ≤ d12 % 3; omega
      d2 := by show d12 % 3 ≤ 2; omega
      nl := nl, nN := nN, nd := nd, vl := vl, vN := vN }
    have e3' := law_setup_ok G
    have e3 : m__law_setup [.int W, .lst (staff.map personD), .lst (rotas.map rotaD), .lst (ladders.map ladderD), .lst (shutters.map shutterD), .lst (tree.map routeD), .lst (holds.map holdD), .lst [], .lst [.int (1 + d10 % 3), .int (d11 % 4), .int (d12 % 3), .int 5]] = some (madeD m) := e3'
    simp [c11, e2, a10, a11, a12, e3]
    exact ⟨m, names, worths, ⟨rfl, rfl, rfl⟩, G⟩

end G74

namespace G74
open PySem PySem.Spec PyProof.Rows L2 DL
/-! ### labels and matching -/
abbrev Labs := List (List Nat × List Nat)
def pairD (p : List Nat × List Nat) : D := .tup [.str p.1, .str p.2]
def labsD (l : Labs) : D := .tup (l.map pairD)
def valP (l : Labs) (n : List Nat) : List Nat := match l.find? (fun p => decide (p.1 = n)) with
  | some p => p.2
  | none => []
theorem pair_0 (x : List Nat × List Nat) : dItem (pairD x) (.int 0) = some (.str x.1) := rfl
theorem pair_1 (x : List Nat × List Nat) : dItem (pairD x) (.int 1) = some (.str x.2) := rfl
theorem law_value_ok (l : Labs) (n : List Nat) : m__law_value [labsD l, .str n] = some (.str (valP l n)) := by
  refine run_eq (fun _ => rfl) ?_
  simp [b__law_value, labsD]
  refine ok_find pairD (fun p => decide (p.1 = n)) (fun p => .str p.2) (fun ρ => ∃ s, ρ = [.fz (.tup (l.map pairD)), .fz (.str n), s]) l _ ⟨_, rfl⟩ ?_ ?_ ?_
  · rintro x hx ρ ⟨s, rfl⟩
    refine ⟨_, rfl, ?_⟩
    simp [L1__law_value, pair_0, pair_1]
  · intro x hx
    simp [valP, hx]
  · rintro hn ρ ⟨s, rfl⟩
    simp [valP, hn]
def matchP (m : Mat) (l : Labs) : Bool := decide (valP l m.name ∈ m.vals) == m.inside
def matsP (ms : List Mat) (l : Labs) : Bool := ms.all fun m => matchP m l
theorem law_matches_ok (ms : List Mat) (l : Labs) : m__law_matches [.tup (ms.map matD), labsD l] = some (.bl (matsP ms l)) := by
  refine run_eq (fun _ => rfl) ?_
  simp [b__law_matches]
  refine ok_any matD (fun m => !matchP m l) (.bl false) (fun ρ => ∃ s2 s3 s4, ρ = [.fz (.tup (ms.map matD)), .fz (labsD l), s2, s3, s4]) ms ⟨_, _, _, rfl⟩ ?_ ?_ ?_
  · rintro x hx ρ ⟨s2, s3, s4, rfl⟩
    refine ⟨_, rfl, ?_⟩
    have e := law_value_ok l x.name
    by_cases h1 : valP l x.name ∈ x.vals <;> cases h2 : x.inside <;> simp [L1__law_matches, e, matchP, h1, h2]
  · intro h
    obtain ⟨x, h1, h2⟩ := List.any_eq_true.mp h
    congr 1
    symm
    refine Bool.eq_false_iff.mpr fun ha => ?_
    have := List.all_eq_true.mp ha x h1
    simp [this] at h2
  · rintro h ρ ⟨s2, s3, s4, rfl⟩
    show matsP ms l = true
    refine List.all_eq_true.mpr fun x hx => ?_
    cases e : matchP x l with
    | true => rfl
    | false =>
      have : ms.any (fun m => !matchP m l) = true := List.any_eq_true.mpr ⟨x, hx, by simp [e]⟩
      rw [this] at h
      cases h
/-! ### the way of an alert -/
def chP (rs : List Route) (l : Labs) (a k : Nat) : Bool := match rs[k]? with
  | some r => decide (r.parent = some a) && matsP r.mats l
  | none => false
def childP (rs : List Route) (l : Labs) (a : Nat) : Option Nat := (List.range rs.length).find? (chP rs l a)
def natsD (w : List Nat) : List D := w.map fun k : Nat => .int k
def stepW (rs : List Route) (l : Labs) (w : List Nat) : List Nat := match w.getLast? with
  | none => w
  | some a => match childP rs l a with
    | none => w
    | some k => w ++ [k]
def wayN (rs : List Route) (l : Labs) : Nat → List Nat
  | 0 => [0]
  | n + 1 => stepW rs l (wayN rs l n)
def wayP (rs : List Route) (l : Labs) : List Nat := wayN rs l rs.length
theorem route_0 (r : Route) : dItem (routeD r) (.int 0) = some (parD r.parent) := rfl
theorem route_1 (r : Route) : dItem (routeD r) (.int 1) = some (.tup (r.mats.map matD)) := rfl
theorem route_2 (r : Route) : dItem (routeD r) (.int 2) = some (settD r.sett) := rfl
theorem parD_n : parD none = .non := rfl
theorem parD_s (k : Nat) : parD (some k) = .int k := rfl
theorem par_eq (p : Option Nat) (a : Nat) : dEq (parD p) (.int a) = some (decide (p = some a)) := by
  cases p with
  | none => simp [parD]
  | some k =>
    simp only [parD, dEq_ii]
    by_cases h : k = a
    · subst h; simp
    · simp [h]; omega
theorem atI_last {α : Type} (xs : List α) (x : α) : atI (xs ++ [x]) (-1) = some x := by
  have e : ixN (xs ++ [x]).length (-1) = some xs.length := by
    unfold ixN
    simp
    omega
  unfold atI
  rw [e]
  simp
theorem wayN_ok (rs : List Route) (l : Labs) (h0 : rs ≠ []) : ∀ n, wayN rs l n ≠ [] ∧ ∀ k ∈ wayN rs l n, k < rs.length := by
  intro n
  induction n with
  | zero => exact ⟨by simp [wayN], fun k hk => by simp [wayN] at hk; subst hk; exact List.length_pos_iff.mpr h0⟩
  | succ n ih =>
    unfold wayN stepW
    generalize wayN rs l n = w at ih
    cases e : w.getLast? with
    | none => exact ih
    | some a =>
      dsimp only
      cases e2 : childP rs l a with
      | none => exact ih
      | some k =>
        refine ⟨by simp, fun j hj => ?_⟩
        rcases List.mem_append.mp hj with z | z
        · exact ih.2 j z
        · rw [List.mem_singleton.mp z]
          exact List.mem_range.mp (List.mem_of_find?_eq_some e2)
theorem find_range_succ (P : Nat → Bool) (n : Nat) : (List.range (n + 1)).find? P = match (List.range n).find? P with
    | some k => some k
    | none => if P n = true then some n else none := by
  rw [List.range_succ, List.find?_append]
  cases (List.range n).find? P with
  | some k => rfl
  | none => cases h : P n <;> simp [h]
theorem law_way_ok (rs : List Route) (l : Labs) (h0 : rs ≠ []) (hl : rs.length ≤ 100) (hp : ∀ r, rs[0]? = some r → r.parent = none) : m__law_way [.lst (rs.map routeD), labsD l] = some (.lst (natsD (wayP rs l))) := by
  have hz := line_big
  have lp := List.length_pos_iff.mpr h0
  have b2 : (rs.length : Int) < 4611686018427387904 := by omega
  have hw0 : natsD (wayN rs l 0) = [.int 0] := by simp [natsD, wayN]
  refine run_eq (fun _ => rfl) ?_
  simp [b__law_way, b2]
  refine ok_range (fun j ρ => ∃ (s3 s4 s5 : Sl), ρ = [.fz (.lst (rs.map routeD)), .fz (labsD l), .ow (.lst (natsD (wayN rs l j))), s3, s4, s5]) ⟨_, _, _, by rw [hw0]⟩ ?_ ?_
  · rintro j ρ hj ⟨s3, s4, s5, rfl⟩
    refine ⟨_, rfl, ?_⟩
    obtain ⟨w0, w1⟩ := wayN_ok rs l h0 j
    have hw : ∃ ws a, wayN rs l j = ws ++ [a] := ⟨(wayN rs l j).dropLast, (wayN rs l j).getLast w0, (List.dropLast_concat_getLast w0).symm⟩
    obtain ⟨ws, a, hw⟩ := hw
    have hws : (wayN rs l j).length ≤ j + 1 := by
      clear w0 w1 hw hj
      induction j with
      | zero => simp [wayN]
      | succ j ih =>
        unfold wayN stepW
        generalize wayN rs l j = w at ih
        split
        · omega
        · split
          · omega
          · simp; omega
    have es : wayN rs l (j + 1) = match childP rs l a with | none => wayN rs l j | some k => wayN rs l j ++ [k] := by
      show stepW rs l (wayN rs l j) = _
      rw [hw]
      simp [stepW]
    have ea : atI (natsD (wayN rs l j)) (-1) = some (.int a) := by
      rw [hw]
      unfold natsD
      rw [List.map_append]
      exact atI_last _ _
    simp [L2__law_way, b2]
    have z0 : chP rs l a 0 = false := by
      unfold chP
      cases e : rs[0]? with
      | none => rfl
      | some r => simp [hp r e]
    refine ok_range (fun i ρ => ∃ (s3 s5 : Sl), ρ = [.fz (.lst (rs.map routeD)), .fz (labsD l), .ow (.lst (natsD (wayN rs l j))), s3, .fz (parD ((List.range (i + 1)).find? (chP rs l a))), s5]) ⟨.fz (.int (j : Int)), s5, by rw [show List.range (0 + 1) = [0] from rfl]; simp [z0, parD]⟩ ?_ ?_
    · rintro i ρ hi ⟨s3, s5, rfl⟩
      refine ⟨_, rfl, ?_⟩
      have hi2 : i + 1 < rs.length := by omega
      have er : atI (rs.map routeD) (1 + (i : Int)) = some (routeD rs[i + 1]) := by
        rw [atI_map, show (1 + (i : Int)) = ((i + 1 : Nat) : Int) by omega, atI_nat (List.getElem?_eq_getElem hi2)]
        rfl
      have em := law_matches_ok (rs[i + 1]).mats l
      have ep := par_eq (rs[i + 1]).parent a
      have ec : chP rs l a (i + 1) = (decide ((rs[i + 1]).parent = some a) && matsP (rs[i + 1]).mats l) := by
        unfold chP
        rw [List.getElem?_eq_getElem hi2]
      rw [find_range_succ (chP rs l a) (i + 1)]
      cases e : (List.range (i + 1)).find? (chP rs l a) with
      | some k => simp [L1__law_way, parD_n, parD_s]
      | none =>
        simp [L1__law_way, parD_n, parD_s, er, route_0, route_1, ea, ep, em, ec]
        by_cases g1 : (rs[i + 1]).parent = some a
        · cases g2 : matsP (rs[i + 1]).mats l
          · simp [g1, parD_n, parD_s]
          · simp [g1, parD_n, parD_s]
            omega
        · simp [g1, parD_n, parD_s]
    · rintro ρ ⟨s3, s5, rfl⟩
      rw [show rs.length - 1 + 1 = rs.length by omega]
      have ef : (List.range rs.length).find? (chP rs l a) = childP rs l a := rfl
      rw [ef]
      cases e : childP rs l a with
      | none => simp [parD_n, parD_s, es, e]
      | some k =>
        simp [parD_n, parD_s, es, e, natsD]
        omega
  · rintro ρ ⟨s3, s4, s5, rfl⟩
    simp [wayP]
/-! ### labels of an alert -/
def ltP (x y : List Nat × List Nat) : Bool := lexS x y
theorem ins_pairs (x : List Nat × List Nat) : ∀ l : Labs, insB ltD (pairD x) (l.map pairD) = (insB ltP x l).map pairD
  | [] => rfl
  | y :: l => by
    rw [List.map_cons]
    unfold insB
    have e : ltD (pairD y) (pairD x) = ltP y x := rfl
    rw [e]
    cases ltP y x with
    | true => simp [ins_pairs x l]
    | false => simp
theorem sort_pairs : ∀ l : Labs, sortB ltD (l.map pairD) = (sortB ltP l).map pairD
  | [] => rfl
  | x :: l => by
    rw [List.map_cons]
    unfold sortB
    rw [sort_pairs l, ins_pairs]
theorem dSortP_ok (l : Labs) : dSortP (.lst (l.map pairD)) = some (.lst ((sortB ltP l).map pairD)) := by
  have h : (l.map pairD).all (fun d => (pairOf d).isSome) = true := by
    refine List.all_eq_true.mpr fun d hd => ?_
    obtain ⟨x, _, rfl⟩ := List.mem_map.mp hd
    rfl
  show (if (l.map pairD).all (fun d => (pairOf d).isSome) = true then some (D.lst (sortB ltD (l.map pairD))) else none) = _
  rw [if_pos h, sort_pairs]
def GLabs (names worths : List (List Nat)) (l : Labs) : Prop := l.length ≤ 3 ∧ ∀ p ∈ l, p.1 ∈ names ∧ p.2 ∈ worths
theorem law_labels_ex (ds : List Int) (names worths : List (List Nat)) (hl : ds.length ≤ 6) (hn : names ≠ []) (hw : worths ≠ []) : Ev (m__law_labels [.lst (ds.map D.int), strsD names, strsD worths]) fun d => ∃ l, d = labsD l ∧ GLabs names worths l := by
  have hz := line_big
  have n1 : 0 < (names.length : Int) := by have := List.length_pos_iff.mpr hn; omega
  have n2 : 0 < (worths.length : Int) := by have := List.length_pos_iff.mpr hw; omega
  refine run (fun _ => rfl) ?_
  have cs : stepN 0 ((ds.length : Int) - 1) 2 ≤ 3 := by unfold stepN; split <;> omega
  have cs2 : ∀ j : Nat, j < stepN 0 ((ds.length : Int) - 1) 2 → 2 * (j : Int) + 1 < ds.length := by
    intro j hj
    unfold stepN at hj
    split at hj <;> omega
  simp [b__law_labels, strsD]
  refine ⟨by omega, ?_⟩
  refine ok_rangeC (fun j ρ => ∃ (ps : Labs) (us : List (List Nat)) (s5 s6 : Sl), ρ = [.fz (.lst (ds.map D.int)), .fz (.lst (names.map D.str)), .fz (.lst (worths.map D.str)), .ow (.lst (ps.map pairD)), .ow (.lst (us.map D.str)), s5, s6] ∧ ps.length ≤ j ∧ us.length ≤ j ∧ ∀ p ∈ ps, p.1 ∈ names ∧ p.2 ∈ worths) ⟨[], [], _, _, rfl, by simp, by simp, by simp⟩ ?_ ?_
  · rintro j ρ hj ⟨ps, us, s5, s6, rfl, h1, h2, h3⟩
    refine ⟨_, rfl, ?_⟩
    have hj2 := cs2 j hj
    have e1 := atI_ints (xs := ds) (i := (j : Int) * 2) (by omega) (by omega)
    have e2 := atI_ints (xs := ds) (i := (j : Int) * 2 + 1) (by omega) (by omega)
    obtain ⟨m, e3, e4⟩ := atI_mem (xs := names) (i := ds.getD ((j : Int) * 2).toNat 0 % (names.length : Int)) (Int.emod_nonneg _ (by omega)) (Int.emod_lt_of_pos _ n1)
    obtain ⟨v, e5, e6⟩ := atI_mem (xs := worths) (i := ds.getD ((j : Int) * 2 + 1).toNat 0 % (worths.length : Int)) (Int.emod_nonneg _ (by omega)) (Int.emod_lt_of_pos _ n2)
    generalize ds.getD ((j : Int) * 2).toNat 0 = x1 at *
    generalize ds.getD ((j : Int) * 2 + 1).toNat 0 = x2 at *
    simp [L1__law_labels, e1, e2, hn, hw, atI_map, e3, e5]
    refine ⟨by omega, fun hm => ⟨by omega, by omega, by omega, ps ++ [(m, v)], us ++ [m], ⟨?_, by simp⟩, by simp; omega, by simp; omega, ?_⟩, fun hm => ⟨ps, us, ⟨rfl, rfl⟩, by omega, by omega, fun a b h => h3 (a, b) h⟩⟩
    · simp [pairD]
    · intro a b hp
      rcases List.mem_append.mp hp with z | z
      · exact h3 _ z
      · cases List.mem_singleton.mp z
        exact ⟨e4, e6⟩
  · rintro ρ ⟨ps, us, s5, s6, rfl, h1, h2, h3⟩
    simp [dSortP_ok]
    have pm := sortB_perm (lt := ltP) ps
    exact ⟨sortB ltP ps, rfl, by rw [pm.length_eq]; omega, fun p hp => h3 p (pm.mem_iff.mp hp)⟩
end G74

namespace G74
open PySem PySem.Spec PyProof.Rows L2 DL
/-! ### windows that mute -/
theorem sett_0 (s : Sett) : dItem (settD s) (.int 0) = some (.tup (s.group.map D.str)) := rfl
theorem sett_1 (s : Sett) : dItem (settD s) (.int 1) = some (.int s.wait) := rfl
theorem sett_2 (s : Sett) : dItem (settD s) (.int 2) = some (.int s.interval) := rfl
theorem sett_3 (s : Sett) : dItem (settD s) (.int 3) = some (.int s.again) := rfl
theorem sett_4 (s : Sett) : dItem (settD s) (.int 4) = some (.tup (s.mutes.map D.str)) := rfl
theorem sett_5 (s : Sett) : dItem (settD s) (.int 5) = some (.str s.policy) := rfl
theorem shutter_1 (x : Shutter) : dItem (shutterD x) (.int 1) = some (.tup (x.spans.map spanD)) := rfl
def hitP (W : Int) (ss : List (Int × Int)) (t : Int) : Bool := ss.any fun s => decide (s.1 ≤ t % W) && decide (t % W < s.2)
def mutedP (m : Made) (mutes : List (List Nat)) (t : Int) : Bool := m.windows.any fun w => decide (w.name ∈ mutes) && hitP m.week w.spans t
theorem in_spans_ok (W : Int) (hW : 0 < W) (ss : List (Int × Int)) (hl : ss.length ≤ 10) (t : Int) : m_in_spans [.int W, .tup (ss.map spanD), .int t] = some (.bl (hitP W ss t)) := by
  have hz := line_big
  refine run_eq (fun _ => rfl) ?_
  simp [b_in_spans]
  refine ⟨by omega, ?_⟩
  refine lcE spanD D.bl (fun s => decide (s.1 ≤ t % W) && decide (t % W < s.2)) ss (fun s hs => ?_) ?_
  · by_cases h1 : s.1 ≤ t % W <;> simp [C1_in_spans, spanD, hW, h1]
  · simp only [dAny_m, ev_some]
    rw [List.any_map]
    rfl
theorem entry_of_ok {α : Type} (enc : α → D) (name : α → List Nat) (hE : ∀ x, dItem (enc x) (.int 0) = some (.str (name x))) (xs : List α) (n w : List Nat) (x : α) (h : xs.find? (fun x => decide (name x = n)) = some x) : m_entry_of [.lst (xs.map enc), .str n, .str w] = some (enc x) := by
  refine run_eq (fun _ => rfl) ?_
  simp [b_entry_of]
  refine ok_find enc (fun x => decide (name x = n)) enc (fun ρ => ∃ s, ρ = [.fz (.lst (xs.map enc)), .fz (.str n), .fz (.str w), s]) xs _ ⟨_, rfl⟩ ?_ ?_ ?_
  · rintro y hy ρ ⟨s, rfl⟩
    refine ⟨_, rfl, ?_⟩
    simp [L1_entry_of, hE]
  · intro y hy
    rw [h] at hy
    cases hy
    rfl
  · intro hn
    rw [h] at hn
    cases hn
theorem find_name {α : Type} (name : α → List Nat) (xs : List α) (n : List Nat) (h : n ∈ xs.map name) : ∃ x, xs.find? (fun x => decide (name x = n)) = some x ∧ x ∈ xs ∧ name x = n := by
  obtain ⟨y, hy, e⟩ := List.mem_map.mp h
  cases e2 : xs.find? (fun x => decide (name x = n)) with
  | none => exact absurd (decide_eq_true e) (List.find?_eq_none.mp e2 y hy)
  | some x => exact ⟨x, rfl, List.mem_of_find?_eq_some e2, by have := List.find?_some e2; simpa using this⟩
theorem nodup_inj {α : Type} (name : α → List Nat) : ∀ {xs : List α}, (xs.map name).Nodup → ∀ {x y : α}, x ∈ xs → y ∈ xs → name x = name y → x = y
  | [], _, _, _, h, _, _ => nomatch h
  | z :: xs, hd, x, y, hx, hy, e => by
    rw [List.map_cons, List.nodup_cons] at hd
    rcases List.mem_cons.mp hx with h1 | h1
    · rcases List.mem_cons.mp hy with h2 | h2
      · rw [h1, h2]
      · exact absurd (by rw [← h1, e]; exact List.mem_map_of_mem h2) hd.1
    · rcases List.mem_cons.mp hy with h2 | h2
      · exact absurd (by rw [← h2, ← e]; exact List.mem_map_of_mem h1) hd.1
      · exact nodup_inj name hd.2 h1 h2 e
section
variable {m : Made} {names worths : List (List Nat)}
theorem is_muted_ok (g : GMade m names worths) (mutes : List (List Nat)) (hl : mutes.length ≤ 10) (hm : ∀ n ∈ mutes, n ∈ m.windows.map Shutter.name) (t : Int) : m_is_muted [madeD m, .tup (mutes.map D.str), .int t] = some (.bl (mutedP m mutes t)) := by
  have hz := line_big
  have hW : 0 < m.week := by have := g.w1; omega
  refine run_eq (fun _ => rfl) ?_
  simp [b_is_muted]
  refine ⟨by omega, ?_⟩
  refine lcE D.str D.bl (fun n => match m.windows.find? (fun x => decide (x.name = n)) with | some w => hitP m.week w.spans t | none => false) mutes (fun n hn => ?_) ?_
  · obtain ⟨w, e, hw, _⟩ := find_name Shutter.name m.windows n (hm n hn)
    have e1 := entry_of_ok shutterD Shutter.name shutter_0 m.windows n (lit "window") w e
    have e2 := in_spans_ok m.week hW w.spans (by have := (g.wg w hw).2.1; omega) t
    have e3 : m_window_of [madeD m, .str n] = some (shutterD w) := by
      refine run_eq (fun _ => rfl) ?_
      simp [b_window_of, fld_windows, e1]
    simp [C1_is_muted, fld_week, e3, shutter_1, e2, e]
  · simp only [dAny_m, ev_some]
    rw [List.any_map]
    congr 1
    rw [Bool.eq_iff_iff, List.any_eq_true]
    unfold mutedP
    rw [List.any_eq_true]
    constructor
    · rintro ⟨n, hn, h⟩
      obtain ⟨w, e, hw, e2⟩ := find_name Shutter.name m.windows n (hm n hn)
      simp [e] at h
      exact ⟨w, hw, by simp [e2, hn, h]⟩
    · rintro ⟨w, hw, h⟩
      rw [Bool.and_eq_true, decide_eq_true_eq] at h
      refine ⟨w.name, h.1, ?_⟩
      obtain ⟨v, e, hv, e2⟩ := find_name Shutter.name m.windows w.name (List.mem_map_of_mem hw)
      have := nodup_inj Shutter.name g.wd hv hw e2
      subst this
      simp [e, h.2]
theorem law_muted_ok (g : GMade m names worths) (mutes : List (List Nat)) (t : Int) : m__law_muted [madeD m, .tup (mutes.map D.str), .int t] = some (.bl (mutedP m mutes t)) := by
  have hW : 0 < m.week := by have := g.w1; omega
  refine run_eq (fun _ => rfl) ?_
  simp [b__law_muted, fld_windows]
  refine ok_any shutterD (fun w => decide (w.name ∈ mutes) && hitP m.week w.spans t) (.bl true) (fun ρ => ∃ s3 s4 s5 s6, ρ = [.fz (madeD m), .fz (.tup (mutes.map D.str)), .fz (.int t), s3, s4, s5, s6]) m.windows ⟨_, _, _, _, rfl⟩ ?_ ?_ ?_
  · rintro w hw ρ ⟨s3, s4, s5, s6, rfl⟩
    refine ⟨_, rfl, ?_⟩
    have key : ∀ (N : Reg → Prop) (R : D → Prop) (Bk Ct : Reg → Prop), (hitP m.week w.spans t = true → R (.bl true)) → (hitP m.week w.spans t = false → ∀ s5 s6, N [.fz (madeD m), .fz (.tup (mutes.map D.str)), .fz (.int t), .fz (.str w.name), .fz (.tup (w.spans.map spanD)), s5, s6]) → Ok (loopD (gT (gsC (gN 5) (gsC (gN 6) gsN))) L1__law_muted (w.spans.map spanD) [.fz (madeD m), .fz (.tup (mutes.map D.str)), .fz (.int t), .fz (.str w.name), .fz (.tup (w.spans.map spanD)), s5, s6]) N R Bk Ct := by
      intro N R Bk Ct hR hN
      refine ok_any spanD (fun s => decide (s.1 ≤ t % m.week) && decide (t % m.week < s.2)) (.bl true) (fun ρ => ∃ s5 s6, ρ = [.fz (madeD m), .fz (.tup (mutes.map D.str)), .fz (.int t), .fz (.str w.name), .fz (.tup (w.spans.map spanD)), s5, s6]) w.spans ⟨_, _, rfl⟩ ?_ hR ?_
      · rintro s hs ρ ⟨s5, s6, rfl⟩
        refine ⟨_, rfl, ?_⟩
        by_cases h1 : s.1 ≤ t % m.week <;> by_cases h2 : t % m.week < s.2 <;> simp [L1__law_muted, fld_week, hW, h1, h2]
      · rintro h ρ ⟨s5, s6, rfl⟩
        exact hN h _ _
    by_cases h1 : w.name ∈ mutes
    · simp [L2__law_muted, h1]
      exact ⟨fun h => key _ _ _ _ (fun _ => rfl) (fun h2 => by rw [h] at h2; cases h2), fun h => key _ _ _ _ (fun h2 => by rw [h] at h2; cases h2) (fun _ s5 s6 => ⟨_, _, _, _, rfl⟩)⟩
    · simp [L2__law_muted, h1]
  · intro h
    simp [mutedP, h]
  · rintro h ρ ⟨s3, s4, s5, s6, rfl⟩
    simp [mutedP, h]
/-! ### pages that are forced -/
def slackP (m : Made) : Int := (m.replicas - 1) * m.pause
theorem slack_ok (g : GMade m names worths) : m_slack [madeD m] = some (.int (slackP m)) := by
  obtain ⟨a1, a2, b1, b2⟩ : _ ∧ _ ∧ _ ∧ _ := ⟨g.a1, g.a2, g.b1, g.b2⟩
  refine run_eq (fun _ => rfl) ?_
  simp [b_slack, fld_replicas, fld_pause, slackP]
  omega
theorem law_slack_ok (g : GMade m names worths) : m__law_slack [madeD m] = some (.int (slackP m)) := by
  obtain ⟨a1, a2, b1, b2⟩ : _ ∧ _ ∧ _ ∧ _ := ⟨g.a1, g.a2, g.b1, g.b2⟩
  refine run_eq (fun _ => rfl) ?_
  simp [b__law_slack, fld_replicas, fld_pause, slackP]
  omega
theorem slack_le (g : GMade m names worths) : 0 ≤ slackP m ∧ slackP m ≤ 6 := by
  obtain ⟨a1, a2, b1, b2⟩ : _ ∧ _ ∧ _ ∧ _ := ⟨g.a1, g.a2, g.b1, g.b2⟩
  unfold slackP
  refine ⟨Int.mul_nonneg (by omega) b1, ?_⟩
  have h1 : (m.replicas - 1) * m.pause ≤ 2 * m.pause := Int.mul_le_mul_of_nonneg_right (by omega) b1
  omega
def forcedP (m : Made) (mutes : List (List Nat)) (due first last : Int) : Bool := (List.range (last - first).toNat).any fun k => decide (due + slackP m ≤ first + (k : Int)) && !mutedP m mutes (first + (k : Int))
theorem forced_iff (mutes : List (List Nat)) (due first last : Int) : forcedP m mutes due first last = true ↔ ∃ t, first ≤ t ∧ t < last ∧ due + slackP m ≤ t ∧ mutedP m mutes t = false := by
  unfold forcedP
  rw [List.any_eq_true]
  constructor
  · rintro ⟨k, hk, h⟩
    have hk := List.mem_range.mp hk
    simp at h
    exact ⟨first + k, by omega, by omega, h.1, h.2⟩
  · rintro ⟨t, h1, h2, h3, h4⟩
    refine ⟨(t - first).toNat, List.mem_range.mpr (by omega), ?_⟩
    rw [show first + ((t - first).toNat : Int) = t by omega]
    simp [h3, h4]
def GS (m : Made) (s : Sett) : Prop := s.mutes.length ≤ 10 ∧ (∀ n ∈ s.mutes, n ∈ m.windows.map Shutter.name) ∧ 0 ≤ s.wait ∧ s.wait ≤ 4 ∧ 1 ≤ s.interval ∧ s.interval ≤ 6 ∧ s.interval ≤ s.again ∧ s.again ≤ s.interval + 8 ∧ s.policy ∈ m.policies.map Ladder.name
theorem GMade.sett (g : GMade m names worths) {k : Nat} {r : Route} (h : m.routes[k]? = some r) : GS m r.sett := by
  obtain ⟨_, _, _, _, g1, g2, g3, g4, g5, g6, g7, g8, g9, ⟨n, g10⟩, g11⟩ := g.rg k r h
  have wl := g.wl
  exact ⟨by rw [g10, List.length_take, List.length_map]; omega, fun x hx => List.mem_of_mem_take (g10 ▸ hx), g4, g5, g6, g7, g8, g9, g11⟩
end
end G74

namespace G74
open PySem PySem.Spec PyProof.Rows L2 DL
/-! ### the case of a script -/
def endP (rs : List Route) (l : Labs) : Nat := (wayP rs l).getLast?.getD 0
theorem GMade.root {m : Made} {names worths : List (List Nat)} (g : GMade m names worths) : ∀ r, m.routes[0]? = some r → r.parent = none := fun r h => by
  have := (g.rg 0 r h).1
  cases e : r.parent with
  | none => rfl
  | some k => rw [e] at this; exact absurd this (Nat.not_lt_zero _)
theorem last_nats : ∀ w : List Nat, w ≠ [] → atI (natsD w) (-1) = some (.int (w.getLast?.getD 0 : Nat)) ∧ w.getLast?.getD 0 ∈ w := fun w h => by
  obtain ⟨ws, a, rfl⟩ : ∃ ws a, w = ws ++ [a] := ⟨w.dropLast, w.getLast h, (List.dropLast_concat_getLast h).symm⟩
  unfold natsD
  rw [List.map_append]
  refine ⟨?_, by simp⟩
  simp only [List.getLast?_concat, Option.getD_some, List.map_cons, List.map_nil]
  exact atI_last _ _
theorem way_end {m : Made} {names worths : List (List Nat)} (g : GMade m names worths) (l : Labs) : atI (natsD (wayP m.routes l)) (-1) = some (.int (endP m.routes l)) ∧ endP m.routes l < m.routes.length := by
  obtain ⟨w0, w1⟩ := wayN_ok m.routes l g.r0 m.routes.length
  obtain ⟨h1, h2⟩ := last_nats _ w0
  exact ⟨h1, w1 _ h2⟩
theorem case_ex (ns : List Int) : Ev (m__law_case [.lst (ns.map D.int)]) fun d => ∃ m names worths l r start limit, d = .tup [madeD m, labsD l, settD (Route.sett r), .int start, .int limit] ∧ GMade m names worths ∧ GLabs names worths l ∧ m.routes[endP m.routes l]? = some r ∧ (0 ≤ start ∧ start < 14) ∧ 0 ≤ limit ∧ limit < 9 := by
  have hz := line_big
  obtain ⟨_, ew, m, names, worths, rfl, g⟩ := world_ex ns
  obtain ⟨ed, hl, hs⟩ := draws_spec (ns.getD 12 0) 10 (by decide)
  have ed : m__law_draws [.int (ns.getD 12 0), .int 10] = _ := ed
  have ec : m__law_cell [.lst (ns.map D.int), .int 12] = some (.int (ns.getD 12 0)) := cell_ok ns 12
  generalize ns.getD 12 0 = c at ed hl hs ec
  generalize drawsOf c 10 = ds at ed hl hs
  obtain ⟨d6, a6, p6, q6⟩ := small_at (k := 6) hs (by omega) (by omega)
  obtain ⟨d7, a7, p7, q7⟩ := small_at (k := 7) hs (by omega) (by omega)
  obtain ⟨d8, a8, p8, q8⟩ := small_at (k := 8) hs (by omega) (by omega)
  have vl := g.vl
  have v0 : worths ≠ [] := fun h => by rw [h] at vl; cases vl
  have ecut : cutG (ds.map D.int) none (some (d8 % 7)) = (ds.take (d8 % 7).toNat).map D.int := by rw [cutG_map, cut_take (by omega)]
  obtain ⟨_, el, l, rfl, gl⟩ := law_labels_ex (ds.take (d8 % 7).toNat) names worths (by rw [List.length_take]; omega) g.n0 v0
  have rl := g.rl
  have eway := law_way_ok m.routes l g.r0 (by omega) g.root
  obtain ⟨e1, e2⟩ := way_end g l
  have er : atI (m.routes.map routeD) (endP m.routes l : Int) = some (routeD m.routes[endP m.routes l]) := by
    rw [atI_map, atI_nat (List.getElem?_eq_getElem e2)]
    rfl
  rw [List.map_take] at el
  refine run (fun _ => rfl) ?_
  simp [b__law_case, ew, ec, ed, a6, a7, a8, ecut, el, fld_routes, eway, e1, er, route_2]
  exact ⟨m, names, worths, l, _, _, _, ⟨rfl, rfl, rfl, rfl, rfl⟩, g, gl, List.getElem?_eq_getElem e2, by omega, by omega⟩
end G74

namespace G74
open PySem PySem.Spec PyProof.Rows L2 DL
/-! ### the law's own comparison -/
def smD : Nat → D → Bool
  | _, .non => true
  | _, .bl _ => true
  | _, .int _ => true
  | _, .str _ => true
  | n + 1, .tup ds => decide (ds.length ≤ 1000) && ds.all (smD n)
  | n + 1, .lst ds => decide (ds.length ≤ 1000) && ds.all (smD n)
  | _, _ => false
theorem kit_tuple_int : kitB "tuple" "int" = some false := by decide +kernel
theorem kit_list_int : kitB "list" "int" = some false := by decide +kernel
theorem kit_str_int : kitB "str" "int" = some false := by decide +kernel
theorem kit_tuple_str : kitB "tuple" "str" = some false := by decide +kernel
theorem kit_list_str : kitB "list" "str" = some false := by decide +kernel
theorem kit_tuple_tuple : kitB "tuple" "tuple" = some true := by decide +kernel
theorem kit_list_tuple : kitB "list" "tuple" = some false := by decide +kernel
theorem kit_tuple_list : kitB "tuple" "list" = some false := by decide +kernel
theorem isi_tuple_int {ds : List D} : dIsI "int" (.tup ds) = some (.bl false) := by simp [dIsI, kit_tuple_int]
theorem isi_list_int {ds : List D} : dIsI "int" (.lst ds) = some (.bl false) := by simp [dIsI, kit_list_int]
theorem isi_str_int {l : List Nat} : dIsI "int" (.str l) = some (.bl false) := by simp [dIsI, kit_str_int]
theorem isi_tuple_str {ds : List D} : dIsI "str" (.tup ds) = some (.bl false) := by simp [dIsI, kit_tuple_str]
theorem isi_list_str {ds : List D} : dIsI "str" (.lst ds) = some (.bl false) := by simp [dIsI, kit_list_str]
theorem isi_tuple_tuple {ds : List D} : dIsI "tuple" (.tup ds) = some (.bl true) := by simp [dIsI, kit_tuple_tuple]
theorem isi_list_tuple {ds : List D} : dIsI "tuple" (.lst ds) = some (.bl false) := by simp [dIsI, kit_list_tuple]
theorem isi_tuple_list {ds : List D} : dIsI "list" (.tup ds) = some (.bl false) := by simp [dIsI, kit_tuple_list]
theorem same_refl : ∀ (n : Nat) (d : D), smD n d = true → m__law_same (n + 1) [d, d] = some (.bl true) := by
  intro n
  induction n with
  | zero =>
    intro d h
    refine run_eq (fun _ => rfl) ?_
    cases d with
    | non => simp [b__law_same]
    | bl b => cases b <;> simp [b__law_same]
    | int i => simp [b__law_same]
    | str l => simp [b__law_same, isi_str_int]
    | tup ds => cases h
    | lst ds => cases h
    | _ => cases h
  | succ n ih =>
    intro d h
    refine run_eq (fun _ => rfl) ?_
    cases d with
    | non => simp [b__law_same]
    | bl b => cases b <;> simp [b__law_same]
    | int i => simp [b__law_same]
    | str l => simp [b__law_same, isi_str_int]
    | tup ds =>
      have h : (decide (ds.length ≤ 1000) && ds.all (smD n)) = true := h
      simp only [Bool.and_eq_true, decide_eq_true_eq] at h
      obtain ⟨h1, h2⟩ := h
      simp [b__law_same, isi_tuple_int, isi_tuple_str, isi_tuple_tuple, isi_tuple_list]
      refine ⟨by omega, ?_⟩
      refine ok_range (fun j ρ => ∃ s, ρ = [.fz (.tup ds), .fz (.tup ds), s]) ⟨_, rfl⟩ ?_ ?_
      · rintro j ρ hj ⟨s, rfl⟩
        refine ⟨_, rfl, ?_⟩
        obtain ⟨x, e1, e2⟩ := atI_mem (xs := ds) (i := (j : Int)) (by omega) (by omega)
        have e3 := ih x (List.all_eq_true.mp h2 x e2)
        simp [L1__law_same, e1, e3]
      · rintro ρ ⟨s, rfl⟩
        simp
    | lst ds =>
      have h : (decide (ds.length ≤ 1000) && ds.all (smD n)) = true := h
      simp only [Bool.and_eq_true, decide_eq_true_eq] at h
      obtain ⟨h1, h2⟩ := h
      simp [b__law_same, isi_list_int, isi_list_str, isi_list_tuple]
      refine ⟨by omega, ?_⟩
      refine ok_range (fun j ρ => ∃ s, ρ = [.fz (.lst ds), .fz (.lst ds), s]) ⟨_, rfl⟩ ?_ ?_
      · rintro j ρ hj ⟨s, rfl⟩
        refine ⟨_, rfl, ?_⟩
        obtain ⟨x, e1, e2⟩ := atI_mem (xs := ds) (i := (j : Int)) (by omega) (by omega)
        have e3 := ih x (List.all_eq_true.mp h2 x e2)
        simp [L1__law_same, e1, e3]
      · rintro ρ ⟨s, rfl⟩
        simp
    | _ => cases h
end G74

namespace G74
open PySem PySem.Spec PyProof.Rows L2 DL
/-! ### who is on call -/
def optD : Option (List Nat) → D
  | none => .non
  | some w => .str w
theorem optD_n : optD none = .non := rfl
theorem optD_s (w : List Nat) : optD (some w) = .str w := rfl
theorem optD_is (o : Option (List Nat)) : dIsN (optD o) .non = some o.isNone := by cases o <;> rfl
def memAt (l : Layer) (t : Int) : List Nat := l.mem.getD ((t - l.start) / l.shift % (l.mem.length : Int)).toNat []
def onLayerP (W : Int) (l : Layer) (t : Int) : Option (List Nat) := if l.start ≤ t ∧ (l.spans = [] ∨ hitP W l.spans t = true) then some (memAt l t) else none
def standP (s : Int × Int × List Nat) (t : Int) : Option (List Nat) := if s.1 ≤ t ∧ t < s.2.1 then some s.2.2 else none
def onP (W : Int) (r : Rota) (t : Int) : Option (List Nat) := (r.stands.reverse.findSome? fun s => standP s t).or (r.layers.reverse.findSome? fun l => onLayerP W l t)
theorem mem_at {crew : List (List Nat)} {W : Int} {l : Layer} (g : GLayer crew W l) (t : Int) : atI (l.mem.map D.str) ((t - l.start) / l.shift % (l.mem.length : Int)) = some (.str (memAt l t)) ∧ memAt l t ∈ crew := by
  have hl := List.length_pos_iff.mpr g.1
  have h0 : 0 ≤ (t - l.start) / l.shift % (l.mem.length : Int) := Int.emod_nonneg _ (by omega)
  have h1 : (t - l.start) / l.shift % (l.mem.length : Int) < l.mem.length := Int.emod_lt_of_pos _ (by omega)
  exact ⟨atI_str h0 h1, g.2.2.1 _ (getD_mem' (by omega))⟩
theorem on_layer_ok {crew : List (List Nat)} {W : Int} (hW : 0 < W) {l : Layer} (g : GLayer crew W l) (t : Int) : m_on_layer [.int W, layerD l, .int t] = some (optD (onLayerP W l t)) := by
  obtain ⟨e1, _⟩ := mem_at g t
  obtain ⟨g1, g2, g3, g4, g5, g6, g7, g8, g9⟩ := g
  have e2 := in_spans_ok W hW l.spans (by omega) t
  have hs : 0 < l.shift ∧ l.shift < 1073741824 := by omega
  have hl := List.length_pos_iff.mpr g1
  have hl' : 0 < (l.mem.length : Int) := by omega
  refine run_eq (fun _ => rfl) ?_
  by_cases h1 : t < l.start
  · have : ¬ l.start ≤ t := by omega
    simp [b_on_layer, layerD, h1, onLayerP, this, optD]
  · have h1' : l.start ≤ t := by omega
    by_cases h2 : l.spans = []
    · simp [b_on_layer, layerD, h1, onLayerP, h1', h2, optD, hs, e1, g1, hl]
    · cases h3 : hitP W l.spans t <;> simp [b_on_layer, layerD, h1, onLayerP, h1', h2, optD, hs, e1, e2, h3, g1, hl]
theorem on_call_ok {crew : List (List Nat)} {W : Int} (hW : 0 < W) {r : Rota} (g : GRota crew W r) (t : Int) : m_on_call [.int W, rotaD r, .int t] = some (optD (onP W r t)) := by
  refine run_eq (fun _ => rfl) ?_
  have i1 : dItem (rotaD r) (.int 1) = some (.tup (r.layers.map layerD)) := rfl
  have i2 : dItem (rotaD r) (.int 2) = some (.tup (r.stands.map standD)) := rfl
  simp [b_on_call, i1, i2]
  rw [← List.map_reverse]
  refine ok_find standD (fun s => (standP s t).isSome) (fun s => optD (standP s t)) (fun ρ => ∃ s3 s4 s5, ρ = [.fz (.int W), .fz (rotaD r), .fz (.int t), s3, s4, s5, .no]) r.stands.reverse _ ⟨_, _, _, rfl⟩ ?_ ?_ ?_
  · rintro s hs ρ ⟨s3, s4, s5, rfl⟩
    refine ⟨_, rfl, ?_⟩
    by_cases h1 : s.1 ≤ t <;> by_cases h2 : t < s.2.1 <;> simp [L1_on_call, standP, h1, h2, optD]
  · intro s hs
    have h1 := List.find?_some hs
    obtain ⟨w, hw⟩ := Option.isSome_iff_exists.mp h1
    have : r.stands.reverse.findSome? (fun s => standP s t) = some w := by
      rw [← hw]
      generalize r.stands.reverse = xs at hs
      clear i1 i2 h1
      induction xs with
      | nil => cases hs
      | cons x xs ih =>
        rw [List.find?_cons] at hs
        rw [List.findSome?_cons]
        cases e : standP x t with
        | none => rw [e] at hs; exact ih hs
        | some v => rw [e] at hs; cases hs; rw [e]
    simp [onP, this, hw]
  · rintro hn ρ ⟨s3, s4, s5, rfl⟩
    have hs : r.stands.reverse.findSome? (fun s => standP s t) = none := by
      rw [List.findSome?_eq_none_iff]
      intro x hx
      have := List.find?_eq_none.mp hn x hx
      simpa using this
    simp [i1]
    rw [← List.map_reverse]
    refine ok_find layerD (fun l => (onLayerP W l t).isSome) (fun l => optD (onLayerP W l t)) (fun ρ => ∃ s5 s6, ρ = [.fz (.int W), .fz (rotaD r), .fz (.int t), s3, s4, s5, s6]) r.layers.reverse _ ⟨_, _, rfl⟩ ?_ ?_ ?_
    · rintro l hl ρ ⟨s5, s6, rfl⟩
      refine ⟨_, rfl, ?_⟩
      have e := on_layer_ok hW (g.2.1 l (List.mem_reverse.mp hl)) t
      simp [L2_on_call, e, optD_is]
    · intro l hl
      have h1 := List.find?_some hl
      obtain ⟨w, hw⟩ := Option.isSome_iff_exists.mp h1
      have : r.layers.reverse.findSome? (fun l => onLayerP W l t) = some w := by
        rw [← hw]
        generalize r.layers.reverse = xs at hl
        clear i1 i2 h1
        induction xs with
        | nil => cases hl
        | cons x xs ih =>
          rw [List.find?_cons] at hl
          rw [List.findSome?_cons]
          cases e : onLayerP W x t with
          | none => rw [e] at hl; exact ih hl
          | some v => rw [e] at hl; cases hl; rw [e]
      simp [onP, hs, this, hw]
    · rintro hn ρ ⟨s5, s6, rfl⟩
      have hl : r.layers.reverse.findSome? (fun l => onLayerP W l t) = none := by
        rw [List.findSome?_eq_none_iff]
        intro x hx
        have := List.find?_eq_none.mp hn x hx
        simpa using this
      simp [onP, hs, hl, optD]
/-- the last item that tells something, over an earlier one -/
def lastSome {α β : Type} (f : α → Option β) (o : Option β) : List α → Option β
  | [] => o
  | x :: xs => lastSome f ((f x).or o) xs
theorem lastSome_eq {α β : Type} (f : α → Option β) : ∀ (xs : List α) (o : Option β), lastSome f o xs = (xs.reverse.findSome? f).or o
  | [], o => by simp [lastSome]
  | x :: xs, o => by
    unfold lastSome
    rw [lastSome_eq f xs, List.reverse_cons, List.findSome?_append, Option.or_assoc]
    congr 1
    cases h : f x <;> simp [h]
theorem lastSome_snoc {α β : Type} (f : α → Option β) : ∀ (xs : List α) (x : α) (o : Option β), lastSome f o (xs ++ [x]) = (f x).or (lastSome f o xs)
  | [], x, o => rfl
  | y :: xs, x, o => lastSome_snoc f xs x _
theorem take_succ' {α : Type} {xs : List α} {j : Nat} {x : α} (h : xs[j]? = some x) : xs.take (j + 1) = xs.take j ++ [x] := by
  rw [List.take_succ, h]
  rfl
theorem law_on_ok {crew : List (List Nat)} {W : Int} (hW : 0 < W) {r : Rota} (g : GRota crew W r) (t : Int) : m__law_on [.int W, rotaD r, .int t] = some (optD (onP W r t)) := by
  have i1 : dItem (rotaD r) (.int 1) = some (.tup (r.layers.map layerD)) := rfl
  have i2 : dItem (rotaD r) (.int 2) = some (.tup (r.stands.map standD)) := rfl
  refine run_eq (fun _ => rfl) ?_
  simp [b__law_on, i1]
  refine ok_each layerD r.layers (fun j ρ => ∃ s4 s5 s6 s7 s8 s9 s10 s11, ρ = [.fz (.int W), .fz (rotaD r), .fz (.int t), .fz (optD (lastSome (fun l => onLayerP W l t) none (r.layers.take j))), s4, s5, s6, s7, s8, s9, s10, s11]) ⟨_, _, _, _, _, _, _, _, rfl⟩ ?_ ?_
  · rintro j l ρ hl ⟨s4, s5, s6, s7, s8, s9, s10, s11, rfl⟩
    refine ⟨_, rfl, ?_⟩
    rw [take_succ' hl, lastSome_snoc]
    have gl := g.2.1 l (List.mem_of_getElem? hl)
    obtain ⟨e1, _⟩ := mem_at gl t
    obtain ⟨g1, g2, g3, g4, g5, g6, g7, g8, g9⟩ := gl
    have hs : 0 < l.shift ∧ l.shift < 1073741824 := by omega
    have hl0 := List.length_pos_iff.mpr g1
    have hl' : 0 < (l.mem.length : Int) := by omega
    generalize lastSome (fun l => onLayerP W l t) none (r.layers.take j) = o
    simp [L2__law_on]
    refine ok_each spanD l.spans (fun i ρ => ∃ s9 s10, ρ = [.fz (.int W), .fz (rotaD r), .fz (.int t), .fz (optD o), .fz (.tup (l.mem.map D.str)), .fz (.int l.start), .fz (.int l.shift), .fz (.tup (l.spans.map spanD)), .fz (.bl (decide (l.spans = []) || hitP W (l.spans.take i) t)), s9, s10, s11]) ⟨s9, s10, by simp [hitP]⟩ ?_ ?_
    · rintro i s ρ hs ⟨s9, s10, rfl⟩
      refine ⟨_, rfl, ?_⟩
      rw [take_succ' hs]
      have eh : hitP W (l.spans.take i ++ [s]) t = (hitP W (l.spans.take i) t || (decide (s.1 ≤ t % W) && decide (t % W < s.2))) := by simp [hitP]
      rw [eh]
      by_cases h1 : s.1 ≤ t % W <;> by_cases h2 : t % W < s.2 <;> simp [L1__law_on, hW, h1, h2]
    · rintro ρ ⟨s9, s10, rfl⟩
      rw [List.take_length]
      simp
      refine ⟨fun h1 => ⟨fun h2 => ?_, fun h2 h3 => ?_⟩, fun h1 => ?_⟩
      · have : onLayerP W l t = some (memAt l t) := by unfold onLayerP; rw [if_pos ⟨h1, h2⟩]
        simp [hs, e1, this, optD, g1, hl0]
      · have : onLayerP W l t = none := by
          unfold onLayerP
          rw [if_neg]
          rintro ⟨_, h⟩
          rcases h with h | h
          · exact h2 h
          · rw [h3] at h; cases h
        simp [this]
      · have : onLayerP W l t = none := by
          unfold onLayerP
          rw [if_neg]
          rintro ⟨h, _⟩
          omega
        simp [this]
  · rintro ρ ⟨s4, s5, s6, s7, s8, s9, s10, s11, rfl⟩
    rw [List.take_length]
    simp [i2]
    refine ok_each standD r.stands (fun j ρ => ∃ s9 s10 s11, ρ = [.fz (.int W), .fz (rotaD r), .fz (.int t), .fz (optD (lastSome (fun s => standP s t) (lastSome (fun l => onLayerP W l t) none r.layers) (r.stands.take j))), s4, s5, s6, s7, s8, s9, s10, s11]) ⟨_, _, _, rfl⟩ ?_ ?_
    · rintro j s ρ hs ⟨s9, s10, s11, rfl⟩
      refine ⟨_, rfl, ?_⟩
      rw [take_succ' hs, lastSome_snoc]
      generalize lastSome (fun s => standP s t) (lastSome (fun l => onLayerP W l t) none r.layers) (r.stands.take j) = o
      by_cases h1 : s.1 ≤ t <;> by_cases h2 : t < s.2.1 <;> simp [L3__law_on, standP, h1, h2, optD]
    · rintro ρ ⟨s9, s10, s11, rfl⟩
      rw [List.take_length]
      simp [lastSome_eq, onP]
theorem on_mem {crew : List (List Nat)} {W : Int} {r : Rota} (g : GRota crew W r) {t : Int} {w : List Nat} (h : onP W r t = some w) : w ∈ crew := by
  unfold onP at h
  cases e : r.stands.reverse.findSome? (fun s => standP s t) with
  | some v =>
    rw [e] at h
    cases h
    obtain ⟨s, hs, h2⟩ := List.exists_of_findSome?_eq_some e
    unfold standP at h2
    split at h2
    · cases h2
      exact (g.2.2.2 s (List.mem_reverse.mp hs)).2.2.2
    · cases h2
  | none =>
    rw [e] at h
    have h : r.layers.reverse.findSome? (fun l => onLayerP W l t) = some w := h
    obtain ⟨l, hl, h2⟩ := List.exists_of_findSome?_eq_some h
    unfold onLayerP at h2
    split at h2
    · cases h2
      exact (mem_at (g.2.1 l (List.mem_reverse.mp hl)) t).2
    · cases h2
end G74

namespace G74
open PySem PySem.Spec PyProof.Rows L2 DL
/-! ### who is surely reached -/
def optI : Option Int → D
  | none => .non
  | some i => .int i
theorem optI_n : optI none = .non := rfl
theorem optI_s (i : Int) : optI (some i) = .int i := rfl
theorem optI_is (o : Option Int) : dIsN (optI o) .non = some o.isNone := by cases o <;> rfl
theorem law_find_ok {α : Type} (enc : α → D) (name : α → List Nat) (hE : ∀ x, dItem (enc x) (.int 0) = some (.str (name x))) (xs : List α) (n : List Nat) (x : α) (h : xs.find? (fun x => decide (name x = n)) = some x) : m__law_find [.lst (xs.map enc), .str n] = some (enc x) := by
  refine run_eq (fun _ => rfl) ?_
  simp [b__law_find]
  refine ok_find enc (fun x => decide (name x = n)) enc (fun ρ => ∃ s, ρ = [.fz (.lst (xs.map enc)), .fz (.str n), s]) xs _ ⟨_, rfl⟩ ?_ ?_ ?_
  · rintro y hy ρ ⟨s, rfl⟩
    refine ⟨_, rfl, ?_⟩
    simp [L1__law_find, hE]
  · intro y hy
    rw [h] at hy
    cases hy
    rfl
  · intro hn
    rw [h] at hn
    cases hn
def sureP (m : Made) (p : List Nat) : Bool := match m.people.find? (fun x => decide (x.1 = p)) with
  | some q => decide (m.down < q.2)
  | none => false
def sureAt (m : Made) (t : Int) (l : List Nat × Int) : Bool := match m.schedules.find? (fun x => decide (x.name = l.1)) with
  | some r => match onP m.week r (t + l.2) with
    | some p => sureP m p
    | none => false
  | none => false
def levelsP (m : Made) (s : Sett) : List (List Nat × Int) := match m.policies.find? (fun x => decide (x.name = s.policy)) with
  | some l => l.levels
  | none => []
theorem ladder_1 (x : Ladder) : dItem (ladderD x) (.int 1) = some (.tup (x.levels.map levelD)) := rfl
section
variable {m : Made} {names worths : List (List Nat)}
theorem is_sure_ok (p : List Nat) (hp : p ∈ m.people.map Prod.fst) : m_is_sure [madeD m, .str p] = some (.bl (sureP m p)) := by
  obtain ⟨q, e, _, _⟩ := find_name Prod.fst m.people p hp
  have e1 := entry_of_ok personD Prod.fst person_0 m.people p (lit "person") q e
  have e2 : m_channels_of [madeD m, .str p] = some (.int q.2) := by
    refine run_eq (fun _ => rfl) ?_
    simp [b_channels_of, fld_people, e1, person_1]
  refine run_eq (fun _ => rfl) ?_
  simp [b_is_sure, e2, fld_down, sureP, e]
theorem law_is_sure_ok (p : List Nat) (hp : p ∈ m.people.map Prod.fst) : m__law_is_sure [madeD m, .str p] = some (.bl (sureP m p)) := by
  obtain ⟨q, e, _, _⟩ := find_name Prod.fst m.people p hp
  have e1 := law_find_ok personD Prod.fst person_0 m.people p q e
  refine run_eq (fun _ => rfl) ?_
  simp [b__law_is_sure, fld_people, e1, person_1, fld_down, sureP, e]
theorem levels_ok (g : GMade m names worths) (s : Sett) (gs : GS m s) : ∃ lad, m.policies.find? (fun x => decide (x.name = s.policy)) = some lad ∧ levelsP m s = lad.levels ∧ lad.levels.length ≤ 3 ∧ ∀ l ∈ levelsP m s, (l.1 ∈ m.schedules.map Rota.name ∧ 0 ≤ l.2 ∧ l.2 ≤ 8) := by
  obtain ⟨lad, e, hm, _⟩ := find_name Ladder.name m.policies s.policy gs.2.2.2.2.2.2.2.2
  have el : levelsP m s = lad.levels := by simp [levelsP, e]
  have gg := g.og lad hm
  exact ⟨lad, e, el, gg.2.1, fun l hl => gg.2.2 l (el ▸ hl)⟩
/-- the same ring, by the program and by the law -/
theorem ring_ok (g : GMade m names worths) (l : List Nat × Int) (hl : l.1 ∈ m.schedules.map Rota.name) : ∃ r, m_schedule_of [madeD m, .str l.1] = some (rotaD r) ∧ m__law_find [.lst (m.schedules.map rotaD), .str l.1] = some (rotaD r) ∧ ∀ t, (m_on_call [.int m.week, rotaD r, .int (t + l.2)] = some (optD (onP m.week r (t + l.2))) ∧ m__law_on [.int m.week, rotaD r, .int (t + l.2)] = some (optD (onP m.week r (t + l.2))) ∧
    ((onP m.week r (t + l.2) = none ∧ sureAt m t l = false) ∨ ∃ p, onP m.week r (t + l.2) = some p ∧ m_is_sure [madeD m, .str p] = some (.bl (sureAt m t l)) ∧ m__law_is_sure [madeD m, .str p] = some (.bl (sureAt m t l)))) := by
  have hW : 0 < m.week := by have := g.w1; omega
  obtain ⟨r, e, hm, _⟩ := find_name Rota.name m.schedules l.1 hl
  have e1 := entry_of_ok rotaD Rota.name rota_0 m.schedules l.1 (lit "schedule") r e
  have e3 := law_find_ok rotaD Rota.name rota_0 m.schedules l.1 r e
  have gr := g.sg r hm
  refine ⟨r, ?_, e3, fun t => ⟨on_call_ok hW gr _, law_on_ok hW gr _, ?_⟩⟩
  · refine run_eq (fun _ => rfl) ?_
    simp [b_schedule_of, fld_schedules, e1]
  · cases eo : onP m.week r (t + l.2) with
    | none => exact .inl ⟨rfl, by simp [sureAt, e, eo]⟩
    | some p =>
      have hp := on_mem gr eo
      have es : sureAt m t l = sureP m p := by simp [sureAt, e, eo]
      exact .inr ⟨p, rfl, by rw [es]; exact is_sure_ok p hp, by rw [es]; exact law_is_sure_ok p hp⟩
/-- a ring, by the law -/
theorem ring_law (g : GMade m names worths) (l : List Nat × Int) (hl : l.1 ∈ m.schedules.map Rota.name) : ∃ r, m__law_find [.lst (m.schedules.map rotaD), .str l.1] = some (rotaD r) ∧ ∀ t, (m__law_on [.int m.week, rotaD r, .int (t + l.2)] = some (optD (onP m.week r (t + l.2))) ∧
    ((onP m.week r (t + l.2) = none ∧ sureAt m t l = false) ∨ ∃ p, onP m.week r (t + l.2) = some p ∧ m__law_is_sure [madeD m, .str p] = some (.bl (sureAt m t l)))) := by
  have hW : 0 < m.week := by have := g.w1; omega
  obtain ⟨r, e, hm, _⟩ := find_name Rota.name m.schedules l.1 hl
  have e3 := law_find_ok rotaD Rota.name rota_0 m.schedules l.1 r e
  have gr := g.sg r hm
  refine ⟨r, e3, fun t => ⟨law_on_ok hW gr _, ?_⟩⟩
  cases eo : onP m.week r (t + l.2) with
  | none => exact .inl ⟨rfl, by simp [sureAt, e, eo]⟩
  | some p =>
    have hp := on_mem gr eo
    have es : sureAt m t l = sureP m p := by simp [sureAt, e, eo]
    exact .inr ⟨p, rfl, by rw [es]; exact law_is_sure_ok p hp⟩
def delayP (m : Made) (s : Sett) (t : Int) : Option Int := leastI (((levelsP m s).filter (sureAt m t)).map Prod.snd)
theorem least_sort {ds : List Int} (h : ds ≠ []) : ∃ x, leastI ds = some x ∧ atI (sortB ltI ds) 0 = some x := by
  have pm := sortB_perm (lt := ltI) ds
  have st := sortI_sorted ds
  cases e : sortB ltI ds with
  | nil => rw [e] at pm; exact absurd (pm.symm.eq_nil) h
  | cons y ys =>
    rw [e] at pm st
    rw [List.pairwise_cons] at st
    have hy : y ∈ ds := pm.mem_iff.mp List.mem_cons_self
    have hmin : ∀ z ∈ ds, y ≤ z := fun z hz => by
      rcases List.mem_cons.mp (pm.mem_iff.mpr hz) with rfl | hz
      · exact Int.le_refl _
      · exact st.1 z hz
    refine ⟨y, ?_, atI_0⟩
    unfold leastI
    cases e2 : ds.find? (fun m => ds.all fun y => decide (m ≤ y)) with
    | none =>
      have := List.find?_eq_none.mp e2 y hy
      exact absurd (List.all_eq_true.mpr fun z hz => decide_eq_true (hmin z hz)) this
    | some x =>
      have hx := List.mem_of_find?_eq_some e2
      have h3 : (ds.all fun y => decide (x ≤ y)) = true := List.find?_some (p := fun m => ds.all fun y => decide (m ≤ y)) e2
      have h4 := of_decide_eq_true (List.all_eq_true.mp h3 y hy)
      have h5 := hmin x hx
      rw [Int.le_antisymm h4 h5]
theorem least_spec {ds : List Int} : (leastI ds = none → ds = []) ∧ ∀ x, leastI ds = some x → x ∈ ds ∧ ∀ y ∈ ds, x ≤ y := by
  refine ⟨fun h => ?_, fun x h => ?_⟩
  · by_cases h0 : ds = []
    · exact h0
    · obtain ⟨x, e, _⟩ := least_sort h0
      rw [h] at e
      cases e
  · unfold leastI at h
    have h3 : (ds.all fun y => decide (x ≤ y)) = true := List.find?_some (p := fun m => ds.all fun y => decide (m ≤ y)) h
    exact ⟨List.mem_of_find?_eq_some h, fun y hy => of_decide_eq_true (List.all_eq_true.mp h3 y hy)⟩
theorem law_delay_ok (g : GMade m names worths) (s : Sett) (gs : GS m s) (t : Int) : m__law_delay [madeD m, settD s, .int t] = some (optI (delayP m s t)) := by
  have hz := line_big
  obtain ⟨lad, e0, el, hl3, hlev⟩ := levels_ok g s gs
  have e1 := law_find_ok ladderD Ladder.name ladder_0 m.policies s.policy lad e0
  refine run_eq (fun _ => rfl) ?_
  simp [b__law_delay, fld_policies, sett_5, e1, ladder_1, ← el]
  refine ok_each levelD (levelsP m s) (fun j ρ => ∃ s4 s5 s6, ρ = [.fz (madeD m), .fz (settD s), .fz (.int t), .ow (.lst (((((levelsP m s).take j).filter (sureAt m t)).map Prod.snd).map D.int)), s4, s5, s6]) ⟨.no, .no, .no, by simp⟩ ?_ ?_
  · rintro j l ρ hl ⟨s4, s5, s6, rfl⟩
    refine ⟨_, rfl, ?_⟩
    rw [take_succ' hl, List.filter_append]
    have hlm := hlev l (List.mem_of_getElem? hl)
    obtain ⟨r, f1, f2⟩ := ring_law g l hlm.1
    obtain ⟨f3, f4⟩ := f2 t
    have hlen : (((levelsP m s).take j).filter (sureAt m t)).length < 1000 := by
      have := List.length_filter_le (sureAt m t) ((levelsP m s).take j)
      have h2 := List.length_take_le j (levelsP m s)
      rw [el] at this h2 ⊢
      have h3 : (lad.levels.take j).length ≤ lad.levels.length := by rw [List.length_take]; omega
      omega
    rcases f4 with ⟨h1, h2⟩ | ⟨p, h1, h3⟩
    · simp [L1__law_delay, fld_week, fld_schedules, f1, f3, h1, optD_n, h2]
    · cases h4 : sureAt m t l
      · simp [L1__law_delay, fld_week, fld_schedules, f1, f3, h1, optD_s, h3, h4]
      · simp [L1__law_delay, fld_week, fld_schedules, f1, f3, h1, optD_s, h3, h4]
        omega
  · rintro ρ ⟨s4, s5, s6, rfl⟩
    rw [List.take_length]
    unfold delayP
    generalize ((levelsP m s).filter (sureAt m t)).map Prod.snd = ds
    by_cases h : ds = []
    · subst h
      simp [leastI, optI]
    · obtain ⟨x, h1, h2⟩ := least_sort h
      simp [h, atI_map, h2, h1, optI]
def failsP (m : Made) (s : Sett) (e t : Int) : Bool := !(levelsP m s).any fun l => decide (t + l.2 ≤ e) && sureAt m t l
end
end G74

namespace G74
open PySem PySem.Spec PyProof.Rows L2 DL
/-! ### what can be -/
def Sm (t : Int) : Prop := -1000 < t ∧ t < 1000
def precedesP (m : Made) (s : Sett) (start t : Int) : Bool := !decide (start ≤ t) && !decide (t < s.wait) && !mutedP m s.mutes t && !forcedP m s.mutes (t + s.again) (t + 1) start
def dueP (s : Sett) (start : Int) (before : Option Int) : Int := match before with
  | none => start + s.wait
  | some b => b + s.interval
def beginsP (m : Made) (s : Sett) (start : Int) (before : Option Int) (t : Int) : Bool := !decide (t < start) && !mutedP m s.mutes t && !forcedP m s.mutes (dueP s start before) start t && (match before with
  | none => decide (s.wait ≤ t)
  | some b => decide (b + s.interval ≤ t))
def followsP (m : Made) (s : Sett) (t later : Int) : Bool := !decide (later < t + s.interval) && !mutedP m s.mutes later && !forcedP m s.mutes (t + s.again) (t + 1) later
section
variable {m : Made} {names worths : List (List Nat)}
theorem due_sm (s : Sett) (gs : GS m s) (start : Int) (before : Option Int) (h1 : Sm start) (hb : ∀ b, before = some b → Sm b) : -2000 < dueP s start before ∧ dueP s start before < 2000 := by
  obtain ⟨k1, k2, k3, k4, k5, k6, k7, k8, k9⟩ := gs
  obtain ⟨h1, h1'⟩ := h1
  unfold dueP
  cases before with
  | none => dsimp only; omega
  | some b => obtain ⟨h2, h3⟩ := hb b rfl; dsimp only; omega
theorem route_at (g : GMade m names worths) (x : Int) : ∃ r, atI (m.routes.map routeD) (x % (m.routes.length : Int)) = some (routeD r) ∧ GS m (Route.sett r) := by
  have hl := List.length_pos_iff.mpr g.r0
  have h0 : 0 ≤ x % (m.routes.length : Int) := Int.emod_nonneg _ (by omega)
  have h1 : x % (m.routes.length : Int) < m.routes.length := Int.emod_lt_of_pos _ (by omega)
  obtain ⟨k, hk⟩ := Int.eq_ofNat_of_zero_le h0
  rw [hk] at h1 ⊢
  have h2 : k < m.routes.length := by omega
  refine ⟨m.routes[k], ?_, g.sett (List.getElem?_eq_getElem h2)⟩
  rw [atI_map, atI_nat (List.getElem?_eq_getElem h2)]
  rfl
end
end G74

namespace G74
open PySem PySem.Spec PyProof.Rows L2 DL
/-! ### the table of failing -/
theorem enumD_eq (n : Nat) (xs : List D) : enumD n xs = (List.range xs.length).map fun k => D.tup [.int ((n + k : Nat) : Int), xs.getD k .non] := by
  apply List.ext_getElem?
  intro i
  by_cases h : i < xs.length
  · have h2 : i < (enumD n xs).length := by rw [enumD_len]; exact h
    obtain ⟨x, h3, h4⟩ := enumD_at (List.getElem?_eq_getElem h2)
    rw [List.getElem?_eq_getElem h2, h4]
    have h5 : xs[i] = x := Option.some.inj ((List.getElem?_eq_getElem h).symm.trans h3)
    simp [h, List.getD_eq_getElem?_getD, h5]
  · rw [List.getElem?_eq_none (by rw [enumD_len]; omega), List.getElem?_eq_none (by simp; omega)]
abbrev Row := Bool × Option Int
def rowD (r : Row) : D := .tup [.bl r.1, optI r.2]
theorem row_0 (r : Row) : dItem (rowD r) (.int 0) = some (.bl r.1) := rfl
theorem row_1 (r : Row) : dItem (rowD r) (.int 1) = some (optI r.2) := rfl
def nextAt (m : Made) (s : Sett) (t : Int) (tab : List Row) (k : Nat) : Option Int := if ((tab.getD k (false, none)).1 && followsP m s t (t + 1 + (k : Int))) = true then some (t + 1 + (k : Int)) else none
def rowP (m : Made) (s : Sett) (e t : Int) (tab : List Row) : Row :=
  if failsP m s e t = false then (false, none)
  else if forcedP m s.mutes (t + s.again) (t + 1) (e + 1) = false then (true, none)
  else match (List.range tab.length).findSome? (nextAt m s t tab) with
    | some u => (true, some u)
    | none => (false, none)
def tabP (m : Made) (s : Sett) (e : Int) : Nat → List Row
  | 0 => []
  | n + 1 => rowP m s e (e - (n : Int)) (tabP m s e n) :: tabP m s e n
theorem tab_len (m : Made) (s : Sett) (e : Int) : ∀ n, (tabP m s e n).length = n
  | 0 => rfl
  | n + 1 => by show (_ :: tabP m s e n).length = n + 1; rw [List.length_cons, tab_len m s e n]
/-- the row of the time e - i -/
def rowAt (m : Made) (s : Sett) (e : Int) (i : Nat) : Row := rowP m s e (e - (i : Int)) (tabP m s e i)
theorem tab_at (m : Made) (s : Sett) (e : Int) : ∀ (n k : Nat), k < n → (tabP m s e n)[k]? = some (rowAt m s e (n - 1 - k))
  | 0, k, h => absurd h (Nat.not_lt_zero _)
  | n + 1, 0, _ => rfl
  | n + 1, k + 1, h => by
    show (tabP m s e n)[k]? = _
    rw [tab_at m s e n k (by omega)]
    congr 2
    omega
def candP (m : Made) (s : Sett) (e t : Int) (k : Nat) : Option Int := if ((rowAt m s e k).1 && followsP m s t (e - (k : Int))) = true then some (e - (k : Int)) else none
theorem range_rev (n : Nat) : (List.range n).reverse = (List.range n).map fun k => n - 1 - k := by
  apply List.ext_getElem
  · simp
  · intro i h1 h2
    simp
theorem find_some_range {β : Type} (f : Nat → Option β) (n : Nat) : (List.range n).findSome? f = match (List.range n).find? (fun k => (f k).isSome) with
    | some k => f k
    | none => none := by
  generalize List.range n = xs
  induction xs with
  | nil => rfl
  | cons x xs ih =>
    rw [List.findSome?_cons, List.find?_cons]
    cases e : f x with
    | none => simpa using ih
    | some y => simp [e]
theorem findSome_congr {α β : Type} {f g : α → Option β} : ∀ {xs : List α}, (∀ x ∈ xs, f x = g x) → xs.findSome? f = xs.findSome? g
  | [], _ => rfl
  | x :: xs, h => by
    rw [List.findSome?_cons, List.findSome?_cons, h x List.mem_cons_self, findSome_congr fun y hy => h y (List.mem_cons_of_mem _ hy)]
section
variable {m : Made} {names worths : List (List Nat)}
end
end G74

namespace G74
open PySem PySem.Spec PyProof.Rows L2 DL
/-! ### the program's way of an alert -/
theorem value_of_ok (l : Labs) (n : List Nat) : m_value_of [labsD l, .str n] = some (.str (valP l n)) := by
  refine run_eq (fun _ => rfl) ?_
  simp [b_value_of, labsD]
  refine ok_find pairD (fun p => decide (p.1 = n)) (fun p => .str p.2) (fun ρ => ∃ s, ρ = [.fz (.tup (l.map pairD)), .fz (.str n), s]) l _ ⟨_, rfl⟩ ?_ ?_ ?_
  · rintro x hx ρ ⟨s, rfl⟩
    refine ⟨_, rfl, ?_⟩
    simp [L1_value_of, pair_0, pair_1]
  · intro x hx
    simp [valP, hx]
  · rintro hn ρ ⟨s, rfl⟩
    simp [valP, hn]
theorem matches_ok (x : Mat) (l : Labs) : m_matches [matD x, labsD l] = some (.bl (matchP x l)) := by
  have e := value_of_ok l x.name
  refine run_eq (fun _ => rfl) ?_
  by_cases h1 : valP l x.name ∈ x.vals <;> cases h2 : x.inside <;> simp [b_matches, matD, e, matchP, h1, h2]
theorem matches_all_ok (ms : List Mat) (l : Labs) : m_matches_all [.tup (ms.map matD), labsD l] = some (.bl (matsP ms l)) := by
  refine run_eq (fun _ => rfl) ?_
  simp [b_matches_all]
  refine ok_any matD (fun m => !matchP m l) (.bl false) (fun ρ => ∃ s2, ρ = [.fz (.tup (ms.map matD)), .fz (labsD l), s2]) ms ⟨_, rfl⟩ ?_ ?_ ?_
  · rintro x hx ρ ⟨s2, rfl⟩
    refine ⟨_, rfl, ?_⟩
    have e := matches_ok x l
    cases h : matchP x l <;> simp [L1_matches_all, e, h]
  · intro h
    obtain ⟨x, h1, h2⟩ := List.any_eq_true.mp h
    congr 1
    symm
    refine Bool.eq_false_iff.mpr fun ha => ?_
    have := List.all_eq_true.mp ha x h1
    simp [this] at h2
  · rintro h ρ ⟨s2, rfl⟩
    show matsP ms l = true
    refine List.all_eq_true.mpr fun x hx => ?_
    cases e : matchP x l with
    | true => rfl
    | false =>
      have : ms.any (fun m => !matchP m l) = true := List.any_eq_true.mpr ⟨x, hx, by simp [e]⟩
      rw [this] at h
      cases h
/-- parents come first -/
def Ups (rs : List Route) : Prop := ∀ (k : Nat) (r : Route) (a : Nat), rs[k]? = some r → r.parent = some a → a < k
theorem GMade.ups {m : Made} {names worths : List (List Nat)} (g : GMade m names worths) : Ups m.routes := fun k r a h hp => by
  have := (g.rg k r h).1
  rw [hp] at this
  exact this
theorem ch_lt {rs : List Route} (hu : Ups rs) {l : Labs} {a k : Nat} (h : chP rs l a k = true) : a < k ∧ k < rs.length := by
  unfold chP at h
  cases e : rs[k]? with
  | none => rw [e] at h; cases h
  | some r =>
    rw [e] at h
    simp only [Bool.and_eq_true, decide_eq_true_eq] at h
    exact ⟨hu k r a e h.1, (List.getElem?_eq_some_iff.mp e).1⟩
theorem child_lt {rs : List Route} (hu : Ups rs) {l : Labs} {a k : Nat} (h : childP rs l a = some k) : a < k ∧ k < rs.length := ch_lt hu (List.find?_some h)
theorem find_shift (P : Nat → Bool) (c n : Nat) (h : ∀ k < c, P k = false) (hc : c ≤ n) : (List.range n).find? P = ((List.range (n - c)).find? fun k => P (c + k)).map (c + ·) := by
  obtain ⟨d, rfl⟩ := Nat.exists_eq_add_of_le hc
  rw [List.range_add, List.find?_append, Nat.add_sub_cancel_left]
  have : (List.range c).find? P = none := by
    rw [List.find?_eq_none]
    intro x hx
    rw [h x (List.mem_range.mp hx)]
    decide
  rw [this, Option.none_or, List.find?_map]
  rfl
theorem later_ok (rs : List Route) (hu : Ups rs) (hl : rs.length ≤ 100) (l : Labs) (a : Nat) (ha : a < rs.length) : m__later [.lst (rs.map routeD), .int (a : Int), labsD l] = some (parD (childP rs l a)) := by
  refine run_eq (fun _ => rfl) ?_
  simp [b__later]
  refine ⟨by omega, ?_⟩
  have es : childP rs l a = ((List.range (rs.length - (a + 1))).find? fun k => chP rs l a (a + 1 + k)).map (a + 1 + ·) := by
    refine find_shift _ _ _ (fun k hk => ?_) (by omega)
    refine Bool.eq_false_iff.mpr fun h => ?_
    have := (ch_lt hu h).1
    omega
  rw [show ((rs.length : Int) - ((a : Int) + 1)).toNat = rs.length - (a + 1) by omega]
  refine ok_findR (fun k => chP rs l a (a + 1 + k)) (fun k => .int ((a : Int) + 1 + (k : Int))) (fun ρ => ∃ s3, ρ = [.fz (.lst (rs.map routeD)), .fz (.int (a : Int)), .fz (labsD l), s3]) ⟨_, rfl⟩ ?_ ?_ ?_
  · rintro k hk ρ ⟨s3, rfl⟩
    refine ⟨_, rfl, ?_⟩
    have hi2 : a + 1 + k < rs.length := by omega
    have er : atI (rs.map routeD) ((a : Int) + 1 + (k : Int)) = some (routeD rs[a + 1 + k]) := by
      rw [atI_map, show ((a : Int) + 1 + (k : Int)) = ((a + 1 + k : Nat) : Int) by omega, atI_nat (List.getElem?_eq_getElem hi2)]
      rfl
    have em := matches_all_ok (rs[a + 1 + k]).mats l
    have ep := par_eq (rs[a + 1 + k]).parent a
    have ec : chP rs l a (a + 1 + k) = (decide ((rs[a + 1 + k]).parent = some a) && matsP (rs[a + 1 + k]).mats l) := by
      unfold chP
      rw [List.getElem?_eq_getElem hi2]
    rw [ec]
    by_cases g1 : (rs[a + 1 + k]).parent = some a
    · cases g2 : matsP (rs[a + 1 + k]).mats l <;> simp [L1__later, er, route_0, route_1, ep, em, g1, g2, parD_s]
    · simp [L1__later, er, route_0, route_1, ep, em, g1]
  · intro k hk
    rw [es, hk]
    simp [parD]
  · rintro hn ρ ⟨s3, rfl⟩
    rw [es, hn]
    simp [parD]
theorem step_stop {rs : List Route} {l : Labs} {w : List Nat} (h : stepW rs l w = w) : ∀ i, (Nat.rec w (fun _ v => stepW rs l v) i : List Nat) = w
  | 0 => rfl
  | i + 1 => by
    show stepW rs l (Nat.rec w (fun _ v => stepW rs l v) i) = w
    rw [step_stop h i, h]
theorem wayN_add (rs : List Route) (l : Labs) (j : Nat) : ∀ i, wayN rs l (j + i) = (Nat.rec (wayN rs l j) (fun _ v => stepW rs l v) i : List Nat)
  | 0 => rfl
  | i + 1 => by
    show stepW rs l (wayN rs l (j + i)) = _
    rw [wayN_add rs l j i]
theorem way_ok (rs : List Route) (hu : Ups rs) (h0 : rs ≠ []) (hl : rs.length ≤ 100) (l : Labs) : m_way [.lst (rs.map routeD), labsD l] = some (.lst (natsD (wayP rs l))) := by
  have hz := line_big
  have lp := List.length_pos_iff.mpr h0
  have e0 := later_ok rs hu hl l 0 lp
  have e0 : m__later [.lst (rs.map routeD), .int 0, labsD l] = some (parD (childP rs l 0)) := e0
  refine run_eq (fun _ => rfl) ?_
  simp [b_way, e0]
  refine ok_whileI (fun i ρ => ∃ (j a : Nat) (ws : List Nat), i + j = 100 ∧ wayN rs l j = ws ++ [a] ∧ j ≤ a ∧ a < rs.length ∧ ws.length = j ∧ ρ = [.fz (.lst (rs.map routeD)), .fz (labsD l), .ow (.lst (natsD (wayN rs l j))), .fz (parD (childP rs l a))]) manyN 100 _ ⟨0, 0, [], rfl, rfl, Nat.le_refl _, lp, rfl, by simp [wayN, natsD]⟩ (by decide) ?_
  rintro i ρ ⟨j, a, ws, h1, h2, h3, h4, h5, rfl⟩
  cases ec : childP rs l a with
  | none =>
    refine ⟨false, by simp [parD, cmp2, dNotN], fun h => (by cases h), fun _ => ?_⟩
    have hs : stepW rs l (wayN rs l j) = wayN rs l j := by
      rw [h2]
      simp [stepW, ec]
    have hw : wayP rs l = wayN rs l j := by
      show wayN rs l rs.length = _
      rw [show rs.length = j + (rs.length - j) by omega, wayN_add, step_stop hs]
    simp [hw]
  | some k =>
    refine ⟨true, by simp [parD, cmp2, dNotN], fun _ => ?_, fun h => (by cases h)⟩
    obtain ⟨k1, k2⟩ := child_lt hu ec
    have hs : wayN rs l (j + 1) = ws ++ [a] ++ [k] := by
      show stepW rs l (wayN rs l j) = _
      rw [h2]
      simp [stepW, ec]
    have e1 := later_ok rs hu hl l k k2
    refine ⟨99 - j, by omega, ?_⟩
    have hlen : (natsD (wayN rs l j)).length < sizeLine := by rw [h2]; simp [natsD]; omega
    refine ok_to (ρ1 := [.fz (.lst (rs.map routeD)), .fz (labsD l), .ow (.lst (natsD (wayN rs l j) ++ [.int (k : Int)])), .fz (parD (childP rs l k))]) (by simp [L1_way, parD_s, e1, hlen]) ?_
    refine ⟨j + 1, k, ws ++ [a], by omega, hs, by omega, k2, by simp [h5], ?_⟩
    rw [hs, h2]
    simp [natsD]
theorem end_of_ok {m : Made} {names worths : List (List Nat)} (g : GMade m names worths) (l : Labs) : m_end_of [.lst (m.routes.map routeD), labsD l] = some (.int (endP m.routes l)) := by
  have rl := g.rl
  have e1 := way_ok m.routes g.ups g.r0 (by omega) l
  obtain ⟨e2, _⟩ := way_end g l
  refine run_eq (fun _ => rfl) ?_
  simp [b_end_of, e1, e2]
end G74

namespace G74
open PySem PySem.Spec PyProof.Rows L2 DL
/-! ### the pages of a script -/
def nxtP (tab : List Row) (start t : Int) : Option Int := (tab.getD (t - start).toNat (false, none)).2
theorem row_next (m : Made) (s : Sett) (e t : Int) (tab : List Row) (u : Int) (h : (rowP m s e t tab).2 = some u) : t < u ∧ u ≤ t + tab.length := by
  unfold rowP at h
  split at h
  · cases h
  · split at h
    · cases h
    · cases ef : (List.range tab.length).findSome? (nextAt m s t tab) with
      | none => rw [ef] at h; cases h
      | some v =>
        rw [ef] at h
        cases h
        obtain ⟨k, hk, h2⟩ := List.exists_of_findSome?_eq_some ef
        have hk := List.mem_range.mp hk
        unfold nextAt at h2
        split at h2
        · cases h2; omega
        · cases h2
theorem nxt_lt (m : Made) (s : Sett) (start e : Int) (n : Nat) (hn : (n : Int) = e - start + 1) (t : Int) (h : start ≤ t ∧ t ≤ e) (u : Int) (hu : nxtP (tabP m s e n) start t = some u) : t < u ∧ u ≤ e := by
  obtain ⟨k, hk⟩ := Int.eq_ofNat_of_zero_le (show 0 ≤ t - start by omega)
  have hkn : k < n := by omega
  unfold nxtP at hu
  rw [hk, Int.toNat_natCast, List.getD_eq_getElem?_getD, tab_at m s e n k hkn] at hu
  have := row_next m s e _ _ u hu
  rw [tab_len] at this
  omega
def pgN (tab : List Row) (start a0 : Int) : Nat → List Int × Int
  | 0 => ([a0], a0)
  | n + 1 => match nxtP tab start (pgN tab start a0 n).2 with
    | none => pgN tab start a0 n
    | some u => ((pgN tab start a0 n).1 ++ [u], u)
theorem pg_succ (tab : List Row) (start a0 : Int) (n : Nat) : pgN tab start a0 (n + 1) = match nxtP tab start (pgN tab start a0 n).2 with
    | none => pgN tab start a0 n
    | some u => ((pgN tab start a0 n).1 ++ [u], u) := rfl
theorem pg_stop {tab : List Row} {start a0 : Int} {j : Nat} (h : nxtP tab start (pgN tab start a0 j).2 = none) : ∀ i, pgN tab start a0 (j + i) = pgN tab start a0 j
  | 0 => rfl
  | i + 1 => by
    rw [← Nat.add_assoc, pg_succ, pg_stop h i, h]
theorem pg_form (tab : List Row) (start a0 : Int) : ∀ n, ∃ ws, (pgN tab start a0 n).1 = ws ++ [(pgN tab start a0 n).2]
  | 0 => ⟨[], rfl⟩
  | n + 1 => by
    rw [pg_succ]
    split
    · exact pg_form tab start a0 n
    · exact ⟨_, rfl⟩
theorem pg_len (tab : List Row) (start a0 : Int) : ∀ n, (pgN tab start a0 n).1.length ≤ n + 1
  | 0 => by simp [pgN]
  | n + 1 => by
    have ih := pg_len tab start a0 n
    rw [pg_succ]
    split
    · omega
    · simp; omega
section
variable {m : Made} {s : Sett} {start e a0 : Int} {n : Nat}
theorem pg_in (hn : (n : Int) = e - start + 1) (ha : start ≤ a0 ∧ a0 ≤ e) : ∀ j, a0 ≤ (pgN (tabP m s e n) start a0 j).2 ∧ (pgN (tabP m s e n) start a0 j).2 ≤ e
  | 0 => ⟨Int.le_refl _, ha.2⟩
  | j + 1 => by
    have ih := pg_in hn ha j
    rw [pg_succ]
    split
    · exact ih
    · rename_i u hu
      have := nxt_lt m s start e n hn _ ⟨by omega, ih.2⟩ u hu
      exact ⟨by dsimp only; omega, this.2⟩
theorem pg_grow (hn : (n : Int) = e - start + 1) (ha : start ≤ a0 ∧ a0 ≤ e) : ∀ j, nxtP (tabP m s e n) start (pgN (tabP m s e n) start a0 j).2 = none ∨ a0 + j ≤ (pgN (tabP m s e n) start a0 j).2
  | 0 => .inr (by simp [pgN])
  | j + 1 => by
    have ih := pg_in (m := m) (s := s) hn ha j
    rw [pg_succ]
    split
    · rename_i h; exact .inl h
    · rename_i u hu
      have h2 := nxt_lt m s start e n hn _ ⟨by omega, ih.2⟩ u hu
      rcases pg_grow hn ha j with h | h
      · rw [h] at hu; cases hu
      · exact .inr (by dsimp only; omega)
/-- the pages, from the first one on -/
def pagesP (tab : List Row) (start a0 : Int) (n : Nat) : List Int := (pgN tab start a0 n).1
theorem row_item (hn : (n : Int) = e - start + 1) (t : Int) (h : start ≤ t ∧ t ≤ e) : atI ((tabP m s e n).map rowD) (t - start) = some (rowD ((tabP m s e n).getD (t - start).toNat (false, none))) := by
  have hl := tab_len m s e n
  rw [atI_map, atI_in (by omega) (by omega) (false, none)]
  rfl
end
/-! ### scripts -/
def begAt (m : Made) (s : Sett) (start : Int) (before : Option Int) (tab : List Row) (k : Nat) : Bool := (tab.getD k (false, none)).1 && beginsP m s start before (start + (k : Int))
def scriptP (m : Made) (s : Sett) (start e : Int) (before : Option Int) (tab : List Row) (n : Nat) : Option (List Int) :=
  if forcedP m s.mutes (dueP s start before) start (e + 1) = false then some []
  else ((List.range n).find? (begAt m s start before tab)).map fun k : Nat => pagesP tab start (start + (k : Int)) n
def scrD (start : Int) (before : Option Int) (o : Option (List Int)) : D := match o with
  | none => .non
  | some ps => .tup [.int start, optI before, .tup (ps.map D.int)]
section
variable {m : Made} {names worths : List (List Nat)} {s : Sett} {start e : Int} {n : Nat} {before : Option Int}
/-! ### the gap -/
def candsP (m : Made) (s : Sett) (start : Int) (t : Nat) : List (Option Int) := none :: (((List.range t).filter fun k : Nat => precedesP m s start (k : Int)).map fun k : Nat => some (k : Int))
def trialP (m : Made) (s : Sett) (start e : Int) (n : Nat) (b : Option Int) : Option (Option Int × List Int) := (scriptP m s start e b (tabP m s e n) n).map fun ps => (b, ps)
def gapAt (m : Made) (s : Sett) (start e : Int) (n t : Nat) : Option (Option Int × List Int) := (candsP m s start t).findSome? (trialP m s start e n)
def gapD (start : Int) (o : Option (Option Int × List Int)) : D := match o with
  | none => .non
  | some (b, ps) => .tup [.int start, optI b, .tup (ps.map D.int)]
theorem gap_scr (start : Int) (b : Option Int) (o : Option (List Int)) : scrD start b o = gapD start (o.map fun ps => (b, ps)) := by cases o <;> rfl
theorem gapD_is (start : Int) (o : Option (Option Int × List Int)) : dIsN (gapD start o) .non = some o.isNone := by cases o <;> rfl
theorem gap_succ (m : Made) (s : Sett) (start e : Int) (n t : Nat) : gapAt m s start e n (t + 1) = (gapAt m s start e n t).or (if precedesP m s start (t : Int) = true then trialP m s start e n (some (t : Int)) else none) := by
  have hc : candsP m s start (t + 1) = candsP m s start t ++ (if precedesP m s start (t : Int) = true then [some (t : Int)] else []) := by
    unfold candsP
    rw [List.range_succ, List.filter_append, List.map_append]
    cases h : precedesP m s start (t : Int) <;> simp [h]
  unfold gapAt
  rw [hc, List.findSome?_append]
  split <;> simp
theorem gap_keep (m : Made) (s : Sett) (start e : Int) (n : Nat) {t : Nat} {x : Option Int × List Int} (h : gapAt m s start e n t = some x) : ∀ i, gapAt m s start e n (t + i) = some x
  | 0 => h
  | i + 1 => by rw [← Nat.add_assoc, gap_succ, gap_keep m s start e n h i]; rfl
/-- the gap of an alert of these settings -/
def gapP (m : Made) (s : Sett) (start limit : Int) : Option (Option Int × List Int) := gapAt m s start (start + limit) (limit + 1).toNat start.toNat
/-! ### the law's script -/
end
end G74

namespace G74
open PySem PySem.Spec PyProof.Rows L2 DL
/-! ### least common multiples -/
def lawLcm (a b : Nat) : Nat := if 2000 < a ∨ 2000 < b then 2001 else Nat.lcm a b
theorem lcm_ge {a b : Nat} (ha : 0 < a) (hb : 0 < b) : a ≤ Nat.lcm a b ∧ b ≤ Nat.lcm a b ∧ 0 < Nat.lcm a b := by
  have h := Nat.lcm_pos ha hb
  exact ⟨Nat.le_of_dvd h (Nat.dvd_lcm_left a b), Nat.le_of_dvd h (Nat.dvd_lcm_right a b), h⟩
theorem lawLcm_pos {a b : Nat} (ha : 0 < a) (hb : 0 < b) : 0 < lawLcm a b := by
  unfold lawLcm
  split
  · decide
  · exact Nat.lcm_pos ha hb
theorem law_lcm_ok (a b : Nat) (ha : 0 < a) (hb : 0 < b) : m__law_lcm [.int (a : Int), .int (b : Int)] = some (.int ((lawLcm a b : Nat) : Int)) := by
  refine run_eq (fun _ => rfl) ?_
  by_cases h1 : 2000 < a
  · have h1' : (2000 : Int) < (a : Int) := by omega
    have e : lawLcm a b = 2001 := by unfold lawLcm; rw [if_pos (.inl h1)]
    simp [b__law_lcm, h1', e]
  · by_cases h2 : 2000 < b
    · have h1' : ¬ (2000 : Int) < (a : Int) := by omega
      have h2' : (2000 : Int) < (b : Int) := by omega
      have e : lawLcm a b = 2001 := by unfold lawLcm; rw [if_pos (.inr h2)]
      simp [b__law_lcm, h1', h2', e]
    · have h1' : ¬ (2000 : Int) < (a : Int) := by omega
      have h2' : ¬ (2000 : Int) < (b : Int) := by omega
      have e : lawLcm a b = Nat.lcm a b := by unfold lawLcm; rw [if_neg (by omega)]
      obtain ⟨k0, hk0⟩ := Nat.dvd_lcm_left a b
      have hp := Nat.lcm_pos ha hb
      have k0p : 0 < k0 := Nat.pos_of_ne_zero fun h => by rw [h, Nat.mul_zero] at hk0; omega
      have k0b : k0 ≤ b := by
        have h3 : Nat.lcm a b ≤ a * b := PySem.W.mc_lcm_le a b
        rw [hk0] at h3
        exact Nat.le_of_mul_le_mul_left h3 ha
      have key : ∀ i, 0 < i → (a * i % b = 0 ↔ k0 ≤ i ∧ a * i % b = 0) := fun i hi => ⟨fun h => ⟨by
        have h3 : Nat.lcm a b ∣ a * i := Nat.lcm_dvd ⟨i, rfl⟩ (Nat.dvd_of_mod_eq_zero h)
        have h4 := Nat.le_of_dvd (Nat.mul_pos ha hi) h3
        rw [hk0] at h4
        exact Nat.le_of_mul_le_mul_left h4 ha, h⟩, fun h => h.2⟩
      have k0m : a * k0 % b = 0 := by rw [← hk0]; exact Nat.mod_eq_zero_of_dvd (Nat.dvd_lcm_right a b)
      simp [b__law_lcm, h1', h2', e]
      refine ⟨by omega, ?_⟩
      refine ok_range (fun j ρ => ∃ s3, ρ = [.fz (.int (a : Int)), .fz (.int (b : Int)), .fz (.int ((a * min (j + 1) k0 : Nat) : Int)), s3]) ⟨.no, by rw [show min (0 + 1) k0 = 1 by omega, Nat.mul_one]⟩ ?_ ?_
      · rintro j ρ hj ⟨s3, rfl⟩
        refine ⟨_, rfl, ?_⟩
        by_cases hk : k0 ≤ j + 1
        · have e1 : min (j + 1) k0 = k0 := by omega
          have e2 : min (j + 1 + 1) k0 = k0 := by omega
          have e3 : ((a * k0 : Nat) : Int) % (b : Int) = 0 := by rw [← Int.natCast_emod, k0m]; rfl
          rw [e1, e2]
          generalize ((a * k0 : Nat) : Int) = z at e3
          simp [L1__law_lcm, hb, e3]
        · have e1 : min (j + 1) k0 = j + 1 := by omega
          have e2 : min (j + 1 + 1) k0 = j + 1 + 1 := by omega
          have e3 : ¬ ((a * (j + 1) : Nat) : Int) % (b : Int) = 0 := by
            rw [← Int.natCast_emod]
            intro h
            have h4 : a * (j + 1) % b = 0 := by omega
            have := ((key (j + 1) (by omega)).mp h4).1
            omega
          have e4 : ((a * (j + 1) : Nat) : Int) + (a : Int) = ((a * (j + 1 + 1) : Nat) : Int) := by rw [Nat.mul_add a (j + 1) 1]; omega
          rw [e1, e2]
          rw [← e4]
          generalize ((a * (j + 1) : Nat) : Int) = z at e3
          simp [L1__law_lcm, hb, e3]
      · rintro ρ ⟨s3, rfl⟩
        rw [show min (b + 1) k0 = k0 by omega, ← hk0]
        simp
/-- alike, or both above the bound -/
def Cap (x t : Nat) : Prop := x = t ∨ (2000 < x ∧ 2000 < t)
theorem cap_lcm {x t y u : Nat} (h1 : Cap x t) (h2 : Cap y u) (ht : 0 < t) (hu : 0 < u) : Cap (lawLcm x y) (Nat.lcm t u) := by
  obtain ⟨g1, g2, _⟩ := lcm_ge ht hu
  unfold lawLcm
  rcases h1 with rfl | ⟨h1, h1'⟩
  · rcases h2 with rfl | ⟨h2, h2'⟩
    · split
      · exact .inr ⟨by decide, by omega⟩
      · exact .inl rfl
    · rw [if_pos (.inr h2)]
      exact .inr ⟨by decide, by omega⟩
  · rw [if_pos (.inl h1)]
    exact .inr ⟨by decide, by omega⟩
/-! ### periods -/
def perStep (W : Nat) (n : Nat) (l : Layer) : Nat :=
  let n1 := if 1 < l.mem.length then Nat.lcm n (l.shift.toNat * l.mem.length) else n
  if l.spans = [] then n1 else Nat.lcm n1 W
def lperStep (W : Nat) (n : Nat) (l : Layer) : Nat :=
  let n1 := if 1 < l.mem.length then lawLcm n (l.shift.toNat * l.mem.length) else n
  if l.spans = [] then n1 else lawLcm n1 W
def perP (W : Nat) (ls : List Layer) : Nat := ls.foldl (perStep W) 1
def lperP (W : Nat) (ls : List Layer) : Nat := ls.foldl (lperStep W) 1
theorem foldl_take {α β : Type} (f : β → α → β) (b : β) {xs : List α} {j : Nat} {x : α} (h : xs[j]? = some x) : (xs.take (j + 1)).foldl f b = f ((xs.take j).foldl f b) x := by
  rw [take_succ' h, List.foldl_append]
  rfl
section
variable {crew : List (List Nat)} {W : Int}
theorem per_pos (hW : 0 < W.toNat) : ∀ (ls : List Layer), (∀ l ∈ ls, GLayer crew W l) → ∀ n, 0 < n → 0 < ls.foldl (perStep W.toNat) n ∧ ls.foldl (perStep W.toNat) n ≤ n * 648 ^ ls.length ∨ ¬ W.toNat ≤ 24
  | [], _, n, hn => .inl ⟨hn, by simp⟩
  | l :: ls, h, n, hn => by
    by_cases hw : W.toNat ≤ 24
    · obtain ⟨g1, g2, g3, g4, g5, g6, g7, g8, g9⟩ := h l List.mem_cons_self
      have hl := List.length_pos_iff.mpr g1
      have hs : 0 < l.shift.toNat * l.mem.length := Nat.mul_pos (by omega) hl
      have hs2 : l.shift.toNat * l.mem.length ≤ 27 := by
        have : l.shift.toNat * l.mem.length ≤ 9 * 3 := Nat.mul_le_mul (by omega) g2
        omega
      have hstep : 0 < perStep W.toNat n l ∧ perStep W.toNat n l ≤ n * 648 := by
        have a1 : ∀ k, 0 < k → k ≤ n * 27 → (0 < (if l.spans = [] then k else Nat.lcm k W.toNat) ∧ (if l.spans = [] then k else Nat.lcm k W.toNat) ≤ n * 648) := by
          intro k hk hk2
          split
          · exact ⟨hk, by omega⟩
          · refine ⟨Nat.lcm_pos hk hW, ?_⟩
            have h3 := PySem.W.mc_lcm_le k W.toNat
            have h4 : k * W.toNat ≤ n * 27 * 24 := Nat.mul_le_mul hk2 hw
            omega
        refine a1 (if 1 < l.mem.length then Nat.lcm n (l.shift.toNat * l.mem.length) else n) ?_ ?_
        · split
          · exact Nat.lcm_pos hn hs
          · exact hn
        · split
          · have h3 := PySem.W.mc_lcm_le n (l.shift.toNat * l.mem.length)
            have h4 : n * (l.shift.toNat * l.mem.length) ≤ n * 27 := Nat.mul_le_mul_left n hs2
            omega
          · omega
      rcases per_pos hW ls (fun x hx => h x (List.mem_cons_of_mem _ hx)) (perStep W.toNat n l) hstep.1 with h5 | h5
      · refine .inl ⟨h5.1, Nat.le_trans h5.2 ?_⟩
        rw [List.length_cons, Nat.pow_succ, Nat.mul_comm (648 ^ ls.length) 648, ← Nat.mul_assoc]
        exact Nat.mul_le_mul_right _ hstep.2
      · exact absurd hw h5
    · exact .inr hw
theorem per_le (hW : 0 < W.toNat) (hw : W.toNat ≤ 24) (ls : List Layer) (h : ∀ l ∈ ls, GLayer crew W l) (hl : ls.length ≤ 2) : 0 < perP W.toNat ls ∧ perP W.toNat ls ≤ 419904 := by
  rcases per_pos (crew := crew) hW ls h 1 (by decide) with h1 | h1
  · refine ⟨h1.1, Nat.le_trans h1.2 ?_⟩
    rw [Nat.one_mul]
    exact Nat.le_trans (Nat.pow_le_pow_right (by decide) hl) (by decide)
  · exact absurd hw h1
theorem lstep_pos (hW : 0 < W.toNat) {l : Layer} (g : GLayer crew W l) {n : Nat} (hn : 0 < n) : 0 < lperStep W.toNat n l := by
  obtain ⟨g1, g2, g3, g4, g5, g6, g7, g8, g9⟩ := g
  have hl := List.length_pos_iff.mpr g1
  have hs : 0 < l.shift.toNat * l.mem.length := Nat.mul_pos (by omega) hl
  have a1 : ∀ k, 0 < k → 0 < (if l.spans = [] then k else lawLcm k W.toNat) := fun k hk => by
    split
    · exact hk
    · exact lawLcm_pos hk hW
  refine a1 (if 1 < l.mem.length then lawLcm n (l.shift.toNat * l.mem.length) else n) ?_
  split
  · exact lawLcm_pos hn hs
  · exact hn
theorem lper_pos (hW : 0 < W.toNat) : ∀ (ls : List Layer), (∀ l ∈ ls, GLayer crew W l) → ∀ n, 0 < n → 0 < ls.foldl (lperStep W.toNat) n
  | [], _, n, hn => hn
  | l :: ls, h, n, hn => lper_pos hW ls (fun x hx => h x (List.mem_cons_of_mem _ hx)) _ (lstep_pos hW (h l List.mem_cons_self) hn)
theorem cap_step (hW : 0 < W.toNat) {l : Layer} (g : GLayer crew W l) {x n : Nat} (hn : 0 < n) (h : Cap x n) : Cap (lperStep W.toNat x l) (perStep W.toNat n l) ∧ 0 < perStep W.toNat n l := by
  obtain ⟨g1, g2, g3, g4, g5, g6, g7, g8, g9⟩ := g
  have hl := List.length_pos_iff.mpr g1
  have hs : 0 < l.shift.toNat * l.mem.length := Nat.mul_pos (by omega) hl
  have a1 : ∀ y k, 0 < k → Cap y k → Cap (if l.spans = [] then y else lawLcm y W.toNat) (if l.spans = [] then k else Nat.lcm k W.toNat) ∧ 0 < (if l.spans = [] then k else Nat.lcm k W.toNat) := fun y k hk hc => by
    split
    · exact ⟨hc, hk⟩
    · exact ⟨cap_lcm hc (.inl rfl) hk hW, Nat.lcm_pos hk hW⟩
  refine a1 (if 1 < l.mem.length then lawLcm x (l.shift.toNat * l.mem.length) else x) (if 1 < l.mem.length then Nat.lcm n (l.shift.toNat * l.mem.length) else n) ?_ ?_
  · split
    · exact Nat.lcm_pos hn hs
    · exact hn
  · split
    · exact cap_lcm h (.inl rfl) hn hs
    · exact h
theorem cap_per (hW : 0 < W.toNat) : ∀ (ls : List Layer), (∀ l ∈ ls, GLayer crew W l) → ∀ x n, 0 < n → Cap x n → Cap (ls.foldl (lperStep W.toNat) x) (ls.foldl (perStep W.toNat) n)
  | [], _, _, _, _, hc => hc
  | l :: ls, h, x, n, hn, hc => by
    obtain ⟨h1, h2⟩ := cap_step hW (h l List.mem_cons_self) hn hc
    exact cap_per hW ls (fun y hy => h y (List.mem_cons_of_mem _ hy)) _ _ h2 h1
theorem rota_1 (r : Rota) : dItem (rotaD r) (.int 1) = some (.tup (r.layers.map layerD)) := rfl
theorem rota_2 (r : Rota) : dItem (rotaD r) (.int 2) = some (.tup (r.stands.map standD)) := rfl
theorem period_ok (hW : 0 < W.toNat) (hw : W.toNat ≤ 24) {r : Rota} (g : GRota crew W r) : m_period [.int W, rotaD r] = some (.int ((perP W.toNat r.layers : Nat) : Int)) := by
  refine run_eq (fun _ => rfl) ?_
  simp [b_period, rota_1]
  refine ok_each layerD r.layers (fun j ρ => ∃ s3 s4 s5 s6, ρ = [.fz (.int W), .fz (rotaD r), .fz (.int ((perP W.toNat (r.layers.take j) : Nat) : Int)), s3, s4, s5, s6]) ⟨.no, .no, .no, .no, by simp [perP]⟩ ?_ ?_
  · rintro j l ρ hl ⟨s3, s4, s5, s6, rfl⟩
    refine ⟨_, rfl, ?_⟩
    have gl := g.2.1 l (List.mem_of_getElem? hl)
    have ht : ∀ x ∈ r.layers.take j, GLayer crew W x := fun x hx => g.2.1 x (List.mem_of_mem_take hx)
    obtain ⟨n0, n1⟩ := per_le hW hw (r.layers.take j) ht (by have := g.1; rw [List.length_take]; omega)
    obtain ⟨g1, g2, g3, g4, g5, g6, g7, g8, g9⟩ := gl
    have hl1 := List.length_pos_iff.mpr g1
    have hs2 : l.shift.toNat * l.mem.length ≤ 27 := by
      have : l.shift.toNat * l.mem.length ≤ 9 * 3 := Nat.mul_le_mul (by omega) g2
      omega
    have e0 : perP W.toNat (r.layers.take (j + 1)) = perStep W.toNat (perP W.toNat (r.layers.take j)) l := foldl_take _ _ hl
    rw [e0]
    generalize perP W.toNat (r.layers.take j) = n at n0 n1
    have es : l.shift * (l.mem.length : Int) = ((l.shift.toNat * l.mem.length : Nat) : Int) := by
      rw [Int.natCast_mul, Int.toNat_of_nonneg (by omega)]
    have hz : (-(2 ^ 64) < l.shift ∧ l.shift < 2 ^ 64) := by omega
    have el1 : dLcm [.int (n : Int), .int (l.shift * (l.mem.length : Int))] = some (.int ((Nat.lcm n (l.shift.toNat * l.mem.length) : Nat) : Int)) := by
      rw [es]
      generalize l.shift.toNat * l.mem.length = q at hs2
      rw [dLcm_ii, if_pos (by simp only [Int.natAbs_natCast]; omega)]
      rfl
    have el2 : ∀ k : Nat, k < 20000000 → dLcm [.int (k : Int), .int W] = some (.int ((Nat.lcm k W.toNat : Nat) : Int)) := fun k hk => by
      have : W = (W.toNat : Int) := by omega
      rw [this, dLcm_ii, if_pos (by simp only [Int.natAbs_natCast]; omega)]
      simp only [Int.natAbs_natCast, Int.toNat_natCast]
    have h27 : Nat.lcm n (l.shift.toNat * l.mem.length) ≤ n * 27 := Nat.le_trans (PySem.W.mc_lcm_le _ _) (Nat.mul_le_mul_left n hs2)
    by_cases h1 : 1 < l.mem.length
    · have h1' : (1 : Int) < (l.mem.length : Int) := by omega
      by_cases h2 : l.spans = []
      · have ep : perStep W.toNat n l = Nat.lcm n (l.shift.toNat * l.mem.length) := by unfold perStep; simp [h1, h2]
        rw [ep]
        simp [L1_period, layerD, h1', h2, hz, el1]
        omega
      · have ep : perStep W.toNat n l = Nat.lcm (Nat.lcm n (l.shift.toNat * l.mem.length)) W.toNat := by unfold perStep; simp [h1, h2]
        have e3 := el2 (Nat.lcm n (l.shift.toNat * l.mem.length)) (by omega)
        rw [ep]
        simp [L1_period, layerD, h1', h2, hz, el1, e3]
        omega
    · have h1' : ¬ (1 : Int) < (l.mem.length : Int) := by omega
      by_cases h2 : l.spans = []
      · have ep : perStep W.toNat n l = n := by unfold perStep; simp [h1, h2]
        rw [ep]
        simp [L1_period, layerD, h1', h2]
      · have ep : perStep W.toNat n l = Nat.lcm n W.toNat := by unfold perStep; simp [h1, h2]
        have e3 := el2 n (by omega)
        rw [ep]
        simp [L1_period, layerD, h1', h2, e3]
  · rintro ρ ⟨s3, s4, s5, s6, rfl⟩
    rw [List.take_length]
    simp
theorem law_period_ok (hW : 0 < W.toNat) (hw : W.toNat ≤ 24) {r : Rota} (g : GRota crew W r) : m__law_period [.int W, rotaD r] = some (.int ((lperP W.toNat r.layers : Nat) : Int)) := by
  refine run_eq (fun _ => rfl) ?_
  simp [b__law_period, rota_1]
  refine ok_each layerD r.layers (fun j ρ => ∃ s3 s4 s5 s6, ρ = [.fz (.int W), .fz (rotaD r), .fz (.int ((lperP W.toNat (r.layers.take j) : Nat) : Int)), s3, s4, s5, s6]) ⟨.no, .no, .no, .no, by simp [lperP]⟩ ?_ ?_
  · rintro j l ρ hl ⟨s3, s4, s5, s6, rfl⟩
    refine ⟨_, rfl, ?_⟩
    have gl := g.2.1 l (List.mem_of_getElem? hl)
    have ht : ∀ x ∈ r.layers.take j, GLayer crew W x := fun x hx => g.2.1 x (List.mem_of_mem_take hx)
    have n0 : 0 < lperP W.toNat (r.layers.take j) := lper_pos hW _ ht 1 (by decide)
    obtain ⟨g1, g2, g3, g4, g5, g6, g7, g8, g9⟩ := gl
    have hl1 := List.length_pos_iff.mpr g1
    have hs : 0 < l.shift.toNat * l.mem.length := Nat.mul_pos (by omega) hl1
    have hs2 : l.shift.toNat * l.mem.length ≤ 27 := by
      have : l.shift.toNat * l.mem.length ≤ 9 * 3 := Nat.mul_le_mul (by omega) g2
      omega
    have e0 : lperP W.toNat (r.layers.take (j + 1)) = lperStep W.toNat (lperP W.toNat (r.layers.take j)) l := foldl_take _ _ hl
    rw [e0]
    generalize lperP W.toNat (r.layers.take j) = n at n0
    have es : l.shift * (l.mem.length : Int) = ((l.shift.toNat * l.mem.length : Nat) : Int) := by
      rw [Int.natCast_mul, Int.toNat_of_nonneg (by omega)]
    have hz : (-(2 ^ 64) < l.shift ∧ l.shift < 2 ^ 64) := by omega
    have el1 : m__law_lcm [.int (n : Int), .int (l.shift * (l.mem.length : Int))] = some (.int ((lawLcm n (l.shift.toNat * l.mem.length) : Nat) : Int)) := by
      rw [es]
      exact law_lcm_ok n _ n0 hs
    have el2 : ∀ k : Nat, 0 < k → m__law_lcm [.int (k : Int), .int W] = some (.int ((lawLcm k W.toNat : Nat) : Int)) := fun k hk => by
      have : W = (W.toNat : Int) := by omega
      have e := law_lcm_ok k W.toNat hk hW
      rwa [← this] at e
    by_cases h1 : 1 < l.mem.length
    · have h1' : (1 : Int) < (l.mem.length : Int) := by omega
      by_cases h2 : l.spans = []
      · have ep : lperStep W.toNat n l = lawLcm n (l.shift.toNat * l.mem.length) := by unfold lperStep; simp [h1, h2]
        rw [ep]
        simp [L1__law_period, layerD, h1', h2, hz, el1]
        omega
      · have h2' : (0 : Int) < (l.spans.length : Int) := by have := List.length_pos_iff.mpr h2; omega
        have ep : lperStep W.toNat n l = lawLcm (lawLcm n (l.shift.toNat * l.mem.length)) W.toNat := by unfold lperStep; simp [h1, h2]
        have e3 := el2 (lawLcm n (l.shift.toNat * l.mem.length)) (lawLcm_pos n0 hs)
        rw [ep]
        simp [L1__law_period, layerD, h1', h2, h2', hz, el1, e3]
        omega
    · have h1' : ¬ (1 : Int) < (l.mem.length : Int) := by omega
      by_cases h2 : l.spans = []
      · have ep : lperStep W.toNat n l = n := by unfold lperStep; simp [h1, h2]
        rw [ep]
        simp [L1__law_period, layerD, h1', h2]
      · have h2' : (0 : Int) < (l.spans.length : Int) := by have := List.length_pos_iff.mpr h2; omega
        have ep : lperStep W.toNat n l = lawLcm n W.toNat := by unfold lperStep; simp [h1, h2]
        have e3 := el2 n n0
        rw [ep]
        simp [L1__law_period, layerD, h1', h2, h2', e3]
  · rintro ρ ⟨s3, s4, s5, s6, rfl⟩
    rw [List.take_length]
    simp
/-! ### settled -/
def mx (a b : Int) : Int := if b > a then b else a
theorem mx_ok (a b : Int) : dMax [.int a, .int b] = some (.int (mx a b)) := rfl
def endsP (r : Rota) : List Int := r.layers.map Layer.start ++ r.stands.map fun s => s.2.1
def setP (r : Rota) : Int := (endsP r).foldl mx 0
theorem mx_ge (a b : Int) : a ≤ mx a b ∧ b ≤ mx a b ∧ (mx a b = a ∨ mx a b = b) := by unfold mx; split <;> omega
theorem fold_mx : ∀ (xs : List Int) (a : Int), a ≤ xs.foldl mx a ∧ (∀ x ∈ xs, x ≤ xs.foldl mx a) ∧ (xs.foldl mx a = a ∨ xs.foldl mx a ∈ xs)
  | [], a => ⟨Int.le_refl _, fun _ h => (by cases h), .inl rfl⟩
  | x :: xs, a => by
    obtain ⟨h1, h2, h3⟩ := fold_mx xs (mx a x)
    obtain ⟨k1, k2, k3⟩ := mx_ge a x
    refine ⟨Int.le_trans k1 h1, fun y hy => ?_, ?_⟩
    · rcases List.mem_cons.mp hy with rfl | hy
      · exact Int.le_trans k2 h1
      · exact h2 y hy
    · show xs.foldl mx (mx a x) = a ∨ _
      rcases h3 with h3 | h3
      · rw [h3]
        rcases k3 with k3 | k3
        · exact .inl k3
        · exact .inr (by show xs.foldl mx (mx a x) ∈ _; rw [h3, k3]; exact List.mem_cons_self)
      · exact .inr (List.mem_cons_of_mem _ h3)
theorem great_fold (xs : List Int) (a : Int) : greatI (a :: xs) = some (xs.foldl mx a) := by
  obtain ⟨h1, h2, h3⟩ := fold_mx xs a
  generalize xs.foldl mx a = m at h1 h2 h3
  have hm : m ∈ a :: xs := by
    rcases h3 with rfl | h3
    · exact List.mem_cons_self
    · exact List.mem_cons_of_mem _ h3
  have hle : ∀ y ∈ a :: xs, y ≤ m := fun y hy => by
    rcases List.mem_cons.mp hy with rfl | hy
    · exact h1
    · exact h2 y hy
  unfold greatI
  cases e : (a :: xs).find? (fun m => (a :: xs).all fun y => decide (y ≤ m)) with
  | none =>
    have := List.find?_eq_none.mp e m hm
    exact absurd (List.all_eq_true.mpr fun z hz => decide_eq_true (hle z hz)) this
  | some x =>
    have hx := List.mem_of_find?_eq_some e
    have h5 : ((a :: xs).all fun y => decide (y ≤ x)) = true := List.find?_some (p := fun m => (a :: xs).all fun y => decide (y ≤ m)) e
    have h6 := of_decide_eq_true (List.all_eq_true.mp h5 m hm)
    rw [Int.le_antisymm (hle x hx) h6]
theorem layer_1 (l : Layer) : dItem (layerD l) (.int 1) = some (.int l.start) := rfl
theorem stand_1 (s : Int × Int × List Nat) : dItem (standD s) (.int 1) = some (.int s.2.1) := rfl
theorem settled_ok {r : Rota} (g : GRota crew W r) : m_settled [rotaD r] = some (.int (setP r)) := by
  have hz := line_big
  have l1 := g.1
  have l2 := g.2.2.1
  refine run_eq (fun _ => rfl) ?_
  simp [b_settled, rota_1]
  refine ok_each layerD r.layers (fun j ρ => ∃ s2 s3, ρ = [.fz (rotaD r), .ow (.lst ((0 :: (r.layers.take j).map Layer.start).map D.int)), s2, s3]) ⟨.no, .no, by simp⟩ ?_ ?_
  · rintro j l ρ hl ⟨s2, s3, rfl⟩
    refine ⟨_, rfl, ?_⟩
    rw [take_succ' hl]
    have : (r.layers.take j).length ≤ 2 := by rw [List.length_take]; omega
    simp [L1_settled, layer_1]
    omega
  · rintro ρ ⟨s2, s3, rfl⟩
    rw [List.take_length]
    simp only [ok_sq, ok_forS, ev_itV, ev_bin2, fz_0, ev_some, rota_2, itD_t]
    refine ok_each standD r.stands (fun j ρ => ∃ s2 s3, ρ = [.fz (rotaD r), .ow (.lst ((0 :: (r.layers.map Layer.start ++ (r.stands.take j).map fun s => s.2.1)).map D.int)), s2, s3]) ⟨s2, s3, by simp⟩ ?_ ?_
    · rintro j s ρ hs ⟨s2, s3, rfl⟩
      refine ⟨_, rfl, ?_⟩
      rw [take_succ' hs]
      have : (r.stands.take j).length ≤ 3 := by rw [List.length_take]; omega
      simp [L2_settled, stand_1]
      omega
    · rintro ρ ⟨s2, s3, rfl⟩
      rw [List.take_length]
      have e := great_fold (endsP r) 0
      simp only [ok_retS, ev_un1, any_s, any_0o, ev_some, dMaxL_l]
      unfold endsP at e
      rw [e]
      simp [setP, endsP]
theorem law_settled_ok {r : Rota} : m__law_settled [rotaD r] = some (.int (setP r)) := by
  refine run_eq (fun _ => rfl) ?_
  simp [b__law_settled, rota_1]
  refine ok_each layerD r.layers (fun j ρ => ∃ s2 s3, ρ = [.fz (rotaD r), .fz (.int (((r.layers.take j).map Layer.start).foldl mx 0)), s2, s3]) ⟨.no, .no, by simp⟩ ?_ ?_
  · rintro j l ρ hl ⟨s2, s3, rfl⟩
    refine ⟨_, rfl, ?_⟩
    rw [take_succ' hl, List.map_append, List.foldl_append]
    generalize ((r.layers.take j).map Layer.start).foldl mx 0 = z
    simp [L1__law_settled, layer_1, mx]
  · rintro ρ ⟨s2, s3, rfl⟩
    rw [List.take_length]
    simp [rota_2]
    refine ok_each standD r.stands (fun j ρ => ∃ s2 s3, ρ = [.fz (rotaD r), .fz (.int ((r.layers.map Layer.start ++ (r.stands.take j).map fun s => s.2.1).foldl mx 0)), s2, s3]) ⟨s2, s3, by simp⟩ ?_ ?_
    · rintro j s ρ hs ⟨s2, s3, rfl⟩
      refine ⟨_, rfl, ?_⟩
      rw [take_succ' hs, List.map_append, ← List.append_assoc, List.foldl_append (l' := [s].map fun s => s.2.1)]
      generalize (r.layers.map Layer.start ++ (r.stands.take j).map fun s => s.2.1).foldl mx 0 = z
      simp [L2__law_settled, stand_1, mx]
    · rintro ρ ⟨s2, s3, rfl⟩
      rw [List.take_length]
      simp [setP, endsP]
end
/-! ### the horizon -/
def perOf (m : Made) (l : List Nat × Int) : Nat := match m.schedules.find? (fun x => decide (x.name = l.1)) with
  | some r => perP m.week.toNat r.layers
  | none => 1
def lperOf (m : Made) (l : List Nat × Int) : Nat := match m.schedules.find? (fun x => decide (x.name = l.1)) with
  | some r => lperP m.week.toNat r.layers
  | none => 1
def setOf (m : Made) (l : List Nat × Int) : Int := match m.schedules.find? (fun x => decide (x.name = l.1)) with
  | some r => setP r
  | none => 0
def manyB (m : Made) (n0 : Nat) (ls : List (List Nat × Int)) : Nat := ls.foldl (fun n l => Nat.lcm n (perOf m l)) n0
def lmanyB (m : Made) (n0 : Nat) (ls : List (List Nat × Int)) : Nat := ls.foldl (fun n l => lawLcm n (lperOf m l)) n0
def begB (m : Made) (b0 : Int) (ls : List (List Nat × Int)) : Int := ls.foldl (fun b l => mx b (setOf m l)) b0
def manyP (m : Made) (s : Sett) : Nat := if s.mutes = [] then manyB m 1 (levelsP m s) else Nat.lcm (manyB m 1 (levelsP m s)) m.week.toNat
def lmanyP (m : Made) (s : Sett) : Nat := lmanyB m (if s.mutes = [] then 1 else m.week.toNat) (levelsP m s)
def begP (m : Made) (s : Sett) (start : Int) : Int := begB m start (levelsP m s)
section
variable {m : Made} {names worths : List (List Nat)} {s : Sett}
theorem per_of (g : GMade m names worths) (l : List Nat × Int) (hl : l.1 ∈ m.schedules.map Rota.name) : ∃ r, m_schedule_of [madeD m, .str l.1] = some (rotaD r) ∧ m__law_find [.lst (m.schedules.map rotaD), .str l.1] = some (rotaD r) ∧
    m_period [.int m.week, rotaD r] = some (.int ((perOf m l : Nat) : Int)) ∧ m__law_period [.int m.week, rotaD r] = some (.int ((lperOf m l : Nat) : Int)) ∧ m_settled [rotaD r] = some (.int (setOf m l)) ∧ m__law_settled [rotaD r] = some (.int (setOf m l)) ∧
    (0 < perOf m l ∧ perOf m l ≤ 419904) ∧ 0 < lperOf m l ∧ Cap (lperOf m l) (perOf m l) ∧ 0 ≤ setOf m l ∧ setOf m l ≤ 42 := by
  have w1 := g.w1
  have w2 := g.w2
  have hW : 0 < m.week.toNat := by omega
  obtain ⟨r, e, hm, _⟩ := find_name Rota.name m.schedules l.1 hl
  have gr := g.sg r hm
  have e1 := entry_of_ok rotaD Rota.name rota_0 m.schedules l.1 (lit "schedule") r e
  have e3 := law_find_ok rotaD Rota.name rota_0 m.schedules l.1 r e
  have p1 : perOf m l = perP m.week.toNat r.layers := by simp [perOf, e]
  have p2 : lperOf m l = lperP m.week.toNat r.layers := by simp [lperOf, e]
  have p3 : setOf m l = setP r := by simp [setOf, e]
  rw [p1, p2, p3]
  refine ⟨r, ?_, e3, period_ok hW (by omega) gr, law_period_ok hW (by omega) gr, settled_ok gr, law_settled_ok, per_le hW (by omega) r.layers gr.2.1 gr.1, lper_pos hW r.layers gr.2.1 1 (by decide), cap_per hW r.layers gr.2.1 1 1 (by decide) (.inl rfl), ?_⟩
  · refine run_eq (fun _ => rfl) ?_
    simp [b_schedule_of, fld_schedules, e1]
  · obtain ⟨h1, h2, h3⟩ := fold_mx (endsP r) 0
    refine ⟨h1, ?_⟩
    rcases h3 with h3 | h3
    · unfold setP; omega
    · have hb : ∀ x ∈ endsP r, x ≤ 42 := fun x hx => by
        rcases List.mem_append.mp hx with hx | hx
        · obtain ⟨l, hl, rfl⟩ := List.mem_map.mp hx
          have := (gr.2.1 l hl).2.2.2.2.1
          omega
        · obtain ⟨q, hq, rfl⟩ := List.mem_map.mp hx
          exact (gr.2.2.2 q hq).2.2.1
      exact hb _ h3
theorem many_bound (g : GMade m names worths) : ∀ (ls : List (List Nat × Int)), (∀ l ∈ ls, l.1 ∈ m.schedules.map Rota.name) → ∀ n0, 0 < n0 → 0 < manyB m n0 ls ∧ manyB m n0 ls ≤ n0 * 419904 ^ ls.length
  | [], _, n0, h0 => ⟨h0, by simp [manyB]⟩
  | l :: ls, h, n0, h0 => by
    obtain ⟨r, _, _, _, _, _, _, ⟨q1, q2⟩, _⟩ := per_of g l (h l List.mem_cons_self)
    have hp := Nat.lcm_pos h0 q1
    obtain ⟨h1, h2⟩ := many_bound g ls (fun x hx => h x (List.mem_cons_of_mem _ hx)) (Nat.lcm n0 (perOf m l)) hp
    refine ⟨h1, Nat.le_trans h2 ?_⟩
    rw [List.length_cons, Nat.pow_succ, Nat.mul_comm (419904 ^ ls.length) 419904, ← Nat.mul_assoc]
    exact Nat.mul_le_mul_right _ (Nat.le_trans (PySem.W.mc_lcm_le _ _) (Nat.mul_le_mul_left _ q2))
theorem many_cap (g : GMade m names worths) : ∀ (ls : List (List Nat × Int)), (∀ l ∈ ls, l.1 ∈ m.schedules.map Rota.name) → ∀ x n0, 0 < n0 → 0 < x → Cap x n0 → Cap (lmanyB m x ls) (manyB m n0 ls) ∧ 0 < lmanyB m x ls
  | [], _, x, n0, _, hx, hc => ⟨hc, hx⟩
  | l :: ls, h, x, n0, h0, hx, hc => by
    obtain ⟨r, _, _, _, _, _, _, ⟨q1, q2⟩, q3, q4, _⟩ := per_of g l (h l List.mem_cons_self)
    exact many_cap g ls (fun y hy => h y (List.mem_cons_of_mem _ hy)) _ _ (Nat.lcm_pos h0 q1) (lawLcm_pos hx q3) (cap_lcm hc q4 h0 q1)
theorem many_start : ∀ (ls : List (List Nat × Int)) (a b : Nat), manyB m (Nat.lcm a b) ls = Nat.lcm a (manyB m b ls)
  | [], a, b => rfl
  | l :: ls, a, b => by
    show manyB m (Nat.lcm (Nat.lcm a b) (perOf m l)) ls = Nat.lcm a (manyB m (Nat.lcm b (perOf m l)) ls)
    rw [Nat.lcm_assoc, many_start ls]
theorem law_many (g : GMade m names worths) (gs : GS m s) : Cap (lmanyP m s) (manyP m s) ∧ 0 < lmanyP m s ∧ 0 < manyP m s := by
  obtain ⟨lad, e0, el, hl3, hlev⟩ := levels_ok g s gs
  have w1 := g.w1
  have hW : 0 < m.week.toNat := by omega
  have hm : ∀ l ∈ levelsP m s, l.1 ∈ m.schedules.map Rota.name := fun l hl => (hlev l hl).1
  have h1 := (many_bound g (levelsP m s) hm 1 (by decide)).1
  unfold lmanyP manyP
  by_cases h : s.mutes = []
  · rw [if_pos h, if_pos h]
    obtain ⟨a, b⟩ := many_cap g (levelsP m s) hm 1 1 (by decide) (by decide) (.inl rfl)
    exact ⟨a, b, h1⟩
  · rw [if_neg h, if_neg h]
    obtain ⟨a, b⟩ := many_cap g (levelsP m s) hm m.week.toNat m.week.toNat hW hW (.inl rfl)
    refine ⟨?_, b, Nat.lcm_pos h1 hW⟩
    have : manyB m m.week.toNat (levelsP m s) = Nat.lcm (manyB m 1 (levelsP m s)) m.week.toNat := by
      have e := many_start (m := m) (levelsP m s) m.week.toNat 1
      rw [Nat.lcm_one_right] at e
      rw [e, Nat.lcm_comm]
    rw [← this]
    exact a
theorem horizon_loop (g : GMade m names worths) (gs : GS m s) (start : Int) (hb : 0 ≤ start ∧ start ≤ 50) (N : Reg → Prop) (R : D → Prop) (Bk Ct : Reg → Prop) (hN : ∀ s5 s6 s7, N [.fz (madeD m), .fz (settD s), .fz (.int start), .fz (.int ((manyP m s : Nat) : Int)), .fz (.int (begP m s start)), s5, s6, s7]) :
    Ok (sq (setS 3 (fun _ => some (.int 1))) (sq (setS 4 (fun ρ => fzAt ρ 2)) (sq (forS (itV (bin2 (callV m_policy_of (consA (fun ρ => fzAt ρ 0) (consA (bin2 (fun ρ => fzAt ρ 1) (fun _ => some (.int 5)) dItem) (fun _ => some [])))) (fun _ => some (.int 1)) dItem)) (gT (gsC (gN 5) (gsC (gN 6) gsN))) L1__horizon) (iteS (truT (bin2 (fun ρ => fzAt ρ 1) (fun _ => some (.int 4)) dItem)) (setS 3 (fnV (consA (fun ρ => fzAt ρ 3) (consA (un1 (fun ρ => fzAt ρ 0) (dFld "Setup" "week")) (fun _ => some []))) dLcm)) skip))) [.fz (madeD m), .fz (settD s), .fz (.int start), .no, .no, .no, .no, .no]) N R Bk Ct := by
  obtain ⟨lad, e0, el, hl3, hlev⟩ := levels_ok g s gs
  have e1 := entry_of_ok ladderD Ladder.name ladder_0 m.policies s.policy (lit "policy") lad e0
  have e2 : m_policy_of [madeD m, .str s.policy] = some (ladderD lad) := by
    refine run_eq (fun _ => rfl) ?_
    simp [b_policy_of, fld_policies, e1]
  have w1 := g.w1
  have w2 := g.w2
  have hmem : ∀ l ∈ levelsP m s, l.1 ∈ m.schedules.map Rota.name := fun l hl => (hlev l hl).1
  have hlen : (levelsP m s).length ≤ 3 := by rw [el]; exact hl3
  have pow3 : ∀ k, k ≤ 3 → 1 * 419904 ^ k ≤ 74037208411275264 := fun k hk => by
    rw [Nat.one_mul]
    exact Nat.le_trans (Nat.pow_le_pow_right (by decide) hk) (by decide)
  simp [sett_5, e2, ladder_1, ← el]
  refine ok_each levelD (levelsP m s) (fun j ρ => ∃ s5 s6 s7, ρ = [.fz (madeD m), .fz (settD s), .fz (.int start), .fz (.int ((manyB m 1 ((levelsP m s).take j) : Nat) : Int)), .fz (.int (begB m start ((levelsP m s).take j))), s5, s6, s7]) ⟨.no, .no, .no, by simp [manyB, begB]⟩ ?_ ?_
  · rintro j l ρ hl ⟨s5, s6, s7, rfl⟩
    refine ⟨_, rfl, ?_⟩
    obtain ⟨r, f1, _, f3, _, f5, _, ⟨q1, q2⟩, _⟩ := per_of g l (hmem l (List.mem_of_getElem? hl))
    obtain ⟨b1, b2⟩ := many_bound g ((levelsP m s).take j) (fun x hx => hmem x (List.mem_of_mem_take hx)) 1 (by decide)
    have hz : manyB m 1 ((levelsP m s).take j) ≤ 74037208411275264 := Nat.le_trans b2 (pow3 _ (by rw [List.length_take]; omega))
    have em : manyB m 1 ((levelsP m s).take (j + 1)) = Nat.lcm (manyB m 1 ((levelsP m s).take j)) (perOf m l) := foldl_take _ _ hl
    have eb : begB m start ((levelsP m s).take (j + 1)) = mx (begB m start ((levelsP m s).take j)) (setOf m l) := foldl_take _ _ hl
    rw [em, eb]
    generalize manyB m 1 ((levelsP m s).take j) = n at hz
    have el1 : dLcm [.int (n : Int), .int ((perOf m l : Nat) : Int)] = some (.int ((Nat.lcm n (perOf m l) : Nat) : Int)) := by
      rw [dLcm_ii, if_pos (by simp only [Int.natAbs_natCast]; omega)]
      rfl
    have em2 := mx_ok (begB m start ((levelsP m s).take j)) (setOf m l)
    generalize begB m start ((levelsP m s).take j) = bb at em2
    refine ok_to (ρ1 := [.fz (madeD m), .fz (settD s), .fz (.int start), .fz (.int ((Nat.lcm n (perOf m l) : Nat) : Int)), .fz (.int (mx bb (setOf m l))), .fz (.str l.1), .fz (.int l.2), .fz (rotaD r)]) ?_ ⟨_, _, _, rfl⟩
    simp only [L1__horizon, ok_sq, ok_setS, ev_callV, ev_consA, fz_s, fz_0, ev_some, f1, List.set_cons_succ, List.set_cons_zero, ev_fnV, ev_un1, fld_week, f3, el1, f5, em2]
  · rintro ρ ⟨s5, s6, s7, rfl⟩
    rw [List.take_length]
    obtain ⟨b1, b2⟩ := many_bound g (levelsP m s) hmem 1 (by decide)
    have hz := Nat.le_trans b2 (pow3 _ hlen)
    by_cases h : s.mutes = []
    · have e : manyP m s = manyB m 1 (levelsP m s) := by unfold manyP; rw [if_pos h]
      simp [sett_4, h]
      rw [← e]
      exact hN _ _ _
    · have e : manyP m s = Nat.lcm (manyB m 1 (levelsP m s)) m.week.toNat := by unfold manyP; rw [if_neg h]
      have el1 : dLcm [.int ((manyB m 1 (levelsP m s) : Nat) : Int), .int m.week] = some (.int ((manyP m s : Nat) : Int)) := by
        rw [e]
        have hw : m.week = ((m.week.toNat : Nat) : Int) := by omega
        generalize m.week.toNat = q at hw
        rw [hw, dLcm_ii, if_pos (by simp only [Int.natAbs_natCast]; omega)]
        rfl
      simp [sett_4, h, fld_week, el1]
      exact hN _ _ _
theorem horizon_ok (g : GMade m names worths) (gs : GS m s) (start : Int) (hb : 0 ≤ start ∧ start ≤ 50) (h : manyP m s ≤ 2000) : m__horizon [madeD m, settD s, .int start] = some (.tup [.int ((manyP m s : Nat) : Int), .int (begP m s start)]) := by
  refine run_eq (fun _ => rfl) ?_
  have h' : ¬ (2000 : Int) < ((manyP m s : Nat) : Int) := by omega
  have := horizon_loop g gs start hb (fun ρ => Ok (sq (iteS (cmp2 (fun ρ => fzAt ρ 3) (fun _ => some (.int 2000)) dGt) (fun _ => .bad) skip) (retS (tupV (consA (fun ρ => fzAt ρ 3) (consA (fun ρ => fzAt ρ 4) (fun _ => some []))))) ρ) (fun _ => .non = D.tup [.int ((manyP m s : Nat) : Int), .int (begP m s start)]) (fun d => d = .tup [.int ((manyP m s : Nat) : Int), .int (begP m s start)]) (fun _ => False) (fun _ => False)) (fun d => d = .tup [.int ((manyP m s : Nat) : Int), .int (begP m s start)]) (fun _ => False) (fun _ => False) (fun s5 s6 s7 => by simp [h'])
  simp only [ok_sq] at this
  simp only [b__horizon, ok_sq]
  exact this
theorem x_horizon (g : GMade m names worths) (gs : GS m s) (start : Int) (hb : 0 ≤ start ∧ start ≤ 50) (h : 2000 < manyP m s) : x__horizon [madeD m, settD s, .int start] = some true := by
  have h' : (2000 : Int) < ((manyP m s : Nat) : Int) := by omega
  have := horizon_loop g gs start hb (fun ρ => (cmp2 (fun ρ => fzAt ρ 3) (fun _ => some (.int 2000)) dGt) ρ = some true) (fun _ => False) (fun _ => False) (fun _ => False) (fun s5 s6 s7 => by simp [cmp2, h'])
  show thenX _ _ [.fz (madeD m), .fz (settD s), .fz (.int start), .no, .no, .no, .no, .no] = _
  unfold thenX
  generalize (sq (setS 3 (fun _ => some (.int 1))) (sq (setS 4 (fun ρ => fzAt ρ 2)) (sq (forS (itV (bin2 (callV m_policy_of (consA (fun ρ => fzAt ρ 0) (consA (bin2 (fun ρ => fzAt ρ 1) (fun _ => some (.int 5)) dItem) (fun _ => some [])))) (fun _ => some (.int 1)) dItem)) (gT (gsC (gN 5) (gsC (gN 6) gsN))) L1__horizon) (iteS (truT (bin2 (fun ρ => fzAt ρ 1) (fun _ => some (.int 4)) dItem)) (setS 3 (fnV (consA (fun ρ => fzAt ρ 3) (consA (un1 (fun ρ => fzAt ρ 0) (dFld "Setup" "week")) (fun _ => some []))) dLcm)) skip))) [.fz (madeD m), .fz (settD s), .fz (.int start), .no, .no, .no, .no, .no]) = o at this
  cases o with
  | nx ρ => exact this
  | rt d => exact this.elim
  | bk ρ => exact this.elim
  | ct ρ => exact this.elim
  | bad => exact this.elim
end
end G74

namespace G74
open PySem PySem.Spec PyProof.Rows L2 DL
/-! ### plans and delays -/
abbrev Ring := Int × List Nat × Bool
def ringD (r : Ring) : D := .tup [.int r.1, .str r.2.1, .bl r.2.2]
def onAt (m : Made) (t : Int) (l : List Nat × Int) : Option (List Nat) := match m.schedules.find? (fun x => decide (x.name = l.1)) with
  | some r => onP m.week r (t + l.2)
  | none => none
def ringAt (m : Made) (t : Int) (l : List Nat × Int) : Option Ring := (onAt m t l).map fun p => (t + l.2, p, sureP m p)
def planP (m : Made) (t : Int) (ls : List (List Nat × Int)) : List Ring := ls.filterMap (ringAt m t)
theorem plan_delays (m : Made) (t : Int) : ∀ ls : List (List Nat × Int), (((planP m t ls).filter fun r => r.2.2).map fun r => r.1 - t) = (ls.filter (sureAt m t)).map Prod.snd
  | [] => rfl
  | l :: ls => by
    have ih := plan_delays m t ls
    have hs : sureAt m t l = match onAt m t l with | some p => sureP m p | none => false := by
      unfold sureAt onAt
      cases m.schedules.find? (fun x => decide (x.name = l.1)) <;> rfl
    unfold planP at ih ⊢
    rw [List.filterMap_cons, List.filter_cons, hs]
    cases e : onAt m t l with
    | none => simpa [ringAt, e] using ih
    | some p =>
      cases c : sureP m p with
      | false => simpa [ringAt, e, c] using ih
      | true =>
        simp only [ringAt, e, Option.map_some, List.filter_cons, c, if_true, List.map_cons]
        rw [show t + l.2 - t = l.2 by omega]
        congr 1
section
variable {m : Made} {names worths : List (List Nat)} {s : Sett}
theorem plan_len (t : Int) (ls : List (List Nat × Int)) : (planP m t ls).length ≤ ls.length := List.length_filterMap_le _ _
theorem plan_ok (g : GMade m names worths) (gs : GS m s) (t : Int) : m_plan [madeD m, .str s.policy, .int t] = some (.lst ((planP m t (levelsP m s)).map ringD)) := by
  have hz := line_big
  obtain ⟨lad, e0, el, hl3, hlev⟩ := levels_ok g s gs
  have e1 := entry_of_ok ladderD Ladder.name ladder_0 m.policies s.policy (lit "policy") lad e0
  have e2 : m_policy_of [madeD m, .str s.policy] = some (ladderD lad) := by
    refine run_eq (fun _ => rfl) ?_
    simp [b_policy_of, fld_policies, e1]
  refine run_eq (fun _ => rfl) ?_
  simp [b_plan, e2, ladder_1, ← el]
  refine ok_each levelD (levelsP m s) (fun j ρ => ∃ s4 s5 s6, ρ = [.fz (madeD m), .fz (.str s.policy), .fz (.int t), .ow (.lst ((planP m t ((levelsP m s).take j)).map ringD)), s4, s5, s6]) ⟨.no, .no, .no, by simp [planP]⟩ ?_ ?_
  · rintro j l ρ hl ⟨s4, s5, s6, rfl⟩
    refine ⟨_, rfl, ?_⟩
    rw [take_succ' hl]
    obtain ⟨r, f1, _, f2⟩ := ring_ok g l (hlev l (List.mem_of_getElem? hl)).1
    obtain ⟨f3, _, f4⟩ := f2 t
    obtain ⟨r', er, hm', hn'⟩ := find_name Rota.name m.schedules l.1 (hlev l (List.mem_of_getElem? hl)).1
    have f1' := entry_of_ok rotaD Rota.name rota_0 m.schedules l.1 (lit "schedule") r' er
    have hrr : rotaD r = rotaD r' := by
      have : m_schedule_of [madeD m, .str l.1] = some (rotaD r') := by
        refine run_eq (fun _ => rfl) ?_
        simp [b_schedule_of, fld_schedules, f1']
      rw [f1] at this
      exact Option.some.inj this
    have f3' : m_on_call [.int m.week, rotaD r', .int (t + l.2)] = some (optD (onP m.week r' (t + l.2))) := on_call_ok (by have := g.w1; omega) (g.sg r' hm') _
    have heq : optD (onP m.week r (t + l.2)) = optD (onP m.week r' (t + l.2)) := by
      rw [hrr, f3'] at f3
      exact (Option.some.inj f3).symm
    have ho : onAt m t l = onP m.week r' (t + l.2) := by simp [onAt, er]
    have hlen : (planP m t ((levelsP m s).take j)).length ≤ 3 := by
      have h1 := plan_len (m := m) t ((levelsP m s).take j)
      have h2 : ((levelsP m s).take j).length ≤ 3 := by rw [List.length_take, el]; omega
      omega
    have hp : planP m t ((levelsP m s).take j ++ [l]) = planP m t ((levelsP m s).take j) ++ (match ringAt m t l with | some r => [r] | none => []) := by
      unfold planP
      rw [List.filterMap_append]
      congr 1
      cases h : ringAt m t l <;> simp [h]
    rw [hp]
    generalize planP m t ((levelsP m s).take j) = X at hlen
    rw [hrr] at f1
    cases eo : onP m.week r' (t + l.2) with
    | none =>
      rw [eo] at f3' ho
      have hr : ringAt m t l = none := by simp [ringAt, ho]
      simp [L1_plan, fld_week, f1, f3', optD_n, hr]
    | some p =>
      rw [eo] at f3' ho
      have hr : ringAt m t l = some (t + l.2, p, sureP m p) := by simp [ringAt, ho]
      have hpm := on_mem (g.sg r' hm') eo
      have f5 := is_sure_ok (m := m) p hpm
      simp [L1_plan, fld_week, f1, f3', optD_s, hr, f5, ringD]
      omega
  · rintro ρ ⟨s4, s5, s6, rfl⟩
    rw [List.take_length]
    simp
theorem delay_ok (g : GMade m names worths) (gs : GS m s) (t : Int) : m_delay [madeD m, .str s.policy, .int t] = some (optI (delayP m s t)) := by
  have hz := line_big
  have e1 := plan_ok g gs t
  obtain ⟨lad, e0, el, hl3, hlev⟩ := levels_ok g s gs
  have hl := plan_len (m := m) t (levelsP m s)
  have ed := plan_delays m t (levelsP m s)
  refine run_eq (fun _ => rfl) ?_
  simp [b_delay, e1]
  refine ⟨by rw [el] at hl ⊢; omega, ?_⟩
  have ef : ∀ (ρ : Reg), ρ = [.fz (madeD m), .fz (.str s.policy), .fz (.int t), .no, .no, .no, .no] → lcD (gT (gsC (gN 4) (gsC (gN 5) (gsC (gN 6) gsN)))) (truT (fun ρ => fzAt ρ 6)) C1_delay ρ ((planP m t (levelsP m s)).map ringD) = some ((((planP m t (levelsP m s)).filter fun r => r.2.2).map fun r => r.1 - t).map D.int) := by
    rintro ρ rfl
    refine lcD_filter ringD D.int (fun r => r.2.2) (fun r => r.1 - t) _ fun r hr => ?_
    refine ⟨_, rfl, ?_, fun _ => ?_⟩
    · simp [truT]
    · refine ev_eq.mp ?_
      simp [C1_delay]
  rw [ef _ rfl, ed]
  unfold delayP
  generalize (List.map Prod.snd ((levelsP m s).filter (sureAt m t))) = ds
  by_cases h : ds = []
  · subst h
    simp [leastI, optI]
  · obtain ⟨x, h1, _⟩ := least_sort h
    simp [h, h1, optI]
/-! ### the sums, tick by tick -/
def stepS (m : Made) (s : Sett) (t : Int) (p : Int × Int) : Option (Int × Int) := if mutedP m s.mutes t = true then some (p.1 + 1, p.2) else match delayP m s t with
  | none => none
  | some w => some (0, mx p.2 (p.1 + w))
def runS (m : Made) (s : Sett) (t0 : Int) : Nat → Option (Int × Int)
  | 0 => some (0, 0)
  | n + 1 => (runS m s t0 n).bind (stepS m s (t0 + (n : Int)))
theorem run_none {t0 : Int} {j : Nat} (h : runS m s t0 j = none) : ∀ i, runS m s t0 (j + i) = none
  | 0 => h
  | i + 1 => by
    show (runS m s t0 (j + i)).bind _ = none
    rw [run_none h i]
    rfl
def finS (many : Nat) (o : Option (Int × Int)) : Option Int := o.bind fun p => if (many : Int) ≤ p.1 then none else some p.2
def bestP (m : Made) (s : Sett) (start : Int) (many : Nat) (e : Int) : Option Int := finS many (runS m s start (e + 2 * (many : Int) - start).toNat)
theorem law_sums_ok (g : GMade m names worths) (gs : GS m s) (start e : Int) (many : Nat) (hb : 0 ≤ start ∧ start ≤ 50 ∧ 0 ≤ e ∧ e ≤ 1000 ∧ many ≤ 100000) : m__law_sums [madeD m, settD s, .int start, .int (many : Int), .int e] = some (optI (bestP m s start many e)) := by
  refine run_eq (fun _ => rfl) ?_
  have hm : (-(2 ^ 64 : Int) < 2 ∧ (2 : Int) < 2 ^ 64) := by decide
  simp [b__law_sums]
  refine ⟨by omega, ?_⟩
  obtain ⟨n, hn⟩ : ∃ n, (e + 2 * (many : Int) - start).toNat = n := ⟨_, rfl⟩
  unfold bestP
  rw [hn]
  refine ok_range (fun j ρ => ∃ p s7 s8, runS m s start j = some p ∧ ρ = [.fz (madeD m), .fz (settD s), .fz (.int start), .fz (.int (many : Int)), .fz (.int e), .fz (.int p.1), .fz (.int p.2), s7, s8]) ⟨(0, 0), .no, .no, rfl, rfl⟩ ?_ ?_
  · rintro j ρ hj ⟨⟨mu, mo⟩, s7, s8, hp, rfl⟩
    refine ⟨_, rfl, ?_⟩
    have e1 := law_muted_ok g s.mutes (start + (j : Int))
    have e2 := law_delay_ok g s gs (start + (j : Int))
    have hr : runS m s start (j + 1) = stepS m s (start + (j : Int)) (mu, mo) := by
      show (runS m s start j).bind _ = _
      rw [hp]
      rfl
    rw [hr]
    unfold stepS
    cases c1 : mutedP m s.mutes (start + (j : Int)) with
    | true => simp [L1__law_sums, sett_4, e1, c1]
    | false =>
      cases c2 : delayP m s (start + (j : Int)) with
      | none =>
        rw [c2] at e2
        have hnone : runS m s start n = none := by
          have h0 : runS m s start (j + 1) = none := by rw [hr]; unfold stepS; rw [c1, c2]; rfl
          have := run_none h0 (n - (j + 1))
          rwa [show j + 1 + (n - (j + 1)) = n by omega] at this
        simp [L1__law_sums, sett_4, e1, c1, e2, optI_n, hnone, finS]
      | some w =>
        rw [c2] at e2
        have em : (if mo < mu + w then mu + w else mo) = mx mo (mu + w) := rfl
        simp [L1__law_sums, sett_4, e1, c1, e2, optI_s, em]
  · rintro ρ ⟨⟨mu, mo⟩, s7, s8, hp, rfl⟩
    rw [hp]
    by_cases h : (many : Int) ≤ mu
    · simp [finS, h, optI]
    · simp [finS, h, optI]
def surePl (m : Made) (s : Sett) (start : Int) : Option Int := (bestP m s start (manyP m s) (begP m s start)).map fun b => mx s.wait (s.interval - 1) + slackP m + b
theorem beg_bound (g : GMade m names worths) (gs : GS m s) (start : Int) (hb : 0 ≤ start ∧ start ≤ 50) : 0 ≤ begP m s start ∧ begP m s start ≤ 50 := by
  obtain ⟨lad, e0, el, hl3, hlev⟩ := levels_ok g s gs
  have : ∀ (ls : List (List Nat × Int)), (∀ l ∈ ls, l.1 ∈ m.schedules.map Rota.name) → ∀ b, 0 ≤ b ∧ b ≤ 50 → 0 ≤ begB m b ls ∧ begB m b ls ≤ 50 := by
    intro ls
    induction ls with
    | nil => intro _ b h; exact h
    | cons l ls ih =>
      intro h b hb
      obtain ⟨r, _, _, _, _, _, _, _, _, _, q5, q6⟩ := per_of g l (h l List.mem_cons_self)
      obtain ⟨_, _, k3⟩ := mx_ge b (setOf m l)
      exact ih (fun x hx => h x (List.mem_cons_of_mem _ hx)) (mx b (setOf m l)) (by rcases k3 with k3 | k3 <;> rw [k3] <;> omega)
  exact this _ (fun l hl => (hlev l hl).1) start hb
theorem sure_limit_ok (g : GMade m names worths) (l : Labs) (r : Route) (hr : m.routes[endP m.routes l]? = some r) (start : Int) (hb : 0 ≤ start ∧ start ≤ 50) (h : manyP m r.sett ≤ 2000) : m_sure_limit [madeD m, labsD l, .int start] = some (optI (surePl m r.sett start)) := by
  have gs := g.sett hr
  have e1 := end_of_ok g l
  have er : atI (m.routes.map routeD) (endP m.routes l : Int) = some (routeD r) := by
    rw [atI_map, atI_nat hr]
    rfl
  have e2 := horizon_ok g gs start hb h
  have e3 := slack_ok g
  obtain ⟨k1, k2⟩ := beg_bound g gs start hb
  have ew := mx_ok r.sett.wait (r.sett.interval - 1)
  refine run_eq (fun _ => rfl) ?_
  simp [b_sure_limit, fld_routes, e1, er, route_2, e2]
  refine ⟨by omega, ?_⟩
  obtain ⟨n, hn⟩ : ∃ n, (begP m r.sett start + 2 * ((manyP m r.sett : Nat) : Int) - start).toNat = n := ⟨_, rfl⟩
  have hs : surePl m r.sett start = (finS (manyP m r.sett) (runS m r.sett start n)).map fun b => mx r.sett.wait (r.sett.interval - 1) + slackP m + b := by
    unfold surePl bestP
    rw [hn]
  rw [hn, hs]
  generalize mx r.sett.wait (r.sett.interval - 1) = wz at ew
  refine ok_range (fun j ρ => ∃ p s8 s9, runS m r.sett start j = some p ∧ ρ = [.fz (madeD m), .fz (labsD l), .fz (.int start), .fz (settD r.sett), .fz (.int ((manyP m r.sett : Nat) : Int)), .fz (.int (begP m r.sett start)), .fz (.int p.1), .fz (.int p.2), s8, s9]) ⟨(0, 0), .no, .no, rfl, rfl⟩ ?_ ?_
  · rintro j ρ hj ⟨⟨mu, mo⟩, s8, s9, hp, rfl⟩
    refine ⟨_, rfl, ?_⟩
    have e1 := is_muted_ok g r.sett.mutes gs.1 gs.2.1 (start + (j : Int))
    have e2 := delay_ok g gs (start + (j : Int))
    have hr : runS m r.sett start (j + 1) = stepS m r.sett (start + (j : Int)) (mu, mo) := by
      show (runS m r.sett start j).bind _ = _
      rw [hp]
      rfl
    rw [hr]
    unfold stepS
    cases c1 : mutedP m r.sett.mutes (start + (j : Int)) with
    | true => simp [L1_sure_limit, sett_4, e1, c1]
    | false =>
      cases c2 : delayP m r.sett (start + (j : Int)) with
      | none =>
        rw [c2] at e2
        have hnone : runS m r.sett start n = none := by
          have h0 : runS m r.sett start (j + 1) = none := by rw [hr]; unfold stepS; rw [c1, c2]; rfl
          have := run_none h0 (n - (j + 1))
          rwa [show j + 1 + (n - (j + 1)) = n by omega] at this
        simp [L1_sure_limit, sett_4, sett_5, e1, c1, e2, optI_n, hnone, finS]
      | some w =>
        rw [c2] at e2
        have em : (if mo < mu + w then mu + w else mo) = mx mo (mu + w) := rfl
        simp [L1_sure_limit, sett_4, sett_5, e1, c1, e2, optI_s, em]
  · rintro ρ ⟨⟨mu, mo⟩, s8, s9, hp, rfl⟩
    rw [hp]
    by_cases h : ((manyP m r.sett : Nat) : Int) ≤ mu
    · simp [finS, h, optI]
    · simp [finS, h, optI, sett_1, sett_2, ew, e3]
theorem x_sure_eq (ds : List D) : x_sure_limit ds = thenX (setS 3 (bin2 (bin2 (un1 (fun ρ => fzAt ρ 0) (dFld "Setup" "routes")) (callV m_end_of (consA (un1 (fun ρ => fzAt ρ 0) (dFld "Setup" "routes")) (consA (fun ρ => fzAt ρ 1) (fun _ => some [])))) dItem) (fun _ => some (.int 2)) dItem)) (callX x__horizon (consA (fun ρ => fzAt ρ 0) (consA (fun ρ => fzAt ρ 3) (consA (fun ρ => fzAt ρ 2) (fun _ => some []))))) (startR 10 ds) := rfl
theorem x_sure (g : GMade m names worths) (l : Labs) (r : Route) (hr : m.routes[endP m.routes l]? = some r) (start : Int) (hb : 0 ≤ start ∧ start ≤ 50) (h : 2000 < manyP m r.sett) : x_sure_limit [madeD m, labsD l, .int start] = some true := by
  have gs := g.sett hr
  have e1 := end_of_ok g l
  have er : atI (m.routes.map routeD) (endP m.routes l : Int) = some (routeD r) := by
    rw [atI_map, atI_nat hr]
    rfl
  have e2 := x_horizon g gs start hb h
  rw [x_sure_eq]
  refine thenX_of ?_
  simp [fld_routes, e1, er, route_2]
  refine callX_of ?_
  simp [e2]
theorem law_true (ns : List Int) (h : ns.length ≤ 63) : m_law [.lst (ns.map D.int)] = some (.bl true) := by
  obtain ⟨_, e0, m, names, worths, l, r, start, limit, rfl, g, gl, hr, ⟨s0, s1⟩, l0, l1⟩ := case_ex ns
  have gs := g.sett hr
  have w1 := g.w1
  have w2 := g.w2
  obtain ⟨lad, f0, el, hl3, hlev⟩ := levels_ok g r.sett gs
  have f1 := law_find_ok ladderD Ladder.name ladder_0 m.policies r.sett.policy lad f0
  obtain ⟨hcap, lpos, mpos⟩ := law_many g gs
  obtain ⟨bg1, bg2⟩ := beg_bound g gs start (by omega)
  have hmem : ∀ x ∈ levelsP m r.sett, x.1 ∈ m.schedules.map Rota.name := fun x hx => (hlev x hx).1
  have w0 : 0 < (if r.sett.mutes = [] then 1 else m.week.toNat) := by split <;> omega
  refine run_eq (fun _ => rfl) ?_
  unfold b_law
  refine cut (fun ρ => ρ = [.fz (.lst (ns.map D.int)), .fz (madeD m), .fz (labsD l), .fz (settD r.sett), .fz (.int start), .fz (.int limit), .no, .no, .no, .no, .no, .no, .no, .no]) (by simp [e0]) ?_
  rintro ρ rfl
  refine cut (fun ρ => ρ = [.fz (.lst (ns.map D.int)), .fz (madeD m), .fz (labsD l), .fz (settD r.sett), .fz (.int start), .fz (.int limit), .fz (.int (((if r.sett.mutes = [] then 1 else m.week.toNat : Nat) : Nat) : Int)), .no, .no, .no, .no, .no, .no, .no]) ?_ ?_
  · by_cases hm : r.sett.mutes = []
    · simp [sett_4, hm]
    · have hm' : (0 : Int) < (r.sett.mutes.length : Int) := by have := List.length_pos_iff.mpr hm; omega
      simp [sett_4, hm, hm', fld_week]
      omega
  rintro ρ rfl
  refine cut (fun ρ => ρ = [.fz (.lst (ns.map D.int)), .fz (madeD m), .fz (labsD l), .fz (settD r.sett), .fz (.int start), .fz (.int limit), .fz (.int (((if r.sett.mutes = [] then 1 else m.week.toNat : Nat) : Nat) : Int)), .fz (.int start), .no, .no, .no, .no, .no, .no]) (by simp) ?_
  rintro ρ rfl
  refine cut (fun ρ => ∃ s8 s9 s10, ρ = [.fz (.lst (ns.map D.int)), .fz (madeD m), .fz (labsD l), .fz (settD r.sett), .fz (.int start), .fz (.int limit), .fz (.int ((lmanyP m r.sett : Nat) : Int)), .fz (.int (begP m r.sett start)), s8, s9, s10, .no, .no, .no]) ?_ ?_
  · simp [fld_policies, sett_5, f1, ladder_1, ← el]
    refine ok_each levelD (levelsP m r.sett) (fun j ρ => ∃ s8 s9 s10, ρ = [.fz (.lst (ns.map D.int)), .fz (madeD m), .fz (labsD l), .fz (settD r.sett), .fz (.int start), .fz (.int limit), .fz (.int ((lmanyB m (if r.sett.mutes = [] then 1 else m.week.toNat) ((levelsP m r.sett).take j) : Nat) : Int)), .fz (.int (begB m start ((levelsP m r.sett).take j))), s8, s9, s10, .no, .no, .no]) ⟨.no, .no, .no, by simp [lmanyB, begB]⟩ ?_ ?_
    · rintro j x ρ hx ⟨s8, s9, s10, rfl⟩
      refine ⟨_, rfl, ?_⟩
      obtain ⟨r2, _, q1, _, q3, _, q5, ⟨p1, p2⟩, p3, _, _⟩ := per_of g x (hmem x (List.mem_of_getElem? hx))
      have hsub : ∀ y ∈ (levelsP m r.sett).take j, y.1 ∈ m.schedules.map Rota.name := fun y hy => hmem y (List.mem_of_mem_take hy)
      have n0 := (many_cap g ((levelsP m r.sett).take j) hsub _ _ w0 w0 (.inl rfl)).2
      have em : lmanyB m (if r.sett.mutes = [] then 1 else m.week.toNat) ((levelsP m r.sett).take (j + 1)) = lawLcm (lmanyB m (if r.sett.mutes = [] then 1 else m.week.toNat) ((levelsP m r.sett).take j)) (lperOf m x) := foldl_take _ _ hx
      have eb : begB m start ((levelsP m r.sett).take (j + 1)) = mx (begB m start ((levelsP m r.sett).take j)) (setOf m x) := foldl_take _ _ hx
      rw [em, eb]
      generalize lmanyB m (if r.sett.mutes = [] then 1 else m.week.toNat) ((levelsP m r.sett).take j) = n at n0
      have em2 := mx_ok (begB m start ((levelsP m r.sett).take j)) (setOf m x)
      generalize begB m start ((levelsP m r.sett).take j) = bb at em2
      have el1 := law_lcm_ok n (lperOf m x) n0 p3
      refine ok_to (ρ1 := [.fz (.lst (ns.map D.int)), .fz (madeD m), .fz (labsD l), .fz (settD r.sett), .fz (.int start), .fz (.int limit), .fz (.int ((lawLcm n (lperOf m x) : Nat) : Int)), .fz (.int (mx bb (setOf m x))), .fz (.str x.1), .fz (.int x.2), .fz (rotaD r2), .no, .no, .no]) ?_ ⟨_, _, _, rfl⟩
      simp only [L1_law, ok_sq, ok_setS, ev_callV, ev_consA, fz_s, fz_0, ev_some, q1, List.set_cons_succ, List.set_cons_zero, ev_fnV, ev_un1, fld_week, fld_schedules, q3, el1, q5, em2]
    · rintro ρ ⟨s8, s9, s10, rfl⟩
      rw [List.take_length]
      exact ⟨s8, s9, s10, rfl⟩
  rintro ρ ⟨s8, s9, s10, rfl⟩
  have f3 := law_sums_ok g gs start (begP m r.sett start) (lmanyP m r.sett)
  have f4 := law_slack_ok g
  have ew := mx_ok r.sett.wait (r.sett.interval - 1)
  by_cases h6 : lmanyP m r.sett ≤ 600
  · have h6' : ((lmanyP m r.sett : Nat) : Int) ≤ 600 := by omega
    have he : lmanyP m r.sett = manyP m r.sett := by
      rcases hcap with h | h
      · exact h
      · omega
    have f3 := f3 (by omega)
    have f5 := sure_limit_ok g l r hr start (by omega) (by omega)
    have hsp : surePl m r.sett start = (bestP m r.sett start (lmanyP m r.sett) (begP m r.sett start)).map fun b => mx r.sett.wait (r.sett.interval - 1) + slackP m + b := by
      unfold surePl
      rw [he]
    have ew : (if r.sett.wait < r.sett.interval - 1 then r.sett.interval - 1 else r.sett.wait) = mx r.sett.wait (r.sett.interval - 1) := rfl
    have f6 := same_refl 7 (optI (surePl m r.sett start)) (by cases surePl m r.sett start <;> rfl)
    cases hb : bestP m r.sett start (lmanyP m r.sett) (begP m r.sett start) with
    | none =>
      rw [hb] at f3 hsp
      have hsp : surePl m r.sett start = none := hsp
      rw [hsp] at f5 f6
      simp only [optI_n] at f5 f6
      simp [h6', f3, optI_n, f5, f6]
    | some b =>
      rw [hb] at f3 hsp
      have hsp : surePl m r.sett start = some (mx r.sett.wait (r.sett.interval - 1) + slackP m + b) := hsp
      rw [hsp] at f5 f6
      simp only [optI_s] at f5 f6
      simp [h6', f3, optI_s, sett_1, sett_2, ew, f4, f5, f6]
  · have h6' : ¬ ((lmanyP m r.sett : Nat) : Int) ≤ 600 := by omega
    by_cases h20 : lmanyP m r.sett ≤ 2000
    · have h20' : ((lmanyP m r.sett : Nat) : Int) ≤ 2000 := by omega
      simp [h6', h20']
    · have h20' : ¬ ((lmanyP m r.sett : Nat) : Int) ≤ 2000 := by omega
      have hbig : 2000 < manyP m r.sett := by
        rcases hcap with h | h
        · omega
        · exact h.2
      have f7 := x_sure g l r hr start (by omega) hbig
      simp [h6', h20', f7]
end
end G74

namespace G74
open PySem PySem.Spec PyProof.Rows L2 DL
theorem kw_ne_setup : ((Str.ofString "week") == (Str.ofString "people")) = false ∧ ((Str.ofString "week") == (Str.ofString "schedules")) = false ∧ ((Str.ofString "week") == (Str.ofString "policies")) = false ∧ ((Str.ofString "week") == (Str.ofString "windows")) = false ∧ ((Str.ofString "week") == (Str.ofString "routes")) = false ∧ ((Str.ofString "week") == (Str.ofString "holdbacks")) = false ∧ ((Str.ofString "week") == (Str.ofString "groups")) = false ∧ ((Str.ofString "week") == (Str.ofString "replicas")) = false ∧ ((Str.ofString "week") == (Str.ofString "pause")) = false ∧ ((Str.ofString "week") == (Str.ofString "down")) = false ∧ ((Str.ofString "week") == (Str.ofString "store")) = false ∧ ((Str.ofString "week") == (Str.ofString "lookback")) = false ∧ ((Str.ofString "people") == (Str.ofString "week")) = false ∧ ((Str.ofString "people") == (Str.ofString "schedules")) = false ∧ ((Str.ofString "people") == (Str.ofString "policies")) = false ∧ ((Str.ofString "people") == (Str.ofString "windows")) = false ∧ ((Str.ofString "people") == (Str.ofString "routes")) = false ∧ ((Str.ofString "people") == (Str.ofString "holdbacks")) = false ∧ ((Str.ofString "people") == (Str.ofString "groups")) = false ∧ ((Str.ofString "people") == (Str.ofString "replicas")) = false ∧ ((Str.ofString "people") == (Str.ofString "pause")) = false ∧ ((Str.ofString "people") == (Str.ofString "down")) = false ∧ ((Str.ofString "people") == (Str.ofString "store")) = false ∧ ((Str.ofString "people") == (Str.ofString "lookback")) = false ∧ ((Str.ofString "schedules") == (Str.ofString "week")) = false ∧ ((Str.ofString "schedules") == (Str.ofString "people")) = false ∧ ((Str.ofString "schedules") == (Str.ofString "policies")) = false ∧ ((Str.ofString "schedules") == (Str.ofString "windows")) = false ∧ ((Str.ofString "schedules") == (Str.ofString "routes")) = false ∧ ((Str.ofString "schedules") == (Str.ofString "holdbacks")) = false ∧ ((Str.ofString "schedules") == (Str.ofString "groups")) = false ∧ ((Str.ofString "schedules") == (Str.ofString "replicas")) = false ∧ ((Str.ofString "schedules") == (Str.ofString "pause")) = false ∧ ((Str.ofString "schedules") == (Str.ofString "down")) = false ∧ ((Str.ofString "schedules") == (Str.ofString "store")) = false ∧ ((Str.ofString "schedules") == (Str.ofString "lookback")) = false ∧ ((Str.ofString "policies") == (Str.ofString "week")) = false ∧ ((Str.ofString "policies") == (Str.ofString "people")) = false ∧ ((Str.ofString "policies") == (Str.ofString "schedules")) = false ∧ ((Str.ofString "policies") == (Str.ofString "windows")) = false ∧ ((Str.ofString "policies") == (Str.ofString "routes")) = false ∧ ((Str.ofString "policies") == (Str.ofString "holdbacks")) = false ∧ ((Str.ofString "policies") == (Str.ofString "groups")) = false ∧ ((Str.ofString "policies") == (Str.ofString "replicas")) = false ∧ ((Str.ofString "policies") == (Str.ofString "pause")) = false ∧ ((Str.ofString "policies") == (Str.ofString "down")) = false ∧ ((Str.ofString "policies") == (Str.ofString "store")) = false ∧ ((Str.ofString "policies") == (Str.ofString "lookback")) = false ∧ ((Str.ofString "windows") == (Str.ofString "week")) = false ∧ ((Str.ofString "windows") == (Str.ofString "people")) = false ∧ ((Str.ofString "windows") == (Str.ofString "schedules")) = false ∧ ((Str.ofString "windows") == (Str.ofString "policies")) = false ∧ ((Str.ofString "windows") == (Str.ofString "routes")) = false ∧ ((Str.ofString "windows") == (Str.ofString "holdbacks")) = false ∧ ((Str.ofString "windows") == (Str.ofString "groups")) = false ∧ ((Str.ofString "windows") == (Str.ofString "replicas")) = false ∧ ((Str.ofString "windows") == (Str.ofString "pause")) = false ∧ ((Str.ofString "windows") == (Str.ofString "down")) = false ∧ ((Str.ofString "windows") == (Str.ofString "store")) = false ∧ ((Str.ofString "windows") == (Str.ofString "lookback")) = false ∧ ((Str.ofString "routes") == (Str.ofString "week")) = false ∧ ((Str.ofString "routes") == (Str.ofString "people")) = false ∧ ((Str.ofString "routes") == (Str.ofString "schedules")) = false ∧ ((Str.ofString "routes") == (Str.ofString "policies")) = false ∧ ((Str.ofString "routes") == (Str.ofString "windows")) = false ∧ ((Str.ofString "routes") == (Str.ofString "holdbacks")) = false ∧ ((Str.ofString "routes") == (Str.ofString "groups")) = false ∧ ((Str.ofString "routes") == (Str.ofString "replicas")) = false ∧ ((Str.ofString "routes") == (Str.ofString "pause")) = false ∧ ((Str.ofString "routes") == (Str.ofString "down")) = false ∧ ((Str.ofString "routes") == (Str.ofString "store")) = false ∧ ((Str.ofString "routes") == (Str.ofString "lookback")) = false ∧ ((Str.ofString "holdbacks") == (Str.ofString "week")) = false ∧ ((Str.ofString "holdbacks") == (Str.ofString "people")) = false ∧ ((Str.ofString "holdbacks") == (Str.ofString "schedules")) = false ∧ ((Str.ofString "holdbacks") == (Str.ofString "policies")) = false ∧ ((Str.ofString "holdbacks") == (Str.ofString "windows")) = false ∧ ((Str.ofString "holdbacks") == (Str.ofString "routes")) = false ∧ ((Str.ofString "holdbacks") == (Str.ofString "groups")) = false ∧ ((Str.ofString "holdbacks") == (Str.ofString "replicas")) = false ∧ ((Str.ofString "holdbacks") == (Str.ofString "pause")) = false ∧ ((Str.ofString "holdbacks") == (Str.ofString "down")) = false ∧ ((Str.ofString "holdbacks") == (Str.ofString "store")) = false ∧ ((Str.ofString "holdbacks") == (Str.ofString "lookback")) = false ∧ ((Str.ofString "groups") == (Str.ofString "week")) = false ∧ ((Str.ofString "groups") == (Str.ofString "people")) = false ∧ ((Str.ofString "groups") == (Str.ofString "schedules")) = false ∧ ((Str.ofString "groups") == (Str.ofString "policies")) = false ∧ ((Str.ofString "groups") == (Str.ofString "windows")) = false ∧ ((Str.ofString "groups") == (Str.ofString "routes")) = false ∧ ((Str.ofString "groups") == (Str.ofString "holdbacks")) = false ∧ ((Str.ofString "groups") == (Str.ofString "replicas")) = false ∧ ((Str.ofString "groups") == (Str.ofString "pause")) = false ∧ ((Str.ofString "groups") == (Str.ofString "down")) = false ∧ ((Str.ofString "groups") == (Str.ofString "store")) = false ∧ ((Str.ofString "groups") == (Str.ofString "lookback")) = false ∧ ((Str.ofString "replicas") == (Str.ofString "week")) = false ∧ ((Str.ofString "replicas") == (Str.ofString "people")) = false ∧ ((Str.ofString "replicas") == (Str.ofString "schedules")) = false ∧ ((Str.ofString "replicas") == (Str.ofString "policies")) = false ∧ ((Str.ofString "replicas") == (Str.ofString "windows")) = false ∧ ((Str.ofString "replicas") == (Str.ofString "routes")) = false ∧ ((Str.ofString "replicas") == (Str.ofString "holdbacks")) = false ∧ ((Str.ofString "replicas") == (Str.ofString "groups")) = false ∧ ((Str.ofString "replicas") == (Str.ofString "pause")) = false ∧ ((Str.ofString "replicas") == (Str.ofString "down")) = false ∧ ((Str.ofString "replicas") == (Str.ofString "store")) = false ∧ ((Str.ofString "replicas") == (Str.ofString "lookback")) = false ∧ ((Str.ofString "pause") == (Str.ofString "week")) = false ∧ ((Str.ofString "pause") == (Str.ofString "people")) = false ∧ ((Str.ofString "pause") == (Str.ofString "schedules")) = false ∧ ((Str.ofString "pause") == (Str.ofString "policies")) = false ∧ ((Str.ofString "pause") == (Str.ofString "windows")) = false ∧ ((Str.ofString "pause") == (Str.ofString "routes")) = false ∧ ((Str.ofString "pause") == (Str.ofString "holdbacks")) = false ∧ ((Str.ofString "pause") == (Str.ofString "groups")) = false ∧ ((Str.ofString "pause") == (Str.ofString "replicas")) = false ∧ ((Str.ofString "pause") == (Str.ofString "down")) = false ∧ ((Str.ofString "pause") == (Str.ofString "store")) = false ∧ ((Str.ofString "pause") == (Str.ofString "lookback")) = false ∧ ((Str.ofString "down") == (Str.ofString "week")) = false ∧ ((Str.ofString "down") == (Str.ofString "people")) = false ∧ ((Str.ofString "down") == (Str.ofString "schedules")) = false ∧ ((Str.ofString "down") == (Str.ofString "policies")) = false ∧ ((Str.ofString "down") == (Str.ofString "windows")) = false ∧ ((Str.ofString "down") == (Str.ofString "routes")) = false ∧ ((Str.ofString "down") == (Str.ofString "holdbacks")) = false ∧ ((Str.ofString "down") == (Str.ofString "groups")) = false ∧ ((Str.ofString "down") == (Str.ofString "replicas")) = false ∧ ((Str.ofString "down") == (Str.ofString "pause")) = false ∧ ((Str.ofString "down") == (Str.ofString "store")) = false ∧ ((Str.ofString "down") == (Str.ofString "lookback")) = false ∧ ((Str.ofString "store") == (Str.ofString "week")) = false ∧ ((Str.ofString "store") == (Str.ofString "people")) = false ∧ ((Str.ofString "store") == (Str.ofString "schedules")) = false ∧ ((Str.ofString "store") == (Str.ofString "policies")) = false ∧ ((Str.ofString "store") == (Str.ofString "windows")) = false ∧ ((Str.ofString "store") == (Str.ofString "routes")) = false ∧ ((Str.ofString "store") == (Str.ofString "holdbacks")) = false ∧ ((Str.ofString "store") == (Str.ofString "groups")) = false ∧ ((Str.ofString "store") == (Str.ofString "replicas")) = false ∧ ((Str.ofString "store") == (Str.ofString "pause")) = false ∧ ((Str.ofString "store") == (Str.ofString "down")) = false ∧ ((Str.ofString "store") == (Str.ofString "lookback")) = false ∧ ((Str.ofString "lookback") == (Str.ofString "week")) = false ∧ ((Str.ofString "lookback") == (Str.ofString "people")) = false ∧ ((Str.ofString "lookback") == (Str.ofString "schedules")) = false ∧ ((Str.ofString "lookback") == (Str.ofString "policies")) = false ∧ ((Str.ofString "lookback") == (Str.ofString "windows")) = false ∧ ((Str.ofString "lookback") == (Str.ofString "routes")) = false ∧ ((Str.ofString "lookback") == (Str.ofString "holdbacks")) = false ∧ ((Str.ofString "lookback") == (Str.ofString "groups")) = false ∧ ((Str.ofString "lookback") == (Str.ofString "replicas")) = false ∧ ((Str.ofString "lookback") == (Str.ofString "pause")) = false ∧ ((Str.ofString "lookback") == (Str.ofString "down")) = false ∧ ((Str.ofString "lookback") == (Str.ofString "store")) = false := by
  repeat' apply And.intro
  all_goals decide +kernel
theorem bind_setup (D : Addr) (doc pm : Value) (an : Option Addr) (cdv ct m w0 w1 w2 w3 w4 w5 w6 w7 w8 w9 w10 w11 : Value) : ∃ k : Option Value → Sem (List (Str × Value)), bindArgs (PySem.W.fnOf "setup" "setup" (defArgs s_setup) (defBody s_setup) (defScope s_setup) .none (.ref D) doc pm an cdv ct) ⟨[], [((Str.ofString "week"), w0), ((Str.ofString "people"), w1), ((Str.ofString "schedules"), w2), ((Str.ofString "policies"), w3), ((Str.ofString "windows"), w4), ((Str.ofString "routes"), w5), ((Str.ofString "holdbacks"), w6), ((Str.ofString "groups"), w7), ((Str.ofString "replicas"), w8), ((Str.ofString "pause"), w9), ((Str.ofString "down"), w10), ((Str.ofString "lookback"), w11)]⟩ = nsGet D (Str.ofString "store") >>= k ∧
    k (some m) = pure [((Str.ofString "week"), w0), ((Str.ofString "people"), w1), ((Str.ofString "schedules"), w2), ((Str.ofString "policies"), w3), ((Str.ofString "windows"), w4), ((Str.ofString "routes"), w5), ((Str.ofString "holdbacks"), w6), ((Str.ofString "groups"), w7), ((Str.ofString "replicas"), w8), ((Str.ofString "pause"), w9), ((Str.ofString "down"), w10), ((Str.ofString "store"), m), ((Str.ofString "lookback"), w11)] := by
  have h1 : (defArgs s_setup).posonlyargs = [] := rfl
  have h2 : (defArgs s_setup).args = [] := rfl
  have h3 : (defArgs s_setup).kwonlyargs.map (·.arg) = [(Str.ofString "week"), (Str.ofString "people"), (Str.ofString "schedules"), (Str.ofString "policies"), (Str.ofString "windows"), (Str.ofString "routes"), (Str.ofString "holdbacks"), (Str.ofString "groups"), (Str.ofString "replicas"), (Str.ofString "pause"), (Str.ofString "down"), (Str.ofString "store"), (Str.ofString "lookback")] := rfl
  have h4 : (defArgs s_setup).vararg = none := rfl
  have h5 : (defArgs s_setup).kwarg = none := rfl
  have f1 : (PySem.W.fnOf "setup" "setup" (defArgs s_setup) (defBody s_setup) (defScope s_setup) .none (.ref D) doc pm an cdv ct).params = defArgs s_setup := rfl
  have f2 : (PySem.W.fnOf "setup" "setup" (defArgs s_setup) (defBody s_setup) (defScope s_setup) .none (.ref D) doc pm an cdv ct).defaults = .none := rfl
  have f3 : (PySem.W.fnOf "setup" "setup" (defArgs s_setup) (defBody s_setup) (defScope s_setup) .none (.ref D) doc pm an cdv ct).kwdefaults = .ref D := rfl
  refine Exists.intro ?k (And.intro ?e ?v)
  case e =>
   unfold bindArgs
   simp only [f1, f2, f3, h1, h2, h3, h4, h5, List.map_nil, List.nil_append, List.zip_nil_left, List.zip_nil_right, List.length_nil, List.forIn_cons, List.forIn_nil, List.contains_nil, List.contains_cons, kw_ne_setup, beq_self_eq_true, Bool.or_true, Bool.true_or, Bool.false_or, Bool.or_false, if_true, List.lookup_nil, List.lookup_cons, Option.isSome_none, Option.isSome_some, Bool.false_eq_true, if_false, pure_bind, List.cons_append, seqItems?, notAStandIn, Option.isNone_none, Option.isNone_some, gt_iff_lt, Nat.lt_irrefl, decide_false, Bool.and_true, Bool.false_and, false_and, Nat.zero_sub, Nat.sub_zero, List.drop_nil, List.take_nil, List.filter_nil, List.isEmpty_nil, Bool.not_true, Option.getD_none, Option.getD_some, List.take_zero, List.drop_zero, Nat.sub_self, bind_assoc, List.isEmpty_cons, Bool.not_false, Array.toList_empty, and_true]
   rfl
  case v =>
   dsimp only
   simp only [pure_bind, List.forIn_nil, List.isEmpty_nil, Bool.not_true, Bool.false_eq_true, if_false, List.forIn_cons, List.lookup_cons, List.lookup_nil, kw_ne_setup, beq_self_eq_true, Option.isNone_some, Option.isNone_none]
   simp only [List.filterMap_cons, List.filterMap_nil, List.lookup_cons, List.lookup_nil, kw_ne_setup, beq_self_eq_true, Option.map_some, Option.map_none]
def spLaw (K : PySem.W.Frag) : Sp := fun vs H Q _ => ∃ (a : Addr) (ns : List Int), vs = [V.ref a] ∧ SqL K H a (ns.map V.int) ∧ ns.length ≤ 63 ∧ ∀ H1, Q (.bl true) H1
theorem all_mk {P : Program} {w : World} {K : PySem.W.Frag} {h : Heap} {mg : Str → Option Value} {fa : Addr} (X : K.In h) (G : h.Ns mainGlobals mg) (hfa : mg "law" = some (.ref fa))
    {f0 f1 f2 f3 f4 f5 f6 f7 f8 f9 f10 f11 f12 f13 f14 f15 f16 f17 f18 f19 f20 f21 f22 f23 f24 f25 f26 f27 f28 f29 f30 f31 f32 f33 f34 f35 f36 f37 f38 f39 f40 f41 f42 f43 f44 f45 f46 f47 f48 f49 f50 f51 f52 f53 f54 f55 f56 f57 f58 f59 f60 f61 f62 f63 f64 f65 f66 f67 f68 f69 f70 f71 f72 f73 f74 f75 f76 f77 : Addr} {od0 an0 od1 an1 od2 an2 od3 an3 od4 an4 od5 an5 od6 an6 od7 an7 od8 an8 od9 an9 od10 an10 od11 an11 od12 an12 od13 an13 od14 an14 od15 an15 od16 an16 od17 an17 od18 an18 od19 an19 od20 an20 od21 an21 od22 an22 od23 an23 od24 an24 od25 an25 od26 an26 od27 an27 od28 an28 od29 an29 od30 an30 od31 an31 od32 an32 od33 an33 od34 an34 od35 an35 od36 an36 od37 an37 od38 an38 od39 an39 od40 an40 od41 an41 od42 an42 od43 an43 od44 an44 od45 an45 od46 an46 od47 an47 od48 an48 od49 an49 od50 an50 od51 an51 od52 an52 od53 an53 od54 an54 od55 an55 od56 an56 od57 an57 od58 an58 od59 an59 od60 an60 od61 an61 od62 an62 od63 an63 od64 an64 od65 an65 od66 an66 od67 an67 od68 an68 od69 an69 od70 an70 od71 an71 od72 an72 od73 an73 od74 an74 od75 an75 od76 an76 od77 an77 : Option Addr} {sl0 sl1 sl2 sl3 sl4 sl5 sl6 sl7 sl8 sl9 sl10 sl11 sl12 sl13 sl14 sl15 sl16 sl17 sl18 sl19 sl20 sl21 sl22 sl23 sl24 sl25 sl26 sl27 sl28 sl29 sl30 sl31 sl32 sl33 sl34 sl35 sl36 sl37 sl38 sl39 sl40 sl41 sl42 sl43 sl44 sl45 sl46 sl47 sl48 sl49 sl50 sl51 sl52 sl53 sl54 sl55 sl56 sl57 sl58 sl59 sl60 sl61 sl62 sl63 sl64 sl65 sl66 sl67 sl68 sl69 sl70 sl71 sl72 sl73 sl74 sl75 sl76 sl77 : Array (Option Value)} {oc0 kV0 dc0 pm0 cd0 ct0 oc1 kV1 dc1 pm1 cd1 ct1 oc2 kV2 dc2 pm2 cd2 ct2 oc3 kV3 dc3 pm3 cd3 ct3 oc4 kV4 dc4 pm4 cd4 ct4 oc5 kV5 dc5 pm5 cd5 ct5 oc6 kV6 dc6 pm6 cd6 ct6 oc7 kV7 dc7 pm7 cd7 ct7 oc8 kV8 dc8 pm8 cd8 ct8 oc9 kV9 dc9 pm9 cd9 ct9 oc10 kV10 dc10 pm10 cd10 ct10 oc11 kV11 dc11 pm11 cd11 ct11 oc12 kV12 dc12 pm12 cd12 ct12 oc13 kV13 dc13 pm13 cd13 ct13 oc14 kV14 dc14 pm14 cd14 ct14 oc15 kV15 dc15 pm15 cd15 ct15 oc16 kV16 dc16 pm16 cd16 ct16 oc17 kV17 dc17 pm17 cd17 ct17 oc18 kV18 dc18 pm18 cd18 ct18 oc19 kV19 dc19 pm19 cd19 ct19 oc20 kV20 dc20 pm20 cd20 ct20 oc21 kV21 dc21 pm21 cd21 ct21 oc22 kV22 dc22 pm22 cd22 ct22 oc23 kV23 dc23 pm23 cd23 ct23 oc24 kV24 dc24 pm24 cd24 ct24 oc25 kV25 dc25 pm25 cd25 ct25 oc26 kV26 dc26 pm26 cd26 ct26 oc27 kV27 dc27 pm27 cd27 ct27 oc28 kV28 dc28 pm28 cd28 ct28 oc29 kV29 dc29 pm29 cd29 ct29 oc30 kV30 dc30 pm30 cd30 ct30 oc31 kV31 dc31 pm31 cd31 ct31 oc32 kV32 dc32 pm32 cd32 ct32 oc33 kV33 dc33 pm33 cd33 ct33 oc34 kV34 dc34 pm34 cd34 ct34 oc35 dc35 pm35 cd35 ct35 oc36 kV36 dc36 pm36 cd36 ct36 oc37 kV37 dc37 pm37 cd37 ct37 oc38 kV38 dc38 pm38 cd38 ct38 oc39 kV39 dc39 pm39 cd39 ct39 oc40 kV40 dc40 pm40 cd40 ct40 oc41 kV41 dc41 pm41 cd41 ct41 oc42 kV42 dc42 pm42 cd42 ct42 oc43 kV43 dc43 pm43 cd43 ct43 oc44 kV44 dc44 pm44 cd44 ct44 oc45 kV45 dc45 pm45 cd45 ct45 oc46 kV46 dc46 pm46 cd46 ct46 oc47 kV47 dc47 pm47 cd47 ct47 oc48 kV48 dc48 pm48 cd48 ct48 oc49 kV49 dc49 pm49 cd49 ct49 oc50 kV50 dc50 pm50 cd50 ct50 oc51 kV51 dc51 pm51 cd51 ct51 oc52 kV52 dc52 pm52 cd52 ct52 oc53 kV53 dc53 pm53 cd53 ct53 oc54 kV54 dc54 pm54 cd54 ct54 oc55 kV55 dc55 pm55 cd55 ct55 oc56 kV56 dc56 pm56 cd56 ct56 oc57 kV57 dc57 pm57 cd57 ct57 oc58 kV58 dc58 pm58 cd58 ct58 oc59 kV59 dc59 pm59 cd59 ct59 oc60 kV60 dc60 pm60 cd60 ct60 oc61 kV61 dc61 pm61 cd61 ct61 oc62 kV62 dc62 pm62 cd62 ct62 oc63 kV63 dc63 pm63 cd63 ct63 oc64 kV64 dc64 pm64 cd64 ct64 oc65 kV65 dc65 pm65 cd65 ct65 oc66 kV66 dc66 pm66 cd66 ct66 oc67 kV67 dc67 pm67 cd67 ct67 oc68 kV68 dc68 pm68 cd68 ct68 oc69 kV69 dc69 pm69 cd69 ct69 oc70 kV70 dc70 pm70 cd70 ct70 oc71 kV71 dc71 pm71 cd71 ct71 oc72 kV72 dc72 pm72 cd72 ct72 oc73 kV73 dc73 pm73 cd73 ct73 oc74 kV74 dc74 pm74 cd74 ct74 oc75 kV75 dc75 pm75 cd75 ct75 oc76 kV76 dc76 pm76 cd76 ct76 oc77 kV77 dc77 pm77 cd77 ct77 : Value}
    {C_Setup fi_Setup : Addr} {odi_Setup ani_Setup : Option Addr} {sli_Setup : Array (Option Value)} {oci_Setup kVi_Setup dci_Setup pmi_Setup cdi_Setup cti_Setup : Value}
    (ac_Setup : PySem.W.nsIn K mainGlobals "Setup" = some (some (.ref C_Setup))) (ai_Setup : PySem.W.findIn K (.ref C_Setup) "__init__" = some (some (.ref fi_Setup))) (ii_Setup : PySem.W.isFn K (.ref fi_Setup) = true) (li_Setup : K.lookup fi_Setup = some ⟨oci_Setup, odi_Setup, .func (PySem.W.fnOf "__init__" "Setup.__init__" (defArgs s_Setup_init) (defBody s_Setup_init) (defScope s_Setup_init) .none kVi_Setup dci_Setup pmi_Setup ani_Setup cdi_Setup cti_Setup), sli_Setup⟩) (ci_Setup : PySem.W.codeIn K cdi_Setup "Setup.__init__" = true) (ki_Setup : PySem.W.keepIn K (.ref fi_Setup) = true)
    (pg_Setup : PySem.W.plainGet K C_Setup Str.empty = true) (hd_Setup : PySem.W.hasDictIn K C_Setup = true) (po_Setup : PySem.W.plainOver K C_Setup = true) (sa_Setup : PySem.W.findIn K (.ref C_Setup) "__setattr__" = some (some (.builtin "object.__setattr__"))) (mk_Setup : PySem.W.makesIn K C_Setup = true) (kc_Setup : PySem.W.keepIn K (.ref C_Setup) = true)
    (na_Setup_week : PySem.W.findIn K (.ref C_Setup) "week" = some none)
    (na_Setup_people : PySem.W.findIn K (.ref C_Setup) "people" = some none)
    (na_Setup_schedules : PySem.W.findIn K (.ref C_Setup) "schedules" = some none)
    (na_Setup_policies : PySem.W.findIn K (.ref C_Setup) "policies" = some none)
    (na_Setup_windows : PySem.W.findIn K (.ref C_Setup) "windows" = some none)
    (na_Setup_routes : PySem.W.findIn K (.ref C_Setup) "routes" = some none)
    (na_Setup_holdbacks : PySem.W.findIn K (.ref C_Setup) "holdbacks" = some none)
    (na_Setup_groups : PySem.W.findIn K (.ref C_Setup) "groups" = some none)
    (na_Setup_replicas : PySem.W.findIn K (.ref C_Setup) "replicas" = some none)
    (na_Setup_pause : PySem.W.findIn K (.ref C_Setup) "pause" = some none)
    (na_Setup_down : PySem.W.findIn K (.ref C_Setup) "down" = some none)
    (na_Setup_store : PySem.W.findIn K (.ref C_Setup) "store" = some none)
    (na_Setup_lookback : PySem.W.findIn K (.ref C_Setup) "lookback" = some none)
    (a0 : PySem.W.nsIn K mainGlobals "_law_words" = some (some (.ref f0))) (l0 : K.lookup f0 = some ⟨oc0, od0, .func (PySem.W.fnOf "_law_words" "_law_words" (defArgs s__law_words) (defBody s__law_words) (defScope s__law_words) .none kV0 dc0 pm0 an0 cd0 ct0), sl0⟩) (c0 : PySem.W.codeIn K cd0 "_law_words" = true) (k0 : PySem.W.keepIn K (.ref f0) = true)
    (a1 : PySem.W.nsIn K mainGlobals "_law_cell" = some (some (.ref f1))) (l1 : K.lookup f1 = some ⟨oc1, od1, .func (PySem.W.fnOf "_law_cell" "_law_cell" (defArgs s__law_cell) (defBody s__law_cell) (defScope s__law_cell) .none kV1 dc1 pm1 an1 cd1 ct1), sl1⟩) (c1 : PySem.W.codeIn K cd1 "_law_cell" = true) (k1 : PySem.W.keepIn K (.ref f1) = true)
    (a2 : PySem.W.nsIn K mainGlobals "_law_worths" = some (some (.ref f2))) (l2 : K.lookup f2 = some ⟨oc2, od2, .func (PySem.W.fnOf "_law_worths" "_law_worths" (defArgs s__law_worths) (defBody s__law_worths) (defScope s__law_worths) .none kV2 dc2 pm2 an2 cd2 ct2), sl2⟩) (c2 : PySem.W.codeIn K cd2 "_law_worths" = true) (k2 : PySem.W.keepIn K (.ref f2) = true)
    (a3 : PySem.W.nsIn K mainGlobals "_law_draws" = some (some (.ref f3))) (l3 : K.lookup f3 = some ⟨oc3, od3, .func (PySem.W.fnOf "_law_draws" "_law_draws" (defArgs s__law_draws) (defBody s__law_draws) (defScope s__law_draws) .none kV3 dc3 pm3 an3 cd3 ct3), sl3⟩) (c3 : PySem.W.codeIn K cd3 "_law_draws" = true) (k3 : PySem.W.keepIn K (.ref f3) = true)
    (a4 : PySem.W.nsIn K mainGlobals "_law_layer" = some (some (.ref f4))) (l4 : K.lookup f4 = some ⟨oc4, od4, .func (PySem.W.fnOf "_law_layer" "_law_layer" (defArgs s__law_layer) (defBody s__law_layer) (defScope s__law_layer) .none kV4 dc4 pm4 an4 cd4 ct4), sl4⟩) (c4 : PySem.W.codeIn K cd4 "_law_layer" = true) (k4 : PySem.W.keepIn K (.ref f4) = true)
    (a5 : PySem.W.nsIn K mainGlobals "_law_rota" = some (some (.ref f5))) (l5 : K.lookup f5 = some ⟨oc5, od5, .func (PySem.W.fnOf "_law_rota" "_law_rota" (defArgs s__law_rota) (defBody s__law_rota) (defScope s__law_rota) .none kV5 dc5 pm5 an5 cd5 ct5), sl5⟩) (c5 : PySem.W.codeIn K cd5 "_law_rota" = true) (k5 : PySem.W.keepIn K (.ref f5) = true)
    (a6 : PySem.W.nsIn K mainGlobals "_law_ladder" = some (some (.ref f6))) (l6 : K.lookup f6 = some ⟨oc6, od6, .func (PySem.W.fnOf "_law_ladder" "_law_ladder" (defArgs s__law_ladder) (defBody s__law_ladder) (defScope s__law_ladder) .none kV6 dc6 pm6 an6 cd6 ct6), sl6⟩) (c6 : PySem.W.codeIn K cd6 "_law_ladder" = true) (k6 : PySem.W.keepIn K (.ref f6) = true)
    (a7 : PySem.W.nsIn K mainGlobals "_law_shutter" = some (some (.ref f7))) (l7 : K.lookup f7 = some ⟨oc7, od7, .func (PySem.W.fnOf "_law_shutter" "_law_shutter" (defArgs s__law_shutter) (defBody s__law_shutter) (defScope s__law_shutter) .none kV7 dc7 pm7 an7 cd7 ct7), sl7⟩) (c7 : PySem.W.codeIn K cd7 "_law_shutter" = true) (k7 : PySem.W.keepIn K (.ref f7) = true)
    (a8 : PySem.W.nsIn K mainGlobals "_law_matcher" = some (some (.ref f8))) (l8 : K.lookup f8 = some ⟨oc8, od8, .func (PySem.W.fnOf "_law_matcher" "_law_matcher" (defArgs s__law_matcher) (defBody s__law_matcher) (defScope s__law_matcher) .none kV8 dc8 pm8 an8 cd8 ct8), sl8⟩) (c8 : PySem.W.codeIn K cd8 "_law_matcher" = true) (k8 : PySem.W.keepIn K (.ref f8) = true)
    (a9 : PySem.W.nsIn K mainGlobals "_law_route" = some (some (.ref f9))) (l9 : K.lookup f9 = some ⟨oc9, od9, .func (PySem.W.fnOf "_law_route" "_law_route" (defArgs s__law_route) (defBody s__law_route) (defScope s__law_route) .none kV9 dc9 pm9 an9 cd9 ct9), sl9⟩) (c9 : PySem.W.codeIn K cd9 "_law_route" = true) (k9 : PySem.W.keepIn K (.ref f9) = true)
    (a10 : PySem.W.nsIn K mainGlobals "_law_holds" = some (some (.ref f10))) (l10 : K.lookup f10 = some ⟨oc10, od10, .func (PySem.W.fnOf "_law_holds" "_law_holds" (defArgs s__law_holds) (defBody s__law_holds) (defScope s__law_holds) .none kV10 dc10 pm10 an10 cd10 ct10), sl10⟩) (c10 : PySem.W.codeIn K cd10 "_law_holds" = true) (k10 : PySem.W.keepIn K (.ref f10) = true)
    (a11 : PySem.W.nsIn K mainGlobals "require" = some (some (.ref f11))) (l11 : K.lookup f11 = some ⟨oc11, od11, .func (PySem.W.fnOf "require" "require" (defArgs s_require) (defBody s_require) (defScope s_require) .none kV11 dc11 pm11 an11 cd11 ct11), sl11⟩) (c11 : PySem.W.codeIn K cd11 "require" = true) (k11 : PySem.W.keepIn K (.ref f11) = true)
    (a12 : PySem.W.nsIn K mainGlobals "is_between" = some (some (.ref f12))) (l12 : K.lookup f12 = some ⟨oc12, od12, .func (PySem.W.fnOf "is_between" "is_between" (defArgs s_is_between) (defBody s_is_between) (defScope s_is_between) .none kV12 dc12 pm12 an12 cd12 ct12), sl12⟩) (c12 : PySem.W.codeIn K cd12 "is_between" = true) (k12 : PySem.W.keepIn K (.ref f12) = true)
    (a13 : PySem.W.nsIn K mainGlobals "is_value" = some (some (.ref f13))) (l13 : K.lookup f13 = some ⟨oc13, od13, .func (PySem.W.fnOf "is_value" "is_value" (defArgs s_is_value) (defBody s_is_value) (defScope s_is_value) .none kV13 dc13 pm13 an13 cd13 ct13), sl13⟩) (c13 : PySem.W.codeIn K cd13 "is_value" = true) (k13 : PySem.W.keepIn K (.ref f13) = true)
    (a14 : PySem.W.nsIn K mainGlobals "is_name" = some (some (.ref f14))) (l14 : K.lookup f14 = some ⟨oc14, od14, .func (PySem.W.fnOf "is_name" "is_name" (defArgs s_is_name) (defBody s_is_name) (defScope s_is_name) .none kV14 dc14 pm14 an14 cd14 ct14), sl14⟩) (c14 : PySem.W.codeIn K cd14 "is_name" = true) (k14 : PySem.W.keepIn K (.ref f14) = true)
    (a15 : PySem.W.nsIn K mainGlobals "names_of" = some (some (.ref f15))) (l15 : K.lookup f15 = some ⟨oc15, od15, .func (PySem.W.fnOf "names_of" "names_of" (defArgs s_names_of) (defBody s_names_of) (defScope s_names_of) .none kV15 dc15 pm15 an15 cd15 ct15), sl15⟩) (c15 : PySem.W.codeIn K cd15 "names_of" = true) (k15 : PySem.W.keepIn K (.ref f15) = true)
    (a16 : PySem.W.nsIn K mainGlobals "is_new_name" = some (some (.ref f16))) (l16 : K.lookup f16 = some ⟨oc16, od16, .func (PySem.W.fnOf "is_new_name" "is_new_name" (defArgs s_is_new_name) (defBody s_is_new_name) (defScope s_is_new_name) .none kV16 dc16 pm16 an16 cd16 ct16), sl16⟩) (c16 : PySem.W.codeIn K cd16 "is_new_name" = true) (k16 : PySem.W.keepIn K (.ref f16) = true)
    (a17 : PySem.W.nsIn K mainGlobals "all_true" = some (some (.ref f17))) (l17 : K.lookup f17 = some ⟨oc17, od17, .func (PySem.W.fnOf "all_true" "all_true" (defArgs s_all_true) (defBody s_all_true) (defScope s_all_true) .none kV17 dc17 pm17 an17 cd17 ct17), sl17⟩) (c17 : PySem.W.codeIn K cd17 "all_true" = true) (k17 : PySem.W.keepIn K (.ref f17) = true)
    (a18 : PySem.W.nsIn K mainGlobals "span_fits" = some (some (.ref f18))) (l18 : K.lookup f18 = some ⟨oc18, od18, .func (PySem.W.fnOf "span_fits" "span_fits" (defArgs s_span_fits) (defBody s_span_fits) (defScope s_span_fits) .none kV18 dc18 pm18 an18 cd18 ct18), sl18⟩) (c18 : PySem.W.codeIn K cd18 "span_fits" = true) (k18 : PySem.W.keepIn K (.ref f18) = true)
    (a19 : PySem.W.nsIn K mainGlobals "layer_fits" = some (some (.ref f19))) (l19 : K.lookup f19 = some ⟨oc19, od19, .func (PySem.W.fnOf "layer_fits" "layer_fits" (defArgs s_layer_fits) (defBody s_layer_fits) (defScope s_layer_fits) .none kV19 dc19 pm19 an19 cd19 ct19), sl19⟩) (c19 : PySem.W.codeIn K cd19 "layer_fits" = true) (k19 : PySem.W.keepIn K (.ref f19) = true)
    (a20 : PySem.W.nsIn K mainGlobals "standin_fits" = some (some (.ref f20))) (l20 : K.lookup f20 = some ⟨oc20, od20, .func (PySem.W.fnOf "standin_fits" "standin_fits" (defArgs s_standin_fits) (defBody s_standin_fits) (defScope s_standin_fits) .none kV20 dc20 pm20 an20 cd20 ct20), sl20⟩) (c20 : PySem.W.codeIn K cd20 "standin_fits" = true) (k20 : PySem.W.keepIn K (.ref f20) = true)
    (a21 : PySem.W.nsIn K mainGlobals "schedule_fits" = some (some (.ref f21))) (l21 : K.lookup f21 = some ⟨oc21, od21, .func (PySem.W.fnOf "schedule_fits" "schedule_fits" (defArgs s_schedule_fits) (defBody s_schedule_fits) (defScope s_schedule_fits) .none kV21 dc21 pm21 an21 cd21 ct21), sl21⟩) (c21 : PySem.W.codeIn K cd21 "schedule_fits" = true) (k21 : PySem.W.keepIn K (.ref f21) = true)
    (a22 : PySem.W.nsIn K mainGlobals "check_people" = some (some (.ref f22))) (l22 : K.lookup f22 = some ⟨oc22, od22, .func (PySem.W.fnOf "check_people" "check_people" (defArgs s_check_people) (defBody s_check_people) (defScope s_check_people) .none kV22 dc22 pm22 an22 cd22 ct22), sl22⟩) (c22 : PySem.W.codeIn K cd22 "check_people" = true) (k22 : PySem.W.keepIn K (.ref f22) = true)
    (a23 : PySem.W.nsIn K mainGlobals "policy_fits" = some (some (.ref f23))) (l23 : K.lookup f23 = some ⟨oc23, od23, .func (PySem.W.fnOf "policy_fits" "policy_fits" (defArgs s_policy_fits) (defBody s_policy_fits) (defScope s_policy_fits) .none kV23 dc23 pm23 an23 cd23 ct23), sl23⟩) (c23 : PySem.W.codeIn K cd23 "policy_fits" = true) (k23 : PySem.W.keepIn K (.ref f23) = true)
    (a24 : PySem.W.nsIn K mainGlobals "window_fits" = some (some (.ref f24))) (l24 : K.lookup f24 = some ⟨oc24, od24, .func (PySem.W.fnOf "window_fits" "window_fits" (defArgs s_window_fits) (defBody s_window_fits) (defScope s_window_fits) .none kV24 dc24 pm24 an24 cd24 ct24), sl24⟩) (c24 : PySem.W.codeIn K cd24 "window_fits" = true) (k24 : PySem.W.keepIn K (.ref f24) = true)
    (a25 : PySem.W.nsIn K mainGlobals "label_fits" = some (some (.ref f25))) (l25 : K.lookup f25 = some ⟨oc25, od25, .func (PySem.W.fnOf "label_fits" "label_fits" (defArgs s_label_fits) (defBody s_label_fits) (defScope s_label_fits) .none kV25 dc25 pm25 an25 cd25 ct25), sl25⟩) (c25 : PySem.W.codeIn K cd25 "label_fits" = true) (k25 : PySem.W.keepIn K (.ref f25) = true)
    (a26 : PySem.W.nsIn K mainGlobals "matcher_fits" = some (some (.ref f26))) (l26 : K.lookup f26 = some ⟨oc26, od26, .func (PySem.W.fnOf "matcher_fits" "matcher_fits" (defArgs s_matcher_fits) (defBody s_matcher_fits) (defScope s_matcher_fits) .none kV26 dc26 pm26 an26 cd26 ct26), sl26⟩) (c26 : PySem.W.codeIn K cd26 "matcher_fits" = true) (k26 : PySem.W.keepIn K (.ref f26) = true)
    (a27 : PySem.W.nsIn K mainGlobals "matchers_fit" = some (some (.ref f27))) (l27 : K.lookup f27 = some ⟨oc27, od27, .func (PySem.W.fnOf "matchers_fit" "matchers_fit" (defArgs s_matchers_fit) (defBody s_matchers_fit) (defScope s_matchers_fit) .none kV27 dc27 pm27 an27 cd27 ct27), sl27⟩) (c27 : PySem.W.codeIn K cd27 "matchers_fit" = true) (k27 : PySem.W.keepIn K (.ref f27) = true)
    (a28 : PySem.W.nsIn K mainGlobals "labels_fit" = some (some (.ref f28))) (l28 : K.lookup f28 = some ⟨oc28, od28, .func (PySem.W.fnOf "labels_fit" "labels_fit" (defArgs s_labels_fit) (defBody s_labels_fit) (defScope s_labels_fit) .none kV28 dc28 pm28 an28 cd28 ct28), sl28⟩) (c28 : PySem.W.codeIn K cd28 "labels_fit" = true) (k28 : PySem.W.keepIn K (.ref f28) = true)
    (a29 : PySem.W.nsIn K mainGlobals "settings_fit" = some (some (.ref f29))) (l29 : K.lookup f29 = some ⟨oc29, od29, .func (PySem.W.fnOf "settings_fit" "settings_fit" (defArgs s_settings_fit) (defBody s_settings_fit) (defScope s_settings_fit) .none kV29 dc29 pm29 an29 cd29 ct29), sl29⟩) (c29 : PySem.W.codeIn K cd29 "settings_fit" = true) (k29 : PySem.W.keepIn K (.ref f29) = true)
    (a30 : PySem.W.nsIn K mainGlobals "route_fits" = some (some (.ref f30))) (l30 : K.lookup f30 = some ⟨oc30, od30, .func (PySem.W.fnOf "route_fits" "route_fits" (defArgs s_route_fits) (defBody s_route_fits) (defScope s_route_fits) .none kV30 dc30 pm30 an30 cd30 ct30), sl30⟩) (c30 : PySem.W.codeIn K cd30 "route_fits" = true) (k30 : PySem.W.keepIn K (.ref f30) = true)
    (a31 : PySem.W.nsIn K mainGlobals "holdback_fits" = some (some (.ref f31))) (l31 : K.lookup f31 = some ⟨oc31, od31, .func (PySem.W.fnOf "holdback_fits" "holdback_fits" (defArgs s_holdback_fits) (defBody s_holdback_fits) (defScope s_holdback_fits) .none kV31 dc31 pm31 an31 cd31 ct31), sl31⟩) (c31 : PySem.W.codeIn K cd31 "holdback_fits" = true) (k31 : PySem.W.keepIn K (.ref f31) = true)
    (a32 : PySem.W.nsIn K mainGlobals "check_routes" = some (some (.ref f32))) (l32 : K.lookup f32 = some ⟨oc32, od32, .func (PySem.W.fnOf "check_routes" "check_routes" (defArgs s_check_routes) (defBody s_check_routes) (defScope s_check_routes) .none kV32 dc32 pm32 an32 cd32 ct32), sl32⟩) (c32 : PySem.W.codeIn K cd32 "check_routes" = true) (k32 : PySem.W.keepIn K (.ref f32) = true)
    (a33 : PySem.W.nsIn K mainGlobals "store_fits" = some (some (.ref f33))) (l33 : K.lookup f33 = some ⟨oc33, od33, .func (PySem.W.fnOf "store_fits" "store_fits" (defArgs s_store_fits) (defBody s_store_fits) (defScope s_store_fits) .none kV33 dc33 pm33 an33 cd33 ct33), sl33⟩) (c33 : PySem.W.codeIn K cd33 "store_fits" = true) (k33 : PySem.W.keepIn K (.ref f33) = true)
    (a34 : PySem.W.nsIn K mainGlobals "check_rest" = some (some (.ref f34))) (l34 : K.lookup f34 = some ⟨oc34, od34, .func (PySem.W.fnOf "check_rest" "check_rest" (defArgs s_check_rest) (defBody s_check_rest) (defScope s_check_rest) .none kV34 dc34 pm34 an34 cd34 ct34), sl34⟩) (c34 : PySem.W.codeIn K cd34 "check_rest" = true) (k34 : PySem.W.keepIn K (.ref f34) = true)
    {kD_setup : Addr} {ku_setup : Value}
    (a35 : PySem.W.nsIn K mainGlobals "setup" = some (some (.ref f35))) (l35 : K.lookup f35 = some ⟨oc35, od35, .func (PySem.W.fnOf "setup" "setup" (defArgs s_setup) (defBody s_setup) (defScope s_setup) .none (.ref kD_setup) dc35 pm35 an35 cd35 ct35), sl35⟩) (c35 : PySem.W.codeIn K cd35 "setup" = true) (k35 : PySem.W.keepIn K (.ref f35) = true)
    (kn_setup : PySem.W.nsIn K kD_setup "store" = some (some ku_setup)) (kw_setup : wvOk K ku_setup (.tup [.int 0, .int 10, .int 2, .int 0]) = true)
    (a36 : PySem.W.nsIn K mainGlobals "_law_setup" = some (some (.ref f36))) (l36 : K.lookup f36 = some ⟨oc36, od36, .func (PySem.W.fnOf "_law_setup" "_law_setup" (defArgs s__law_setup) (defBody s__law_setup) (defScope s__law_setup) .none kV36 dc36 pm36 an36 cd36 ct36), sl36⟩) (c36 : PySem.W.codeIn K cd36 "_law_setup" = true) (k36 : PySem.W.keepIn K (.ref f36) = true)
    (a37 : PySem.W.nsIn K mainGlobals "_law_world" = some (some (.ref f37))) (l37 : K.lookup f37 = some ⟨oc37, od37, .func (PySem.W.fnOf "_law_world" "_law_world" (defArgs s__law_world) (defBody s__law_world) (defScope s__law_world) .none kV37 dc37 pm37 an37 cd37 ct37), sl37⟩) (c37 : PySem.W.codeIn K cd37 "_law_world" = true) (k37 : PySem.W.keepIn K (.ref f37) = true)
    (a38 : PySem.W.nsIn K mainGlobals "_law_labels" = some (some (.ref f38))) (l38 : K.lookup f38 = some ⟨oc38, od38, .func (PySem.W.fnOf "_law_labels" "_law_labels" (defArgs s__law_labels) (defBody s__law_labels) (defScope s__law_labels) .none kV38 dc38 pm38 an38 cd38 ct38), sl38⟩) (c38 : PySem.W.codeIn K cd38 "_law_labels" = true) (k38 : PySem.W.keepIn K (.ref f38) = true)
    (a39 : PySem.W.nsIn K mainGlobals "_law_value" = some (some (.ref f39))) (l39 : K.lookup f39 = some ⟨oc39, od39, .func (PySem.W.fnOf "_law_value" "_law_value" (defArgs s__law_value) (defBody s__law_value) (defScope s__law_value) .none kV39 dc39 pm39 an39 cd39 ct39), sl39⟩) (c39 : PySem.W.codeIn K cd39 "_law_value" = true) (k39 : PySem.W.keepIn K (.ref f39) = true)
    (a40 : PySem.W.nsIn K mainGlobals "_law_matches" = some (some (.ref f40))) (l40 : K.lookup f40 = some ⟨oc40, od40, .func (PySem.W.fnOf "_law_matches" "_law_matches" (defArgs s__law_matches) (defBody s__law_matches) (defScope s__law_matches) .none kV40 dc40 pm40 an40 cd40 ct40), sl40⟩) (c40 : PySem.W.codeIn K cd40 "_law_matches" = true) (k40 : PySem.W.keepIn K (.ref f40) = true)
    (a41 : PySem.W.nsIn K mainGlobals "_law_way" = some (some (.ref f41))) (l41 : K.lookup f41 = some ⟨oc41, od41, .func (PySem.W.fnOf "_law_way" "_law_way" (defArgs s__law_way) (defBody s__law_way) (defScope s__law_way) .none kV41 dc41 pm41 an41 cd41 ct41), sl41⟩) (c41 : PySem.W.codeIn K cd41 "_law_way" = true) (k41 : PySem.W.keepIn K (.ref f41) = true)
    (a42 : PySem.W.nsIn K mainGlobals "_law_case" = some (some (.ref f42))) (l42 : K.lookup f42 = some ⟨oc42, od42, .func (PySem.W.fnOf "_law_case" "_law_case" (defArgs s__law_case) (defBody s__law_case) (defScope s__law_case) .none kV42 dc42 pm42 an42 cd42 ct42), sl42⟩) (c42 : PySem.W.codeIn K cd42 "_law_case" = true) (k42 : PySem.W.keepIn K (.ref f42) = true)
    (a43 : PySem.W.nsIn K mainGlobals "_law_find" = some (some (.ref f43))) (l43 : K.lookup f43 = some ⟨oc43, od43, .func (PySem.W.fnOf "_law_find" "_law_find" (defArgs s__law_find) (defBody s__law_find) (defScope s__law_find) .none kV43 dc43 pm43 an43 cd43 ct43), sl43⟩) (c43 : PySem.W.codeIn K cd43 "_law_find" = true) (k43 : PySem.W.keepIn K (.ref f43) = true)
    (a44 : PySem.W.nsIn K mainGlobals "_law_lcm" = some (some (.ref f44))) (l44 : K.lookup f44 = some ⟨oc44, od44, .func (PySem.W.fnOf "_law_lcm" "_law_lcm" (defArgs s__law_lcm) (defBody s__law_lcm) (defScope s__law_lcm) .none kV44 dc44 pm44 an44 cd44 ct44), sl44⟩) (c44 : PySem.W.codeIn K cd44 "_law_lcm" = true) (k44 : PySem.W.keepIn K (.ref f44) = true)
    (a45 : PySem.W.nsIn K mainGlobals "_law_period" = some (some (.ref f45))) (l45 : K.lookup f45 = some ⟨oc45, od45, .func (PySem.W.fnOf "_law_period" "_law_period" (defArgs s__law_period) (defBody s__law_period) (defScope s__law_period) .none kV45 dc45 pm45 an45 cd45 ct45), sl45⟩) (c45 : PySem.W.codeIn K cd45 "_law_period" = true) (k45 : PySem.W.keepIn K (.ref f45) = true)
    (a46 : PySem.W.nsIn K mainGlobals "_law_settled" = some (some (.ref f46))) (l46 : K.lookup f46 = some ⟨oc46, od46, .func (PySem.W.fnOf "_law_settled" "_law_settled" (defArgs s__law_settled) (defBody s__law_settled) (defScope s__law_settled) .none kV46 dc46 pm46 an46 cd46 ct46), sl46⟩) (c46 : PySem.W.codeIn K cd46 "_law_settled" = true) (k46 : PySem.W.keepIn K (.ref f46) = true)
    (a47 : PySem.W.nsIn K mainGlobals "_law_muted" = some (some (.ref f47))) (l47 : K.lookup f47 = some ⟨oc47, od47, .func (PySem.W.fnOf "_law_muted" "_law_muted" (defArgs s__law_muted) (defBody s__law_muted) (defScope s__law_muted) .none kV47 dc47 pm47 an47 cd47 ct47), sl47⟩) (c47 : PySem.W.codeIn K cd47 "_law_muted" = true) (k47 : PySem.W.keepIn K (.ref f47) = true)
    (a48 : PySem.W.nsIn K mainGlobals "_law_on" = some (some (.ref f48))) (l48 : K.lookup f48 = some ⟨oc48, od48, .func (PySem.W.fnOf "_law_on" "_law_on" (defArgs s__law_on) (defBody s__law_on) (defScope s__law_on) .none kV48 dc48 pm48 an48 cd48 ct48), sl48⟩) (c48 : PySem.W.codeIn K cd48 "_law_on" = true) (k48 : PySem.W.keepIn K (.ref f48) = true)
    (a49 : PySem.W.nsIn K mainGlobals "_law_is_sure" = some (some (.ref f49))) (l49 : K.lookup f49 = some ⟨oc49, od49, .func (PySem.W.fnOf "_law_is_sure" "_law_is_sure" (defArgs s__law_is_sure) (defBody s__law_is_sure) (defScope s__law_is_sure) .none kV49 dc49 pm49 an49 cd49 ct49), sl49⟩) (c49 : PySem.W.codeIn K cd49 "_law_is_sure" = true) (k49 : PySem.W.keepIn K (.ref f49) = true)
    (a50 : PySem.W.nsIn K mainGlobals "_law_delay" = some (some (.ref f50))) (l50 : K.lookup f50 = some ⟨oc50, od50, .func (PySem.W.fnOf "_law_delay" "_law_delay" (defArgs s__law_delay) (defBody s__law_delay) (defScope s__law_delay) .none kV50 dc50 pm50 an50 cd50 ct50), sl50⟩) (c50 : PySem.W.codeIn K cd50 "_law_delay" = true) (k50 : PySem.W.keepIn K (.ref f50) = true)
    (a51 : PySem.W.nsIn K mainGlobals "_law_sums" = some (some (.ref f51))) (l51 : K.lookup f51 = some ⟨oc51, od51, .func (PySem.W.fnOf "_law_sums" "_law_sums" (defArgs s__law_sums) (defBody s__law_sums) (defScope s__law_sums) .none kV51 dc51 pm51 an51 cd51 ct51), sl51⟩) (c51 : PySem.W.codeIn K cd51 "_law_sums" = true) (k51 : PySem.W.keepIn K (.ref f51) = true)
    (a52 : PySem.W.nsIn K mainGlobals "_law_slack" = some (some (.ref f52))) (l52 : K.lookup f52 = some ⟨oc52, od52, .func (PySem.W.fnOf "_law_slack" "_law_slack" (defArgs s__law_slack) (defBody s__law_slack) (defScope s__law_slack) .none kV52 dc52 pm52 an52 cd52 ct52), sl52⟩) (c52 : PySem.W.codeIn K cd52 "_law_slack" = true) (k52 : PySem.W.keepIn K (.ref f52) = true)
    (a53 : PySem.W.nsIn K mainGlobals "_law_same" = some (some (.ref f53))) (l53 : K.lookup f53 = some ⟨oc53, od53, .func (PySem.W.fnOf "_law_same" "_law_same" (defArgs s__law_same) (defBody s__law_same) (defScope s__law_same) .none kV53 dc53 pm53 an53 cd53 ct53), sl53⟩) (c53 : PySem.W.codeIn K cd53 "_law_same" = true) (k53 : PySem.W.keepIn K (.ref f53) = true)
    (a54 : PySem.W.nsIn K mainGlobals "value_of" = some (some (.ref f54))) (l54 : K.lookup f54 = some ⟨oc54, od54, .func (PySem.W.fnOf "value_of" "value_of" (defArgs s_value_of) (defBody s_value_of) (defScope s_value_of) .none kV54 dc54 pm54 an54 cd54 ct54), sl54⟩) (c54 : PySem.W.codeIn K cd54 "value_of" = true) (k54 : PySem.W.keepIn K (.ref f54) = true)
    (a55 : PySem.W.nsIn K mainGlobals "matches" = some (some (.ref f55))) (l55 : K.lookup f55 = some ⟨oc55, od55, .func (PySem.W.fnOf "matches" "matches" (defArgs s_matches) (defBody s_matches) (defScope s_matches) .none kV55 dc55 pm55 an55 cd55 ct55), sl55⟩) (c55 : PySem.W.codeIn K cd55 "matches" = true) (k55 : PySem.W.keepIn K (.ref f55) = true)
    (a56 : PySem.W.nsIn K mainGlobals "matches_all" = some (some (.ref f56))) (l56 : K.lookup f56 = some ⟨oc56, od56, .func (PySem.W.fnOf "matches_all" "matches_all" (defArgs s_matches_all) (defBody s_matches_all) (defScope s_matches_all) .none kV56 dc56 pm56 an56 cd56 ct56), sl56⟩) (c56 : PySem.W.codeIn K cd56 "matches_all" = true) (k56 : PySem.W.keepIn K (.ref f56) = true)
    (a57 : PySem.W.nsIn K mainGlobals "_later" = some (some (.ref f57))) (l57 : K.lookup f57 = some ⟨oc57, od57, .func (PySem.W.fnOf "_later" "_later" (defArgs s__later) (defBody s__later) (defScope s__later) .none kV57 dc57 pm57 an57 cd57 ct57), sl57⟩) (c57 : PySem.W.codeIn K cd57 "_later" = true) (k57 : PySem.W.keepIn K (.ref f57) = true)
    (a58 : PySem.W.nsIn K mainGlobals "way" = some (some (.ref f58))) (l58 : K.lookup f58 = some ⟨oc58, od58, .func (PySem.W.fnOf "way" "way" (defArgs s_way) (defBody s_way) (defScope s_way) .none kV58 dc58 pm58 an58 cd58 ct58), sl58⟩) (c58 : PySem.W.codeIn K cd58 "way" = true) (k58 : PySem.W.keepIn K (.ref f58) = true)
    (a59 : PySem.W.nsIn K mainGlobals "end_of" = some (some (.ref f59))) (l59 : K.lookup f59 = some ⟨oc59, od59, .func (PySem.W.fnOf "end_of" "end_of" (defArgs s_end_of) (defBody s_end_of) (defScope s_end_of) .none kV59 dc59 pm59 an59 cd59 ct59), sl59⟩) (c59 : PySem.W.codeIn K cd59 "end_of" = true) (k59 : PySem.W.keepIn K (.ref f59) = true)
    (a60 : PySem.W.nsIn K mainGlobals "entry_of" = some (some (.ref f60))) (l60 : K.lookup f60 = some ⟨oc60, od60, .func (PySem.W.fnOf "entry_of" "entry_of" (defArgs s_entry_of) (defBody s_entry_of) (defScope s_entry_of) .none kV60 dc60 pm60 an60 cd60 ct60), sl60⟩) (c60 : PySem.W.codeIn K cd60 "entry_of" = true) (k60 : PySem.W.keepIn K (.ref f60) = true)
    (a61 : PySem.W.nsIn K mainGlobals "policy_of" = some (some (.ref f61))) (l61 : K.lookup f61 = some ⟨oc61, od61, .func (PySem.W.fnOf "policy_of" "policy_of" (defArgs s_policy_of) (defBody s_policy_of) (defScope s_policy_of) .none kV61 dc61 pm61 an61 cd61 ct61), sl61⟩) (c61 : PySem.W.codeIn K cd61 "policy_of" = true) (k61 : PySem.W.keepIn K (.ref f61) = true)
    (a62 : PySem.W.nsIn K mainGlobals "schedule_of" = some (some (.ref f62))) (l62 : K.lookup f62 = some ⟨oc62, od62, .func (PySem.W.fnOf "schedule_of" "schedule_of" (defArgs s_schedule_of) (defBody s_schedule_of) (defScope s_schedule_of) .none kV62 dc62 pm62 an62 cd62 ct62), sl62⟩) (c62 : PySem.W.codeIn K cd62 "schedule_of" = true) (k62 : PySem.W.keepIn K (.ref f62) = true)
    (a63 : PySem.W.nsIn K mainGlobals "period" = some (some (.ref f63))) (l63 : K.lookup f63 = some ⟨oc63, od63, .func (PySem.W.fnOf "period" "period" (defArgs s_period) (defBody s_period) (defScope s_period) .none kV63 dc63 pm63 an63 cd63 ct63), sl63⟩) (c63 : PySem.W.codeIn K cd63 "period" = true) (k63 : PySem.W.keepIn K (.ref f63) = true)
    (a64 : PySem.W.nsIn K mainGlobals "settled" = some (some (.ref f64))) (l64 : K.lookup f64 = some ⟨oc64, od64, .func (PySem.W.fnOf "settled" "settled" (defArgs s_settled) (defBody s_settled) (defScope s_settled) .none kV64 dc64 pm64 an64 cd64 ct64), sl64⟩) (c64 : PySem.W.codeIn K cd64 "settled" = true) (k64 : PySem.W.keepIn K (.ref f64) = true)
    (a65 : PySem.W.nsIn K mainGlobals "_horizon" = some (some (.ref f65))) (l65 : K.lookup f65 = some ⟨oc65, od65, .func (PySem.W.fnOf "_horizon" "_horizon" (defArgs s__horizon) (defBody s__horizon) (defScope s__horizon) .none kV65 dc65 pm65 an65 cd65 ct65), sl65⟩) (c65 : PySem.W.codeIn K cd65 "_horizon" = true) (k65 : PySem.W.keepIn K (.ref f65) = true)
    (a66 : PySem.W.nsIn K mainGlobals "in_spans" = some (some (.ref f66))) (l66 : K.lookup f66 = some ⟨oc66, od66, .func (PySem.W.fnOf "in_spans" "in_spans" (defArgs s_in_spans) (defBody s_in_spans) (defScope s_in_spans) .none kV66 dc66 pm66 an66 cd66 ct66), sl66⟩) (c66 : PySem.W.codeIn K cd66 "in_spans" = true) (k66 : PySem.W.keepIn K (.ref f66) = true)
    (a67 : PySem.W.nsIn K mainGlobals "window_of" = some (some (.ref f67))) (l67 : K.lookup f67 = some ⟨oc67, od67, .func (PySem.W.fnOf "window_of" "window_of" (defArgs s_window_of) (defBody s_window_of) (defScope s_window_of) .none kV67 dc67 pm67 an67 cd67 ct67), sl67⟩) (c67 : PySem.W.codeIn K cd67 "window_of" = true) (k67 : PySem.W.keepIn K (.ref f67) = true)
    (a68 : PySem.W.nsIn K mainGlobals "is_muted" = some (some (.ref f68))) (l68 : K.lookup f68 = some ⟨oc68, od68, .func (PySem.W.fnOf "is_muted" "is_muted" (defArgs s_is_muted) (defBody s_is_muted) (defScope s_is_muted) .none kV68 dc68 pm68 an68 cd68 ct68), sl68⟩) (c68 : PySem.W.codeIn K cd68 "is_muted" = true) (k68 : PySem.W.keepIn K (.ref f68) = true)
    (a69 : PySem.W.nsIn K mainGlobals "on_layer" = some (some (.ref f69))) (l69 : K.lookup f69 = some ⟨oc69, od69, .func (PySem.W.fnOf "on_layer" "on_layer" (defArgs s_on_layer) (defBody s_on_layer) (defScope s_on_layer) .none kV69 dc69 pm69 an69 cd69 ct69), sl69⟩) (c69 : PySem.W.codeIn K cd69 "on_layer" = true) (k69 : PySem.W.keepIn K (.ref f69) = true)
    (a70 : PySem.W.nsIn K mainGlobals "on_call" = some (some (.ref f70))) (l70 : K.lookup f70 = some ⟨oc70, od70, .func (PySem.W.fnOf "on_call" "on_call" (defArgs s_on_call) (defBody s_on_call) (defScope s_on_call) .none kV70 dc70 pm70 an70 cd70 ct70), sl70⟩) (c70 : PySem.W.codeIn K cd70 "on_call" = true) (k70 : PySem.W.keepIn K (.ref f70) = true)
    (a71 : PySem.W.nsIn K mainGlobals "channels_of" = some (some (.ref f71))) (l71 : K.lookup f71 = some ⟨oc71, od71, .func (PySem.W.fnOf "channels_of" "channels_of" (defArgs s_channels_of) (defBody s_channels_of) (defScope s_channels_of) .none kV71 dc71 pm71 an71 cd71 ct71), sl71⟩) (c71 : PySem.W.codeIn K cd71 "channels_of" = true) (k71 : PySem.W.keepIn K (.ref f71) = true)
    (a72 : PySem.W.nsIn K mainGlobals "is_sure" = some (some (.ref f72))) (l72 : K.lookup f72 = some ⟨oc72, od72, .func (PySem.W.fnOf "is_sure" "is_sure" (defArgs s_is_sure) (defBody s_is_sure) (defScope s_is_sure) .none kV72 dc72 pm72 an72 cd72 ct72), sl72⟩) (c72 : PySem.W.codeIn K cd72 "is_sure" = true) (k72 : PySem.W.keepIn K (.ref f72) = true)
    (a73 : PySem.W.nsIn K mainGlobals "plan" = some (some (.ref f73))) (l73 : K.lookup f73 = some ⟨oc73, od73, .func (PySem.W.fnOf "plan" "plan" (defArgs s_plan) (defBody s_plan) (defScope s_plan) .none kV73 dc73 pm73 an73 cd73 ct73), sl73⟩) (c73 : PySem.W.codeIn K cd73 "plan" = true) (k73 : PySem.W.keepIn K (.ref f73) = true)
    (a74 : PySem.W.nsIn K mainGlobals "delay" = some (some (.ref f74))) (l74 : K.lookup f74 = some ⟨oc74, od74, .func (PySem.W.fnOf "delay" "delay" (defArgs s_delay) (defBody s_delay) (defScope s_delay) .none kV74 dc74 pm74 an74 cd74 ct74), sl74⟩) (c74 : PySem.W.codeIn K cd74 "delay" = true) (k74 : PySem.W.keepIn K (.ref f74) = true)
    (a75 : PySem.W.nsIn K mainGlobals "slack" = some (some (.ref f75))) (l75 : K.lookup f75 = some ⟨oc75, od75, .func (PySem.W.fnOf "slack" "slack" (defArgs s_slack) (defBody s_slack) (defScope s_slack) .none kV75 dc75 pm75 an75 cd75 ct75), sl75⟩) (c75 : PySem.W.codeIn K cd75 "slack" = true) (k75 : PySem.W.keepIn K (.ref f75) = true)
    (a76 : PySem.W.nsIn K mainGlobals "sure_limit" = some (some (.ref f76))) (l76 : K.lookup f76 = some ⟨oc76, od76, .func (PySem.W.fnOf "sure_limit" "sure_limit" (defArgs s_sure_limit) (defBody s_sure_limit) (defScope s_sure_limit) .none kV76 dc76 pm76 an76 cd76 ct76), sl76⟩) (c76 : PySem.W.codeIn K cd76 "sure_limit" = true) (k76 : PySem.W.keepIn K (.ref f76) = true)
    (a77 : PySem.W.nsIn K mainGlobals "law" = some (some (.ref f77))) (l77 : K.lookup f77 = some ⟨oc77, od77, .func (PySem.W.fnOf "law" "law" (defArgs s_law) (defBody s_law) (defScope s_law) .none kV77 dc77 pm77 an77 cd77 ct77), sl77⟩) (c77 : PySem.W.codeIn K cd77 "law" = true) (k77 : PySem.W.keepIn K (.ref f77) = true)
    (z_any : PySem.W.nsIn K mainGlobals "any" = some none)
    (z_bool : PySem.W.nsIn K mainGlobals "bool" = some none)
    (z_enumerate : PySem.W.nsIn K mainGlobals "enumerate" = some none)
    (z_int : PySem.W.nsIn K mainGlobals "int" = some none)
    (z_isinstance : PySem.W.nsIn K mainGlobals "isinstance" = some none)
    (z_len : PySem.W.nsIn K mainGlobals "len" = some none)
    (z_list : PySem.W.nsIn K mainGlobals "list" = some none)
    (z_max : PySem.W.nsIn K mainGlobals "max" = some none)
    (z_min : PySem.W.nsIn K mainGlobals "min" = some none)
    (z_range : PySem.W.nsIn K mainGlobals "range" = some none)
    (z_sorted : PySem.W.nsIn K mainGlobals "sorted" = some none)
    (z_str : PySem.W.nsIn K mainGlobals "str" = some none)
    (z_tuple : PySem.W.nsIn K mainGlobals "tuple" = some none)
    {tk_LAST_TIME : Tok} (cc_LAST_TIME : PySem.W.nsIn K mainGlobals "LAST_TIME" = some (some (.int 10000 tk_LAST_TIME)))
    {tk_LETTERS : Tok} (cc_LETTERS : PySem.W.nsIn K mainGlobals "LETTERS" = some (some (.str (Str.ofString "abcdefghijklmnopqrstuvwxyz") tk_LETTERS)))
    {tk_LONGEST_checks : Tok} (cc_LONGEST_checks : PySem.W.nsIn K mainGlobals "LONGEST_checks" = some (some (.int 1000 tk_LONGEST_checks)))
    {tk_LONGEST_setup : Tok} (cc_LONGEST_setup : PySem.W.nsIn K mainGlobals "LONGEST_setup" = some (some (.int 1000 tk_LONGEST_setup)))
    {tk_MOST : Tok} (cc_MOST : PySem.W.nsIn K mainGlobals "MOST" = some (some (.int 6 tk_MOST)))
    {tk_MOST_CHARS : Tok} (cc_MOST_CHARS : PySem.W.nsIn K mainGlobals "MOST_CHARS" = some (some (.int 20 tk_MOST_CHARS)))
    {tk_MOST_PERIOD : Tok} (cc_MOST_PERIOD : PySem.W.nsIn K mainGlobals "MOST_PERIOD" = some (some (.int 2000 tk_MOST_PERIOD)))
    {tk_RESERVED : Tok} (cc_RESERVED : PySem.W.nsIn K mainGlobals "RESERVED" = some (some (.str (Str.ofString "zzzzzzzzzzzzzzzzzzzz") tk_RESERVED)))
    {tk_WORD_CHARS : Tok} (cc_WORD_CHARS : PySem.W.nsIn K mainGlobals "WORD_CHARS" = some (some (.str (Str.ofString "abcdefghijklmnopqrstuvwxyz0123456789_") tk_WORD_CHARS)))
    (cb_lcm : PySem.W.nsIn K mainGlobals "lcm" = some (some (.builtin "math.lcm")))
    {xC xW1 xW2 : Addr} (xx_g : PySem.W.nsIn K mainGlobals "PeriodTooLong" = some (some (.ref xC)))
    (xx_x : PySem.W.excIn K xC [.type "ValueError", .type "Exception", .type "BaseException", .type "object"] "ValueError.__new__" = true)
    (xx_k : PySem.W.keepIn K (.ref xC) = true)
    (xx_b : PySem.W.subIn K (.ref xC) (.type "BaseException") = some true)
    (xx_t : PySem.W.typeIn K (.ref xC) = some (.type "type"))
    (xx_s : PySem.W.subIn K (.ref xC) (.ref xC) = some true)
    (xx_d : PySem.W.hasDictIn K xC = true)
    (xx_i1 : PySem.W.findIn K (.ref xC) "__getattribute__" = some (some (.builtin "BaseException.__getattribute__")))
    (xx_i2 : PySem.W.findIn K (.ref xC) "__getattr__" = some none)
    (xx_i3 : PySem.W.findIn K (.ref xC) "__class__" = some (some (.builtin "object.__class__")))
    (xx_i4 : PySem.W.specialIn K (.builtin "object.__class__") "__get__" = some (some (.builtin "getset_descriptor.__get__")))
    (xx_i5 : PySem.W.takesIn K (.builtin "object.__class__") = some true)
    (xx_i6 : PySem.W.mroIn K xC (.type "object") = some true)
    (xx_g1 : PySem.W.nsIn K mainGlobals "WatchError" = some (some (.ref xW1)))
    (xx_u1 : PySem.W.isClsIn K xW1 = true)
    (xx_v1 : PySem.W.typeIn K (.ref xW1) = some (.type "type"))
    (xx_w1 : PySem.W.subIn K (.ref xC) (.ref xW1) = some true)
    (xx_g2 : PySem.W.nsIn K mainGlobals "TooManySamples" = some (some (.ref xW2)))
    (xx_u2 : PySem.W.isClsIn K xW2 = true)
    (xx_v2 : PySem.W.typeIn K (.ref xW2) = some (.type "type"))
    (xx_w2 : PySem.W.subIn K (.ref xC) (.ref xW2) = some false)
    (xx_n2 : (Value.ref xC == Value.ref xW2) = false)
    : ∃ fd : FuncData, (∀ (s : Shared) (v : Value), BindsTo s fd ⟨[v], []⟩ [("_law_script_here", v)]) ∧ ∀ base : Heap, K.In base → base.Ns mainGlobals mg → FnOk P w K mg base CX0 12 fa fd ["_law_script_here"] (spLaw K) := by
  have e := hfa.symm.trans (PySem.W.mg_of X G a77)
  cases e
  have F0 := fun_mk (st := s__law_words) l0 c0 k0
  have h0 : Here K mg "_law_words" s__law_words ["_law_cell_here", "_law_many"] := ⟨_, _, F0, PySem.W.mg_of X G a0, F0.binds (ps := ["_law_cell_here", "_law_many"]) fun _ _ _ _ _ _ us hl => match us, hl with | [_, _], _ => rfl⟩
  have F1 := fun_mk (st := s__law_cell) l1 c1 k1
  have h1 : Here K mg "_law_cell" s__law_cell ["_law_script_here", "_law_k"] := ⟨_, _, F1, PySem.W.mg_of X G a1, F1.binds (ps := ["_law_script_here", "_law_k"]) fun _ _ _ _ _ _ us hl => match us, hl with | [_, _], _ => rfl⟩
  have F2 := fun_mk (st := s__law_worths) l2 c2 k2
  have h2 : Here K mg "_law_worths" s__law_worths ["_law_cell_here", "_law_many"] := ⟨_, _, F2, PySem.W.mg_of X G a2, F2.binds (ps := ["_law_cell_here", "_law_many"]) fun _ _ _ _ _ _ us hl => match us, hl with | [_, _], _ => rfl⟩
  have F3 := fun_mk (st := s__law_draws) l3 c3 k3
  have h3 : Here K mg "_law_draws" s__law_draws ["_law_cell_here", "_law_many"] := ⟨_, _, F3, PySem.W.mg_of X G a3, F3.binds (ps := ["_law_cell_here", "_law_many"]) fun _ _ _ _ _ _ us hl => match us, hl with | [_, _], _ => rfl⟩
  have F4 := fun_mk (st := s__law_layer) l4 c4 k4
  have h4 : Here K mg "_law_layer" s__law_layer ["_law_part", "_law_crew", "_law_days"] := ⟨_, _, F4, PySem.W.mg_of X G a4, F4.binds (ps := ["_law_part", "_law_crew", "_law_days"]) fun _ _ _ _ _ _ us hl => match us, hl with | [_, _, _], _ => rfl⟩
  have F5 := fun_mk (st := s__law_rota) l5 c5 k5
  have h5 : Here K mg "_law_rota" s__law_rota ["_law_cell_here", "_law_name", "_law_crew", "_law_days"] := ⟨_, _, F5, PySem.W.mg_of X G a5, F5.binds (ps := ["_law_cell_here", "_law_name", "_law_crew", "_law_days"]) fun _ _ _ _ _ _ us hl => match us, hl with | [_, _, _, _], _ => rfl⟩
  have F6 := fun_mk (st := s__law_ladder) l6 c6 k6
  have h6 : Here K mg "_law_ladder" s__law_ladder ["_law_draws_here", "_law_name", "_law_titles"] := ⟨_, _, F6, PySem.W.mg_of X G a6, F6.binds (ps := ["_law_draws_here", "_law_name", "_law_titles"]) fun _ _ _ _ _ _ us hl => match us, hl with | [_, _, _], _ => rfl⟩
  have F7 := fun_mk (st := s__law_shutter) l7 c7 k7
  have h7 : Here K mg "_law_shutter" s__law_shutter ["_law_draws_here", "_law_name", "_law_days"] := ⟨_, _, F7, PySem.W.mg_of X G a7, F7.binds (ps := ["_law_draws_here", "_law_name", "_law_days"]) fun _ _ _ _ _ _ us hl => match us, hl with | [_, _, _], _ => rfl⟩
  have F8 := fun_mk (st := s__law_matcher) l8 c8 k8
  have h8 : Here K mg "_law_matcher" s__law_matcher ["_law_first", "_law_second", "_law_names", "_law_worths_here"] := ⟨_, _, F8, PySem.W.mg_of X G a8, F8.binds (ps := ["_law_first", "_law_second", "_law_names", "_law_worths_here"]) fun _ _ _ _ _ _ us hl => match us, hl with | [_, _, _, _], _ => rfl⟩
  have F9 := fun_mk (st := s__law_route) l9 c9 k9
  have h9 : Here K mg "_law_route" s__law_route ["_law_cell_here", "_law_place", "_law_names", "_law_worths_here", "_law_ladders", "_law_shutters"] := ⟨_, _, F9, PySem.W.mg_of X G a9, F9.binds (ps := ["_law_cell_here", "_law_place", "_law_names", "_law_worths_here", "_law_ladders", "_law_shutters"]) fun _ _ _ _ _ _ us hl => match us, hl with | [_, _, _, _, _, _], _ => rfl⟩
  have F10 := fun_mk (st := s__law_holds) l10 c10 k10
  have h10 : Here K mg "_law_holds" s__law_holds ["_law_cell_here", "_law_names", "_law_worths_here"] := ⟨_, _, F10, PySem.W.mg_of X G a10, F10.binds (ps := ["_law_cell_here", "_law_names", "_law_worths_here"]) fun _ _ _ _ _ _ us hl => match us, hl with | [_, _, _], _ => rfl⟩
  have F11 := fun_mk (st := s_require) l11 c11 k11
  have h11 : Here K mg "require" s_require ["part", "flags"] := ⟨_, _, F11, PySem.W.mg_of X G a11, F11.binds (ps := ["part", "flags"]) fun _ _ _ _ _ _ us hl => match us, hl with | [_, _], _ => rfl⟩
  have F12 := fun_mk (st := s_is_between) l12 c12 k12
  have h12 : Here K mg "is_between" s_is_between ["low", "n", "high"] := ⟨_, _, F12, PySem.W.mg_of X G a12, F12.binds (ps := ["low", "n", "high"]) fun _ _ _ _ _ _ us hl => match us, hl with | [_, _, _], _ => rfl⟩
  have F13 := fun_mk (st := s_is_value) l13 c13 k13
  have h13 : Here K mg "is_value" s_is_value ["text"] := ⟨_, _, F13, PySem.W.mg_of X G a13, F13.binds (ps := ["text"]) fun _ _ _ _ _ _ us hl => match us, hl with | [_], _ => rfl⟩
  have F14 := fun_mk (st := s_is_name) l14 c14 k14
  have h14 : Here K mg "is_name" s_is_name ["text"] := ⟨_, _, F14, PySem.W.mg_of X G a14, F14.binds (ps := ["text"]) fun _ _ _ _ _ _ us hl => match us, hl with | [_], _ => rfl⟩
  have F15 := fun_mk (st := s_names_of) l15 c15 k15
  have h15 : Here K mg "names_of" s_names_of ["entries"] := ⟨_, _, F15, PySem.W.mg_of X G a15, F15.binds (ps := ["entries"]) fun _ _ _ _ _ _ us hl => match us, hl with | [_], _ => rfl⟩
  have F16 := fun_mk (st := s_is_new_name) l16 c16 k16
  have h16 : Here K mg "is_new_name" s_is_new_name ["entries", "place"] := ⟨_, _, F16, PySem.W.mg_of X G a16, F16.binds (ps := ["entries", "place"]) fun _ _ _ _ _ _ us hl => match us, hl with | [_, _], _ => rfl⟩
  have F17 := fun_mk (st := s_all_true) l17 c17 k17
  have h17 : Here K mg "all_true" s_all_true ["flags"] := ⟨_, _, F17, PySem.W.mg_of X G a17, F17.binds (ps := ["flags"]) fun _ _ _ _ _ _ us hl => match us, hl with | [_], _ => rfl⟩
  have F18 := fun_mk (st := s_span_fits) l18 c18 k18
  have h18 : Here K mg "span_fits" s_span_fits ["week", "span"] := ⟨_, _, F18, PySem.W.mg_of X G a18, F18.binds (ps := ["week", "span"]) fun _ _ _ _ _ _ us hl => match us, hl with | [_, _], _ => rfl⟩
  have F19 := fun_mk (st := s_layer_fits) l19 c19 k19
  have h19 : Here K mg "layer_fits" s_layer_fits ["week", "people", "layer"] := ⟨_, _, F19, PySem.W.mg_of X G a19, F19.binds (ps := ["week", "people", "layer"]) fun _ _ _ _ _ _ us hl => match us, hl with | [_, _, _], _ => rfl⟩
  have F20 := fun_mk (st := s_standin_fits) l20 c20 k20
  have h20 : Here K mg "standin_fits" s_standin_fits ["people", "standin"] := ⟨_, _, F20, PySem.W.mg_of X G a20, F20.binds (ps := ["people", "standin"]) fun _ _ _ _ _ _ us hl => match us, hl with | [_, _], _ => rfl⟩
  have F21 := fun_mk (st := s_schedule_fits) l21 c21 k21
  have h21 : Here K mg "schedule_fits" s_schedule_fits ["week", "people", "schedule"] := ⟨_, _, F21, PySem.W.mg_of X G a21, F21.binds (ps := ["week", "people", "schedule"]) fun _ _ _ _ _ _ us hl => match us, hl with | [_, _, _], _ => rfl⟩
  have F22 := fun_mk (st := s_check_people) l22 c22 k22
  have h22 : Here K mg "check_people" s_check_people ["made"] := ⟨_, _, F22, PySem.W.mg_of X G a22, F22.binds (ps := ["made"]) fun _ _ _ _ _ _ us hl => match us, hl with | [_], _ => rfl⟩
  have F23 := fun_mk (st := s_policy_fits) l23 c23 k23
  have h23 : Here K mg "policy_fits" s_policy_fits ["schedules", "policy"] := ⟨_, _, F23, PySem.W.mg_of X G a23, F23.binds (ps := ["schedules", "policy"]) fun _ _ _ _ _ _ us hl => match us, hl with | [_, _], _ => rfl⟩
  have F24 := fun_mk (st := s_window_fits) l24 c24 k24
  have h24 : Here K mg "window_fits" s_window_fits ["week", "window"] := ⟨_, _, F24, PySem.W.mg_of X G a24, F24.binds (ps := ["week", "window"]) fun _ _ _ _ _ _ us hl => match us, hl with | [_, _], _ => rfl⟩
  have F25 := fun_mk (st := s_label_fits) l25 c25 k25
  have h25 : Here K mg "label_fits" s_label_fits ["name"] := ⟨_, _, F25, PySem.W.mg_of X G a25, F25.binds (ps := ["name"]) fun _ _ _ _ _ _ us hl => match us, hl with | [_], _ => rfl⟩
  have F26 := fun_mk (st := s_matcher_fits) l26 c26 k26
  have h26 : Here K mg "matcher_fits" s_matcher_fits ["matcher"] := ⟨_, _, F26, PySem.W.mg_of X G a26, F26.binds (ps := ["matcher"]) fun _ _ _ _ _ _ us hl => match us, hl with | [_], _ => rfl⟩
  have F27 := fun_mk (st := s_matchers_fit) l27 c27 k27
  have h27 : Here K mg "matchers_fit" s_matchers_fit ["matchers"] := ⟨_, _, F27, PySem.W.mg_of X G a27, F27.binds (ps := ["matchers"]) fun _ _ _ _ _ _ us hl => match us, hl with | [_], _ => rfl⟩
  have F28 := fun_mk (st := s_labels_fit) l28 c28 k28
  have h28 : Here K mg "labels_fit" s_labels_fit ["names"] := ⟨_, _, F28, PySem.W.mg_of X G a28, F28.binds (ps := ["names"]) fun _ _ _ _ _ _ us hl => match us, hl with | [_], _ => rfl⟩
  have F29 := fun_mk (st := s_settings_fit) l29 c29 k29
  have h29 : Here K mg "settings_fit" s_settings_fit ["windows", "policies", "settings"] := ⟨_, _, F29, PySem.W.mg_of X G a29, F29.binds (ps := ["windows", "policies", "settings"]) fun _ _ _ _ _ _ us hl => match us, hl with | [_, _, _], _ => rfl⟩
  have F30 := fun_mk (st := s_route_fits) l30 c30 k30
  have h30 : Here K mg "route_fits" s_route_fits ["windows", "policies", "place", "route"] := ⟨_, _, F30, PySem.W.mg_of X G a30, F30.binds (ps := ["windows", "policies", "place", "route"]) fun _ _ _ _ _ _ us hl => match us, hl with | [_, _, _, _], _ => rfl⟩
  have F31 := fun_mk (st := s_holdback_fits) l31 c31 k31
  have h31 : Here K mg "holdback_fits" s_holdback_fits ["holdback"] := ⟨_, _, F31, PySem.W.mg_of X G a31, F31.binds (ps := ["holdback"]) fun _ _ _ _ _ _ us hl => match us, hl with | [_], _ => rfl⟩
  have F32 := fun_mk (st := s_check_routes) l32 c32 k32
  have h32 : Here K mg "check_routes" s_check_routes ["made"] := ⟨_, _, F32, PySem.W.mg_of X G a32, F32.binds (ps := ["made"]) fun _ _ _ _ _ _ us hl => match us, hl with | [_], _ => rfl⟩
  have F33 := fun_mk (st := s_store_fits) l33 c33 k33
  have h33 : Here K mg "store_fits" s_store_fits ["store"] := ⟨_, _, F33, PySem.W.mg_of X G a33, F33.binds (ps := ["store"]) fun _ _ _ _ _ _ us hl => match us, hl with | [_], _ => rfl⟩
  have F34 := fun_mk (st := s_check_rest) l34 c34 k34
  have h34 : Here K mg "check_rest" s_check_rest ["made"] := ⟨_, _, F34, PySem.W.mg_of X G a34, F34.binds (ps := ["made"]) fun _ _ _ _ _ _ us hl => match us, hl with | [_], _ => rfl⟩
  have F35 := fun_mk (st := s_setup) l35 c35 k35
  have h35 : ∃ f fd g gV, Fun K "setup" "setup" s_setup f fd ∧ mg "setup" = some (.ref f) ∧ PySem.W.keepIn K (.ref f) = true ∧ KBn K fd ["week", "people", "schedules", "policies", "windows", "routes", "holdbacks", "groups", "replicas", "pause", "down", "store", "lookback"] 0 ["week", "people", "schedules", "policies", "windows", "routes", "holdbacks", "groups", "replicas", "pause", "down", "lookback"] g gV ∧ ∀ (F : Hp) (vs : List V) (ds : List D), Reps ⟨K, mg⟩ F vs ds → ds.length = 12 → Reps ⟨K, mg⟩ F (gV [] vs) (g_setup ds) := by
    obtain ⟨v, rv, rr⟩ := wv_rep kw_setup
    have FD : FunD K "setup" "setup" (defArgs s_setup) (defBody s_setup) (defScope s_setup) [] [("store", v)] f35 _ := ⟨⟨_, _, .none, .ref kD_setup, _, _, _, _, _, _, rfl, l35, c35, .inl ⟨rfl, rfl⟩, .inr ⟨kD_setup, rfl, fun q hq => by rw [List.mem_singleton.mp hq]; exact ⟨ku_setup, kn_setup, rv⟩⟩⟩, k35⟩
    obtain ⟨mv, kb⟩ := FD.kbinds0 (ps := ["week", "people", "schedules", "policies", "windows", "routes", "holdbacks", "groups", "replicas", "pause", "down", "store", "lookback"]) 0 ["week", "people", "schedules", "policies", "windows", "routes", "holdbacks", "groups", "replicas", "pause", "down", "lookback"] [("store", v)] (fun us mv ws => ws.take 11 ++ (mv ++ ws.drop 11)) (by simp) (fun q hq => hq) (fun _ r2 r3 => paired_app (paired_take 11 r3) (paired_app r2 (paired_drop 11 r3)))
      (fun D doc pm an cdv ct us mv ws h1 h2 h3 => match us, mv, ws, h1, h2, h3 with | [], [m], [w0, w1, w2, w3, w4, w5, w6, w7, w8, w9, w10, w11], _, _, _ => kw_chain (bind_setup D doc pm an cdv ct m w0 w1 w2 w3 w4 w5 w6 w7 w8 w9 w10 w11))
    exact ⟨_, _, _, _, F35, PySem.W.mg_of X G a35, k35, kb, fun F vs ds r _ => (r.take 11).append (.cons (rr mg F) (r.drop 11))⟩
  have F36 := fun_mk (st := s__law_setup) l36 c36 k36
  have h36 : Here K mg "_law_setup" s__law_setup ["_law_days", "_law_staff", "_law_rotas", "_law_ladders", "_law_shutters", "_law_tree", "_law_holds_here", "_law_books", "_law_numbers"] := ⟨_, _, F36, PySem.W.mg_of X G a36, F36.binds (ps := ["_law_days", "_law_staff", "_law_rotas", "_law_ladders", "_law_shutters", "_law_tree", "_law_holds_here", "_law_books", "_law_numbers"]) fun _ _ _ _ _ _ us hl => match us, hl with | [_, _, _, _, _, _, _, _, _], _ => rfl⟩
  have F37 := fun_mk (st := s__law_world) l37 c37 k37
  have h37 : Here K mg "_law_world" s__law_world ["_law_script_here"] := ⟨_, _, F37, PySem.W.mg_of X G a37, F37.binds (ps := ["_law_script_here"]) fun _ _ _ _ _ _ us hl => match us, hl with | [_], _ => rfl⟩
  have F38 := fun_mk (st := s__law_labels) l38 c38 k38
  have h38 : Here K mg "_law_labels" s__law_labels ["_law_draws_here", "_law_names", "_law_worths_here"] := ⟨_, _, F38, PySem.W.mg_of X G a38, F38.binds (ps := ["_law_draws_here", "_law_names", "_law_worths_here"]) fun _ _ _ _ _ _ us hl => match us, hl with | [_, _, _], _ => rfl⟩
  have F39 := fun_mk (st := s__law_value) l39 c39 k39
  have h39 : Here K mg "_law_value" s__law_value ["_law_labels_here", "_law_name"] := ⟨_, _, F39, PySem.W.mg_of X G a39, F39.binds (ps := ["_law_labels_here", "_law_name"]) fun _ _ _ _ _ _ us hl => match us, hl with | [_, _], _ => rfl⟩
  have F40 := fun_mk (st := s__law_matches) l40 c40 k40
  have h40 : Here K mg "_law_matches" s__law_matches ["_law_matchers", "_law_labels_here"] := ⟨_, _, F40, PySem.W.mg_of X G a40, F40.binds (ps := ["_law_matchers", "_law_labels_here"]) fun _ _ _ _ _ _ us hl => match us, hl with | [_, _], _ => rfl⟩
  have F41 := fun_mk (st := s__law_way) l41 c41 k41
  have h41 : Here K mg "_law_way" s__law_way ["_law_tree", "_law_labels_here"] := ⟨_, _, F41, PySem.W.mg_of X G a41, F41.binds (ps := ["_law_tree", "_law_labels_here"]) fun _ _ _ _ _ _ us hl => match us, hl with | [_, _], _ => rfl⟩
  have F42 := fun_mk (st := s__law_case) l42 c42 k42
  have h42 : Here K mg "_law_case" s__law_case ["_law_script_here"] := ⟨_, _, F42, PySem.W.mg_of X G a42, F42.binds (ps := ["_law_script_here"]) fun _ _ _ _ _ _ us hl => match us, hl with | [_], _ => rfl⟩
  have F43 := fun_mk (st := s__law_find) l43 c43 k43
  have h43 : Here K mg "_law_find" s__law_find ["_law_rows", "_law_name"] := ⟨_, _, F43, PySem.W.mg_of X G a43, F43.binds (ps := ["_law_rows", "_law_name"]) fun _ _ _ _ _ _ us hl => match us, hl with | [_, _], _ => rfl⟩
  have F44 := fun_mk (st := s__law_lcm) l44 c44 k44
  have h44 : Here K mg "_law_lcm" s__law_lcm ["_law_a", "_law_b"] := ⟨_, _, F44, PySem.W.mg_of X G a44, F44.binds (ps := ["_law_a", "_law_b"]) fun _ _ _ _ _ _ us hl => match us, hl with | [_, _], _ => rfl⟩
  have F45 := fun_mk (st := s__law_period) l45 c45 k45
  have h45 : Here K mg "_law_period" s__law_period ["_law_days", "_law_rota_here"] := ⟨_, _, F45, PySem.W.mg_of X G a45, F45.binds (ps := ["_law_days", "_law_rota_here"]) fun _ _ _ _ _ _ us hl => match us, hl with | [_, _], _ => rfl⟩
  have F46 := fun_mk (st := s__law_settled) l46 c46 k46
  have h46 : Here K mg "_law_settled" s__law_settled ["_law_rota_here"] := ⟨_, _, F46, PySem.W.mg_of X G a46, F46.binds (ps := ["_law_rota_here"]) fun _ _ _ _ _ _ us hl => match us, hl with | [_], _ => rfl⟩
  have F47 := fun_mk (st := s__law_muted) l47 c47 k47
  have h47 : Here K mg "_law_muted" s__law_muted ["_law_made", "_law_mutes", "_law_time"] := ⟨_, _, F47, PySem.W.mg_of X G a47, F47.binds (ps := ["_law_made", "_law_mutes", "_law_time"]) fun _ _ _ _ _ _ us hl => match us, hl with | [_, _, _], _ => rfl⟩
  have F48 := fun_mk (st := s__law_on) l48 c48 k48
  have h48 : Here K mg "_law_on" s__law_on ["_law_days", "_law_rota_here", "_law_time"] := ⟨_, _, F48, PySem.W.mg_of X G a48, F48.binds (ps := ["_law_days", "_law_rota_here", "_law_time"]) fun _ _ _ _ _ _ us hl => match us, hl with | [_, _, _], _ => rfl⟩
  have F49 := fun_mk (st := s__law_is_sure) l49 c49 k49
  have h49 : Here K mg "_law_is_sure" s__law_is_sure ["_law_made", "_law_person"] := ⟨_, _, F49, PySem.W.mg_of X G a49, F49.binds (ps := ["_law_made", "_law_person"]) fun _ _ _ _ _ _ us hl => match us, hl with | [_, _], _ => rfl⟩
  have F50 := fun_mk (st := s__law_delay) l50 c50 k50
  have h50 : Here K mg "_law_delay" s__law_delay ["_law_made", "_law_settings", "_law_time"] := ⟨_, _, F50, PySem.W.mg_of X G a50, F50.binds (ps := ["_law_made", "_law_settings", "_law_time"]) fun _ _ _ _ _ _ us hl => match us, hl with | [_, _, _], _ => rfl⟩
  have F51 := fun_mk (st := s__law_sums) l51 c51 k51
  have h51 : Here K mg "_law_sums" s__law_sums ["_law_made", "_law_settings", "_law_begin", "_law_many", "_law_end"] := ⟨_, _, F51, PySem.W.mg_of X G a51, F51.binds (ps := ["_law_made", "_law_settings", "_law_begin", "_law_many", "_law_end"]) fun _ _ _ _ _ _ us hl => match us, hl with | [_, _, _, _, _], _ => rfl⟩
  have F52 := fun_mk (st := s__law_slack) l52 c52 k52
  have h52 : Here K mg "_law_slack" s__law_slack ["_law_made"] := ⟨_, _, F52, PySem.W.mg_of X G a52, F52.binds (ps := ["_law_made"]) fun _ _ _ _ _ _ us hl => match us, hl with | [_], _ => rfl⟩
  have F53 := fun_mk (st := s__law_same) l53 c53 k53
  have h53 : Here K mg "_law_same" s__law_same ["_law_told", "_law_due_here"] := ⟨_, _, F53, PySem.W.mg_of X G a53, F53.binds (ps := ["_law_told", "_law_due_here"]) fun _ _ _ _ _ _ us hl => match us, hl with | [_, _], _ => rfl⟩
  have F54 := fun_mk (st := s_value_of) l54 c54 k54
  have h54 : Here K mg "value_of" s_value_of ["labels", "name"] := ⟨_, _, F54, PySem.W.mg_of X G a54, F54.binds (ps := ["labels", "name"]) fun _ _ _ _ _ _ us hl => match us, hl with | [_, _], _ => rfl⟩
  have F55 := fun_mk (st := s_matches) l55 c55 k55
  have h55 : Here K mg "matches" s_matches ["matcher", "labels"] := ⟨_, _, F55, PySem.W.mg_of X G a55, F55.binds (ps := ["matcher", "labels"]) fun _ _ _ _ _ _ us hl => match us, hl with | [_, _], _ => rfl⟩
  have F56 := fun_mk (st := s_matches_all) l56 c56 k56
  have h56 : Here K mg "matches_all" s_matches_all ["matchers", "labels"] := ⟨_, _, F56, PySem.W.mg_of X G a56, F56.binds (ps := ["matchers", "labels"]) fun _ _ _ _ _ _ us hl => match us, hl with | [_, _], _ => rfl⟩
  have F57 := fun_mk (st := s__later) l57 c57 k57
  have h57 : Here K mg "_later" s__later ["routes", "at", "labels"] := ⟨_, _, F57, PySem.W.mg_of X G a57, F57.binds (ps := ["routes", "at", "labels"]) fun _ _ _ _ _ _ us hl => match us, hl with | [_, _, _], _ => rfl⟩
  have F58 := fun_mk (st := s_way) l58 c58 k58
  have h58 : Here K mg "way" s_way ["routes", "labels"] := ⟨_, _, F58, PySem.W.mg_of X G a58, F58.binds (ps := ["routes", "labels"]) fun _ _ _ _ _ _ us hl => match us, hl with | [_, _], _ => rfl⟩
  have F59 := fun_mk (st := s_end_of) l59 c59 k59
  have h59 : Here K mg "end_of" s_end_of ["routes", "labels"] := ⟨_, _, F59, PySem.W.mg_of X G a59, F59.binds (ps := ["routes", "labels"]) fun _ _ _ _ _ _ us hl => match us, hl with | [_, _], _ => rfl⟩
  have F60 := fun_mk (st := s_entry_of) l60 c60 k60
  have h60 : Here K mg "entry_of" s_entry_of ["entries", "name", "word"] := ⟨_, _, F60, PySem.W.mg_of X G a60, F60.binds (ps := ["entries", "name", "word"]) fun _ _ _ _ _ _ us hl => match us, hl with | [_, _, _], _ => rfl⟩
  have F61 := fun_mk (st := s_policy_of) l61 c61 k61
  have h61 : Here K mg "policy_of" s_policy_of ["made", "name"] := ⟨_, _, F61, PySem.W.mg_of X G a61, F61.binds (ps := ["made", "name"]) fun _ _ _ _ _ _ us hl => match us, hl with | [_, _], _ => rfl⟩
  have F62 := fun_mk (st := s_schedule_of) l62 c62 k62
  have h62 : Here K mg "schedule_of" s_schedule_of ["made", "name"] := ⟨_, _, F62, PySem.W.mg_of X G a62, F62.binds (ps := ["made", "name"]) fun _ _ _ _ _ _ us hl => match us, hl with | [_, _], _ => rfl⟩
  have F63 := fun_mk (st := s_period) l63 c63 k63
  have h63 : Here K mg "period" s_period ["week", "schedule"] := ⟨_, _, F63, PySem.W.mg_of X G a63, F63.binds (ps := ["week", "schedule"]) fun _ _ _ _ _ _ us hl => match us, hl with | [_, _], _ => rfl⟩
  have F64 := fun_mk (st := s_settled) l64 c64 k64
  have h64 : Here K mg "settled" s_settled ["schedule"] := ⟨_, _, F64, PySem.W.mg_of X G a64, F64.binds (ps := ["schedule"]) fun _ _ _ _ _ _ us hl => match us, hl with | [_], _ => rfl⟩
  have F65 := fun_mk (st := s__horizon) l65 c65 k65
  have h65 : Here K mg "_horizon" s__horizon ["setup", "settings", "time"] := ⟨_, _, F65, PySem.W.mg_of X G a65, F65.binds (ps := ["setup", "settings", "time"]) fun _ _ _ _ _ _ us hl => match us, hl with | [_, _, _], _ => rfl⟩
  have F66 := fun_mk (st := s_in_spans) l66 c66 k66
  have h66 : Here K mg "in_spans" s_in_spans ["week", "spans", "time"] := ⟨_, _, F66, PySem.W.mg_of X G a66, F66.binds (ps := ["week", "spans", "time"]) fun _ _ _ _ _ _ us hl => match us, hl with | [_, _, _], _ => rfl⟩
  have F67 := fun_mk (st := s_window_of) l67 c67 k67
  have h67 : Here K mg "window_of" s_window_of ["made", "name"] := ⟨_, _, F67, PySem.W.mg_of X G a67, F67.binds (ps := ["made", "name"]) fun _ _ _ _ _ _ us hl => match us, hl with | [_, _], _ => rfl⟩
  have F68 := fun_mk (st := s_is_muted) l68 c68 k68
  have h68 : Here K mg "is_muted" s_is_muted ["setup", "mutes", "time"] := ⟨_, _, F68, PySem.W.mg_of X G a68, F68.binds (ps := ["setup", "mutes", "time"]) fun _ _ _ _ _ _ us hl => match us, hl with | [_, _, _], _ => rfl⟩
  have F69 := fun_mk (st := s_on_layer) l69 c69 k69
  have h69 : Here K mg "on_layer" s_on_layer ["week", "layer", "time"] := ⟨_, _, F69, PySem.W.mg_of X G a69, F69.binds (ps := ["week", "layer", "time"]) fun _ _ _ _ _ _ us hl => match us, hl with | [_, _, _], _ => rfl⟩
  have F70 := fun_mk (st := s_on_call) l70 c70 k70
  have h70 : Here K mg "on_call" s_on_call ["week", "schedule", "time"] := ⟨_, _, F70, PySem.W.mg_of X G a70, F70.binds (ps := ["week", "schedule", "time"]) fun _ _ _ _ _ _ us hl => match us, hl with | [_, _, _], _ => rfl⟩
  have F71 := fun_mk (st := s_channels_of) l71 c71 k71
  have h71 : Here K mg "channels_of" s_channels_of ["made", "person"] := ⟨_, _, F71, PySem.W.mg_of X G a71, F71.binds (ps := ["made", "person"]) fun _ _ _ _ _ _ us hl => match us, hl with | [_, _], _ => rfl⟩
  have F72 := fun_mk (st := s_is_sure) l72 c72 k72
  have h72 : Here K mg "is_sure" s_is_sure ["setup", "person"] := ⟨_, _, F72, PySem.W.mg_of X G a72, F72.binds (ps := ["setup", "person"]) fun _ _ _ _ _ _ us hl => match us, hl with | [_, _], _ => rfl⟩
  have F73 := fun_mk (st := s_plan) l73 c73 k73
  have h73 : Here K mg "plan" s_plan ["setup", "policy", "begun"] := ⟨_, _, F73, PySem.W.mg_of X G a73, F73.binds (ps := ["setup", "policy", "begun"]) fun _ _ _ _ _ _ us hl => match us, hl with | [_, _, _], _ => rfl⟩
  have F74 := fun_mk (st := s_delay) l74 c74 k74
  have h74 : Here K mg "delay" s_delay ["setup", "policy", "begun"] := ⟨_, _, F74, PySem.W.mg_of X G a74, F74.binds (ps := ["setup", "policy", "begun"]) fun _ _ _ _ _ _ us hl => match us, hl with | [_, _, _], _ => rfl⟩
  have F75 := fun_mk (st := s_slack) l75 c75 k75
  have h75 : Here K mg "slack" s_slack ["setup"] := ⟨_, _, F75, PySem.W.mg_of X G a75, F75.binds (ps := ["setup"]) fun _ _ _ _ _ _ us hl => match us, hl with | [_], _ => rfl⟩
  have F76 := fun_mk (st := s_sure_limit) l76 c76 k76
  have h76 : Here K mg "sure_limit" s_sure_limit ["setup", "labels", "time"] := ⟨_, _, F76, PySem.W.mg_of X G a76, F76.binds (ps := ["setup", "labels", "time"]) fun _ _ _ _ _ _ us hl => match us, hl with | [_, _, _], _ => rfl⟩
  have F77 := fun_mk (st := s_law) l77 c77 k77
  have h77 : Here K mg "law" s_law ["_law_script_here"] := ⟨_, _, F77, PySem.W.mg_of X G a77, F77.binds (ps := ["_law_script_here"]) fun _ _ _ _ _ _ us hl => match us, hl with | [_], _ => rfl⟩
  have Fi_Setup := fun_mk (st := s_Setup_init) li_Setup ci_Setup ki_Setup
  have q_Setup : ClsK K mg "Setup" ["week", "people", "schedules", "policies", "windows", "routes", "holdbacks", "groups", "replicas", "pause", "down", "store", "lookback"] := ⟨C_Setup, PySem.W.mg_of X G ac_Setup, ⟨pg_Setup, hd_Setup, po_Setup, sa_Setup⟩, by
    intro f hf
    simp only [List.mem_cons, List.not_mem_nil, or_false] at hf
    rcases hf with rfl | rfl | rfl | rfl | rfl | rfl | rfl | rfl | rfl | rfl | rfl | rfl | rfl
    · exact na_Setup_week
    · exact na_Setup_people
    · exact na_Setup_schedules
    · exact na_Setup_policies
    · exact na_Setup_windows
    · exact na_Setup_routes
    · exact na_Setup_holdbacks
    · exact na_Setup_groups
    · exact na_Setup_replicas
    · exact na_Setup_pause
    · exact na_Setup_down
    · exact na_Setup_store
    · exact na_Setup_lookback⟩
  have i_Setup : ∃ C f fd, mg "Setup" = some (.ref C) ∧ Mk K C f ∧ Fun K "__init__" "Setup.__init__" s_Setup_init f fd ∧ Binds K fd ["self", "week", "people", "schedules", "policies", "windows", "routes", "holdbacks", "groups", "numbers"] [] := ⟨_, _, _, PySem.W.mg_of X G ac_Setup, ⟨mk_Setup, ai_Setup, ii_Setup, kc_Setup⟩, Fi_Setup, Fi_Setup.binds (ps := ["self", "week", "people", "schedules", "policies", "windows", "routes", "holdbacks", "groups", "numbers"]) fun _ _ _ _ _ _ us hl => match us, hl with | [_, _, _, _, _, _, _, _, _, _], _ => rfl⟩
  have T : Txt K mg := ⟨q_Setup, i_Setup, h0, h1, h2, h3, h4, h5, h6, h7, h8, h9, h10, h11, h12, h13, h14, h15, h16, h17, h18, h19, h20, h21, h22, h23, h24, h25, h26, h27, h28, h29, h30, h31, h32, h33, h34, h35, h36, h37, h38, h39, h40, h41, h42, h43, h44, h45, h46, h47, h48, h49, h50, h51, h52, h53, h54, h55, h56, h57, h58, h59, h60, h61, h62, h63, h64, h65, h66, h67, h68, h69, h70, h71, h72, h73, h74, h75, h76, h77, PySem.W.mg_none_of X G z_any, PySem.W.mg_none_of X G z_bool, PySem.W.mg_none_of X G z_enumerate, PySem.W.mg_none_of X G z_int, PySem.W.mg_none_of X G z_isinstance, PySem.W.mg_none_of X G z_len, PySem.W.mg_none_of X G z_list, PySem.W.mg_none_of X G z_max, PySem.W.mg_none_of X G z_min, PySem.W.mg_none_of X G z_range, PySem.W.mg_none_of X G z_sorted, PySem.W.mg_none_of X G z_str, PySem.W.mg_none_of X G z_tuple, ⟨_, PySem.W.mg_of X G cc_LAST_TIME, ⟨_, rfl⟩⟩, ⟨_, PySem.W.mg_of X G cc_LETTERS, ⟨_, rfl⟩⟩, ⟨_, PySem.W.mg_of X G cc_LONGEST_checks, ⟨_, rfl⟩⟩, ⟨_, PySem.W.mg_of X G cc_LONGEST_setup, ⟨_, rfl⟩⟩, ⟨_, PySem.W.mg_of X G cc_MOST, ⟨_, rfl⟩⟩, ⟨_, PySem.W.mg_of X G cc_MOST_CHARS, ⟨_, rfl⟩⟩, ⟨_, PySem.W.mg_of X G cc_MOST_PERIOD, ⟨_, rfl⟩⟩, ⟨_, PySem.W.mg_of X G cc_RESERVED, ⟨_, rfl⟩⟩, ⟨_, PySem.W.mg_of X G cc_WORD_CHARS, ⟨_, rfl⟩⟩, PySem.W.mg_of X G cb_lcm, raise_mk (PySem.W.mg_of X G xx_g) xx_x xx_k xx_b xx_t xx_s xx_d xx_i1 xx_i2 xx_i3 xx_i4 xx_i5 xx_i6 (PySem.W.mg_of X G xx_g1) xx_u1 xx_v1 xx_w1 (PySem.W.mg_of X G xx_g2) xx_u2 xx_v2 xx_w2 xx_n2⟩
  refine ⟨PySem.W.fnOf "law" "law" (defArgs s_law) (defBody s_law) (defScope s_law) .none kV77 dc77 pm77 an77 cd77 ct77, fun s v => .of_eq rfl, fun base _ _ => (fn_law (P := P) (w := w) (base := base) T F77).imp fun vs H Q E hs => ?_⟩
  obtain ⟨a, ns, rfl, hS, hl, q⟩ := hs
  exact ⟨H, [.lst (ns.map D.int)], .bl true, Sub.refl _, .cons (.lst hS (Reps.ints ns)) .nil, rfl, law_true ns hl, fun v H1 F1 x r => (by cases r; exact q H1)⟩
end G74
open PySem PySem.W PyProof.Rows
set_option maxRecDepth 100000 in
set_option maxHeartbeats 0 in
theorem PySem.Challenge.cw_watchfloor_k74_analysis_sure_by_ticks_holds : PySem.Challenge.rw_watchfloor_k74_analysis_sure_by_ticks.Holds := by
  w_on; o_law; k_head; (case hw => w_witness2)
  k_fill
  refine L2.walk_of (l := PySem.Challenge.rw_watchfloor_k74_analysis_sure_by_ticks) (n := 63) (k := 12) (x := "_law_script_here") (CX := fun _ => L2.CX0) (sp := fun w => G74.spLaw _) rfl (by decide) rfl ⟨rfl, by decide, by decide⟩ (fun w h Y => PySem.W.kIn_of Y) ?F (fun _ _ a ns hl _ hS => ⟨a, ns, rfl, hS, hl, fun _ => rfl⟩) (fun _ _ _ _ _ h => h)
  case F =>
    intro w mg fa h KX G hmg
    refine' G74.all_mk KX G hmg ?ac_Setup ?ai_Setup ?ii_Setup ?li_Setup ?ci_Setup ?ki_Setup ?pg_Setup ?hd_Setup ?po_Setup ?sa_Setup ?mk_Setup ?kc_Setup ?na_Setup_week ?na_Setup_people ?na_Setup_schedules ?na_Setup_policies ?na_Setup_windows ?na_Setup_routes ?na_Setup_holdbacks ?na_Setup_groups ?na_Setup_replicas ?na_Setup_pause ?na_Setup_down ?na_Setup_store ?na_Setup_lookback ?a0 ?l0 ?c0 ?k0 ?a1 ?l1 ?c1 ?k1 ?a2 ?l2 ?c2 ?k2 ?a3 ?l3 ?c3 ?k3 ?a4 ?l4 ?c4 ?k4 ?a5 ?l5 ?c5 ?k5 ?a6 ?l6 ?c6 ?k6 ?a7 ?l7 ?c7 ?k7 ?a8 ?l8 ?c8 ?k8 ?a9 ?l9 ?c9 ?k9 ?a10 ?l10 ?c10 ?k10 ?a11 ?l11 ?c11 ?k11 ?a12 ?l12 ?c12 ?k12 ?a13 ?l13 ?c13 ?k13 ?a14 ?l14 ?c14 ?k14 ?a15 ?l15 ?c15 ?k15 ?a16 ?l16 ?c16 ?k16 ?a17 ?l17 ?c17 ?k17 ?a18 ?l18 ?c18 ?k18 ?a19 ?l19 ?c19 ?k19 ?a20 ?l20 ?c20 ?k20 ?a21 ?l21 ?c21 ?k21 ?a22 ?l22 ?c22 ?k22 ?a23 ?l23 ?c23 ?k23 ?a24 ?l24 ?c24 ?k24 ?a25 ?l25 ?c25 ?k25 ?a26 ?l26 ?c26 ?k26 ?a27 ?l27 ?c27 ?k27 ?a28 ?l28 ?c28 ?k28 ?a29 ?l29 ?c29 ?k29 ?a30 ?l30 ?c30 ?k30 ?a31 ?l31 ?c31 ?k31 ?a32 ?l32 ?c32 ?k32 ?a33 ?l33 ?c33 ?k33 ?a34 ?l34 ?c34 ?k34 ?a35 ?l35 ?c35 ?k35 ?kn_setup ?kw_setup ?a36 ?l36 ?c36 ?k36 ?a37 ?l37 ?c37 ?k37 ?a38 ?l38 ?c38 ?k38 ?a39 ?l39 ?c39 ?k39 ?a40 ?l40 ?c40 ?k40 ?a41 ?l41 ?c41 ?k41 ?a42 ?l42 ?c42 ?k42 ?a43 ?l43 ?c43 ?k43 ?a44 ?l44 ?c44 ?k44 ?a45 ?l45 ?c45 ?k45 ?a46 ?l46 ?c46 ?k46 ?a47 ?l47 ?c47 ?k47 ?a48 ?l48 ?c48 ?k48 ?a49 ?l49 ?c49 ?k49 ?a50 ?l50 ?c50 ?k50 ?a51 ?l51 ?c51 ?k51 ?a52 ?l52 ?c52 ?k52 ?a53 ?l53 ?c53 ?k53 ?a54 ?l54 ?c54 ?k54 ?a55 ?l55 ?c55 ?k55 ?a56 ?l56 ?c56 ?k56 ?a57 ?l57 ?c57 ?k57 ?a58 ?l58 ?c58 ?k58 ?a59 ?l59 ?c59 ?k59 ?a60 ?l60 ?c60 ?k60 ?a61 ?l61 ?c61 ?k61 ?a62 ?l62 ?c62 ?k62 ?a63 ?l63 ?c63 ?k63 ?a64 ?l64 ?c64 ?k64 ?a65 ?l65 ?c65 ?k65 ?a66 ?l66 ?c66 ?k66 ?a67 ?l67 ?c67 ?k67 ?a68 ?l68 ?c68 ?k68 ?a69 ?l69 ?c69 ?k69 ?a70 ?l70 ?c70 ?k70 ?a71 ?l71 ?c71 ?k71 ?a72 ?l72 ?c72 ?k72 ?a73 ?l73 ?c73 ?k73 ?a74 ?l74 ?c74 ?k74 ?a75 ?l75 ?c75 ?k75 ?a76 ?l76 ?c76 ?k76 ?a77 ?l77 ?c77 ?k77 ?z_any ?z_bool ?z_enumerate ?z_int ?z_isinstance ?z_len ?z_list ?z_max ?z_min ?z_range ?z_sorted ?z_str ?z_tuple ?cc_LAST_TIME ?cc_LETTERS ?cc_LONGEST_checks ?cc_LONGEST_setup ?cc_MOST ?cc_MOST_CHARS ?cc_MOST_PERIOD ?cc_RESERVED ?cc_WORD_CHARS ?cb_lcm ?xx_g ?xx_x ?xx_k ?xx_b ?xx_t ?xx_s ?xx_d ?xx_i1 ?xx_i2 ?xx_i3 ?xx_i4 ?xx_i5 ?xx_i6 ?xx_g1 ?xx_u1 ?xx_v1 ?xx_w1 ?xx_g2 ?xx_u2 ?xx_v2 ?xx_w2 ?xx_n2
    (case ac_Setup => k_is)
    (case ai_Setup => k_is)
    (case ii_Setup => k_is)
    (case li_Setup => k_is)
    (case ci_Setup => k_is)
    (case ki_Setup => k_is)
    (case pg_Setup => k_is)
    (case hd_Setup => k_is)
    (case po_Setup => k_is)
    (case sa_Setup => k_is)
    (case mk_Setup => k_is)
    (case kc_Setup => k_is)
    (case na_Setup_week => k_is)
    (case na_Setup_people => k_is)
    (case na_Setup_schedules => k_is)
    (case na_Setup_policies => k_is)
    (case na_Setup_windows => k_is)
    (case na_Setup_routes => k_is)
    (case na_Setup_holdbacks => k_is)
    (case na_Setup_groups => k_is)
    (case na_Setup_replicas => k_is)
    (case na_Setup_pause => k_is)
    (case na_Setup_down => k_is)
    (case na_Setup_store => k_is)
    (case na_Setup_lookback => k_is)
    (case a0 => k_is)
    (case l0 => k_is)
    (case c0 => k_is)
    (case k0 => k_is)
    (case a1 => k_is)
    (case l1 => k_is)
    (case c1 => k_is)
    (case k1 => k_is)
    (case a2 => k_is)
    (case l2 => k_is)
    (case c2 => k_is)
    (case k2 => k_is)
    (case a3 => k_is)
    (case l3 => k_is)
    (case c3 => k_is)
    (case k3 => k_is)
    (case a4 => k_is)
    (case l4 => k_is)
    (case c4 => k_is)
    (case k4 => k_is)
    (case a5 => k_is)
    (case l5 => k_is)
    (case c5 => k_is)
    (case k5 => k_is)
    (case a6 => k_is)
    (case l6 => k_is)
    (case c6 => k_is)
    (case k6 => k_is)
    (case a7 => k_is)
    (case l7 => k_is)
    (case c7 => k_is)
    (case k7 => k_is)
    (case a8 => k_is)
    (case l8 => k_is)
    (case c8 => k_is)
    (case k8 => k_is)
    (case a9 => k_is)
    (case l9 => k_is)
    (case c9 => k_is)
    (case k9 => k_is)
    (case a10 => k_is)
    (case l10 => k_is)
    (case c10 => k_is)
    (case k10 => k_is)
    (case a11 => k_is)
    (case l11 => k_is)
    (case c11 => k_is)
    (case k11 => k_is)
    (case a12 => k_is)
    (case l12 => k_is)
    (case c12 => k_is)
    (case k12 => k_is)
    (case a13 => k_is)
    (case l13 => k_is)
    (case c13 => k_is)
    (case k13 => k_is)
    (case a14 => k_is)
    (case l14 => k_is)
    (case c14 => k_is)
    (case k14 => k_is)
    (case a15 => k_is)
    (case l15 => k_is)
    (case c15 => k_is)
    (case k15 => k_is)
    (case a16 => k_is)
    (case l16 => k_is)
    (case c16 => k_is)
    (case k16 => k_is)
    (case a17 => k_is)
    (case l17 => k_is)
    (case c17 => k_is)
    (case k17 => k_is)
    (case a18 => k_is)
    (case l18 => k_is)
    (case c18 => k_is)
    (case k18 => k_is)
    (case a19 => k_is)
    (case l19 => k_is)
    (case c19 => k_is)
    (case k19 => k_is)
    (case a20 => k_is)
    (case l20 => k_is)
    (case c20 => k_is)
    (case k20 => k_is)
    (case a21 => k_is)
    (case l21 => k_is)
    (case c21 => k_is)
    (case k21 => k_is)
    (case a22 => k_is)
    (case l22 => k_is)
    (case c22 => k_is)
    (case k22 => k_is)
    (case a23 => k_is)
    (case l23 => k_is)
    (case c23 => k_is)
    (case k23 => k_is)
    (case a24 => k_is)
    (case l24 => k_is)
    (case c24 => k_is)
    (case k24 => k_is)
    (case a25 => k_is)
    (case l25 => k_is)
    (case c25 => k_is)
    (case k25 => k_is)
    (case a26 => k_is)
    (case l26 => k_is)
    (case c26 => k_is)
    (case k26 => k_is)
    (case a27 => k_is)
    (case l27 => k_is)
    (case c27 => k_is)
    (case k27 => k_is)
    (case a28 => k_is)
    (case l28 => k_is)
    (case c28 => k_is)
    (case k28 => k_is)
    (case a29 => k_is)
    (case l29 => k_is)
    (case c29 => k_is)
    (case k29 => k_is)
    (case a30 => k_is)
    (case l30 => k_is)
    (case c30 => k_is)
    (case k30 => k_is)
    (case a31 => k_is)
    (case l31 => k_is)
    (case c31 => k_is)
    (case k31 => k_is)
    (case a32 => k_is)
    (case l32 => k_is)
    (case c32 => k_is)
    (case k32 => k_is)
    (case a33 => k_is)
    (case l33 => k_is)
    (case c33 => k_is)
    (case k33 => k_is)
    (case a34 => k_is)
    (case l34 => k_is)
    (case c34 => k_is)
    (case k34 => k_is)
    (case a35 => k_is)
    (case l35 => k_is)
    (case c35 => k_is)
    (case k35 => k_is)
    (case kn_setup => k_is)
    (case kw_setup => first | rfl | decide +kernel)
    (case a36 => k_is)
    (case l36 => k_is)
    (case c36 => k_is)
    (case k36 => k_is)
    (case a37 => k_is)
    (case l37 => k_is)
    (case c37 => k_is)
    (case k37 => k_is)
    (case a38 => k_is)
    (case l38 => k_is)
    (case c38 => k_is)
    (case k38 => k_is)
    (case a39 => k_is)
    (case l39 => k_is)
    (case c39 => k_is)
    (case k39 => k_is)
    (case a40 => k_is)
    (case l40 => k_is)
    (case c40 => k_is)
    (case k40 => k_is)
    (case a41 => k_is)
    (case l41 => k_is)
    (case c41 => k_is)
    (case k41 => k_is)
    (case a42 => k_is)
    (case l42 => k_is)
    (case c42 => k_is)
    (case k42 => k_is)
    (case a43 => k_is)
    (case l43 => k_is)
    (case c43 => k_is)
    (case k43 => k_is)
    (case a44 => k_is)
    (case l44 => k_is)
    (case c44 => k_is)
    (case k44 => k_is)
    (case a45 => k_is)
    (case l45 => k_is)
    (case c45 => k_is)
    (case k45 => k_is)
    (case a46 => k_is)
    (case l46 => k_is)
    (case c46 => k_is)
    (case k46 => k_is)
    (case a47 => k_is)
    (case l47 => k_is)
    (case c47 => k_is)
    (case k47 => k_is)
    (case a48 => k_is)
    (case l48 => k_is)
    (case c48 => k_is)
    (case k48 => k_is)
    (case a49 => k_is)
    (case l49 => k_is)
    (case c49 => k_is)
    (case k49 => k_is)
    (case a50 => k_is)
    (case l50 => k_is)
    (case c50 => k_is)
    (case k50 => k_is)
    (case a51 => k_is)
    (case l51 => k_is)
    (case c51 => k_is)
    (case k51 => k_is)
    (case a52 => k_is)
    (case l52 => k_is)
    (case c52 => k_is)
    (case k52 => k_is)
    (case a53 => k_is)
    (case l53 => k_is)
    (case c53 => k_is)
    (case k53 => k_is)
    (case a54 => k_is)
    (case l54 => k_is)
    (case c54 => k_is)
    (case k54 => k_is)
    (case a55 => k_is)
    (case l55 => k_is)
    (case c55 => k_is)
    (case k55 => k_is)
    (case a56 => k_is)
    (case l56 => k_is)
    (case c56 => k_is)
    (case k56 => k_is)
    (case a57 => k_is)
    (case l57 => k_is)
    (case c57 => k_is)
    (case k57 => k_is)
    (case a58 => k_is)
    (case l58 => k_is)
    (case c58 => k_is)
    (case k58 => k_is)
    (case a59 => k_is)
    (case l59 => k_is)
    (case c59 => k_is)
    (case k59 => k_is)
    (case a60 => k_is)
    (case l60 => k_is)
    (case c60 => k_is)
    (case k60 => k_is)
    (case a61 => k_is)
    (case l61 => k_is)
    (case c61 => k_is)
    (case k61 => k_is)
    (case a62 => k_is)
    (case l62 => k_is)
    (case c62 => k_is)
    (case k62 => k_is)
    (case a63 => k_is)
    (case l63 => k_is)
    (case c63 => k_is)
    (case k63 => k_is)
    (case a64 => k_is)
    (case l64 => k_is)
    (case c64 => k_is)
    (case k64 => k_is)
    (case a65 => k_is)
    (case l65 => k_is)
    (case c65 => k_is)
    (case k65 => k_is)
    (case a66 => k_is)
    (case l66 => k_is)
    (case c66 => k_is)
    (case k66 => k_is)
    (case a67 => k_is)
    (case l67 => k_is)
    (case c67 => k_is)
    (case k67 => k_is)
    (case a68 => k_is)
    (case l68 => k_is)
    (case c68 => k_is)
    (case k68 => k_is)
    (case a69 => k_is)
    (case l69 => k_is)
    (case c69 => k_is)
    (case k69 => k_is)
    (case a70 => k_is)
    (case l70 => k_is)
    (case c70 => k_is)
    (case k70 => k_is)
    (case a71 => k_is)
    (case l71 => k_is)
    (case c71 => k_is)
    (case k71 => k_is)
    (case a72 => k_is)
    (case l72 => k_is)
    (case c72 => k_is)
    (case k72 => k_is)
    (case a73 => k_is)
    (case l73 => k_is)
    (case c73 => k_is)
    (case k73 => k_is)
    (case a74 => k_is)
    (case l74 => k_is)
    (case c74 => k_is)
    (case k74 => k_is)
    (case a75 => k_is)
    (case l75 => k_is)
    (case c75 => k_is)
    (case k75 => k_is)
    (case a76 => k_is)
    (case l76 => k_is)
    (case c76 => k_is)
    (case k76 => k_is)
    (case a77 => k_is)
    (case l77 => k_is)
    (case c77 => k_is)
    (case k77 => k_is)
    (case z_any => k_is)
    (case z_bool => k_is)
    (case z_enumerate => k_is)
    (case z_int => k_is)
    (case z_isinstance => k_is)
    (case z_len => k_is)
    (case z_list => k_is)
    (case z_max => k_is)
    (case z_min => k_is)
    (case z_range => k_is)
    (case z_sorted => k_is)
    (case z_str => k_is)
    (case z_tuple => k_is)
    (case cc_LAST_TIME => k_is)
    (case cc_LETTERS => k_is)
    (case cc_LONGEST_checks => k_is)
    (case cc_LONGEST_setup => k_is)
    (case cc_MOST => k_is)
    (case cc_MOST_CHARS => k_is)
    (case cc_MOST_PERIOD => k_is)
    (case cc_RESERVED => k_is)
    (case cc_WORD_CHARS => k_is)
    (case cb_lcm => k_is)
    (case xx_g => k_is)
    (case xx_x => k_exc)
    (case xx_k => k_is)
    (case xx_b => k_is)
    (case xx_t => k_is)
    (case xx_s => k_is)
    (case xx_d => k_is)
    (case xx_i1 => k_is)
    (case xx_i2 => k_is)
    (case xx_i3 => k_is)
    (case xx_i4 => k_is)
    (case xx_i5 => k_is)
    (case xx_i6 => k_is)
    (case xx_g1 => k_is)
    (case xx_u1 => k_is)
    (case xx_v1 => k_is)
    (case xx_w1 => k_is)
    (case xx_g2 => k_is)
    (case xx_u2 => k_is)
    (case xx_v2 => k_is)
    (case xx_w2 => k_is)
    (case xx_n2 => first | rfl | decide +kernel)
