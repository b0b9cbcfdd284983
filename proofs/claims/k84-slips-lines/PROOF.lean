import PyProof.Rows.All
import Wide.All
import OpenK.AllK
import Wide.FinOn
import HandS.ForMost
import HandS.ForExc
import HandS.Lambda
import HandS.Steps
import HandS.Deep
import HandS.IsInst
import HandS.RaiseMore
import HandS.Style
import HandS.More
import HandS.TryMany
import HandS.ExcOwn
import PyProof.ReprRoads
import HandS.SetKeys
import PyProof.Ends
import HandS.Ends
import HandS.EndBits
import HandS.EndTab
import PyProof.ExcBaseAll.ValueError
import KE.BitLaws
import HandS.WideBits
import HandS.Codes
import KE.KSortedM
import PyProof.ReprLen
import PySem.Challenge.RW_wholepoll_k84_slips_and_lines_written
set_option Elab.async false
set_option linter.all false
set_option maxRecDepth 100000
set_option maxHeartbeats 4000000
/-! VL1: deep data, how a heap bears it, modes (who may change what), the world of a def's slots, what a step leaves. -/
namespace VL
open PySem L2

inductive D where
  | non | bl (b : Bool) | int (i : Int) | str (x : Str)
  | tup (xs : List D) | lst (xs : List D)
  | dct (kvs : List (Key × D))
  | obj (c : Nat) (fs : List (Str × D))
  deriving Inhabited

/-- where the classes stand -/
abbrev CM := Nat → Addr

mutual
/-- the value v is the data, as R bears it -/
def Rep (K : PySem.W.Frag) (C : CM) (R : Hp) : D → V → Prop
  | .non, v => v = .non
  | .bl b, v => v = .bl b
  | .int i, v => v = .int i
  | .str x, v => v = .str x
  | .tup ds, v => ∃ a vs, v = .ref a ∧ SqT K R a vs ∧ Reps K C R ds vs
  | .lst ds, v => ∃ a vs, v = .ref a ∧ R a = some (.lst vs) ∧ Reps K C R ds vs
  | .dct ks, v => ∃ a vs, v = .ref a ∧ R a = some (.dK vs) ∧ RepK K C R ks vs
  | .obj c fs, v => ∃ a dx vs, v = .ref a ∧ R a = some (.ins (C c) dx vs) ∧ R dx = some (.own a) ∧ RepF K C R fs vs
def Reps (K : PySem.W.Frag) (C : CM) (R : Hp) : List D → List V → Prop
  | [], vs => vs = []
  | d :: ds, vs => ∃ v r, vs = v :: r ∧ Rep K C R d v ∧ Reps K C R ds r
def RepK (K : PySem.W.Frag) (C : CM) (R : Hp) : List (Key × D) → List (Key × V) → Prop
  | [], vs => vs = []
  | (k, d) :: ds, vs => ∃ v r, vs = (k, v) :: r ∧ Rep K C R d v ∧ RepK K C R ds r
def RepF (K : PySem.W.Frag) (C : CM) (R : Hp) : List (Str × D) → List (Str × V) → Prop
  | [], vs => vs = []
  | (k, d) :: ds, vs => ∃ v r, vs = (k, v) :: r ∧ Rep K C R d v ∧ RepF K C R ds r
end

/-- the one heap is part of the other -/
def Sub (R R' : Hp) : Prop := ∀ a o, R a = some o → R' a = some o
theorem Sub.refl (R : Hp) : Sub R R := fun _ _ h => h
theorem Sub.trans {A B C : Hp} (x : Sub A B) (y : Sub B C) : Sub A C := fun a o h => y a o (x a o h)
theorem Sub.free {A B : Hp} (x : Sub A B) {p : Addr} (h : B p = none) : A p = none := by
  cases e : A p with
  | none => rfl
  | some o => rw [x p o e] at h; cases h
theorem Sub.new {R : Hp} {p : Addr} {o : HO} (h : R p = none) : Sub R (upd R p o) := fun a u e => by rw [upd_ne (ne_of_none e h)]; exact e

theorem sqL_mono {K : PySem.W.Frag} {R R' : Hp} {a : Addr} {xs : List V} (s : Sub R R') (h : SqL K R a xs) : SqL K R' a xs := by
  rcases h with (h | ⟨o, h⟩) | h
  · exact .inl (.inl (s _ _ h))
  · exact .inl (.inr ⟨o, s _ _ h⟩)
  · exact .inr h
theorem sqT_mono {K : PySem.W.Frag} {R R' : Hp} {a : Addr} {xs : List V} (s : Sub R R') (h : SqT K R a xs) : SqT K R' a xs := by
  rcases h with (h | ⟨o, h⟩) | h
  · exact .inl (.inl (s _ _ h))
  · exact .inl (.inr ⟨o, s _ _ h⟩)
  · exact .inr h

section
variable {K : PySem.W.Frag} {C : CM} {R R' : Hp}
mutual
theorem Rep.mono (s : Sub R R') : ∀ (d : D) (v : V), Rep K C R d v → Rep K C R' d v
  | .non, v, h => by simp only [Rep] at *; exact h
  | .bl b, v, h => by simp only [Rep] at *; exact h
  | .int i, v, h => by simp only [Rep] at *; exact h
  | .str x, v, h => by simp only [Rep] at *; exact h
  | .tup ds, v, h => by
    simp only [Rep] at *
    obtain ⟨a, vs, e, q, r⟩ := h
    exact ⟨a, vs, e, sqT_mono s q, Reps.mono s ds vs r⟩
  | .lst ds, v, h => by
    simp only [Rep] at *
    obtain ⟨a, vs, e, q, r⟩ := h
    exact ⟨a, vs, e, s _ _ q, Reps.mono s ds vs r⟩
  | .dct ks, v, h => by
    simp only [Rep] at *
    obtain ⟨a, vs, e, q, r⟩ := h
    exact ⟨a, vs, e, s _ _ q, RepK.mono s ks vs r⟩
  | .obj c fs, v, h => by
    simp only [Rep] at *
    obtain ⟨a, dx, vs, e, q, o, r⟩ := h
    exact ⟨a, dx, vs, e, s _ _ q, s _ _ o, RepF.mono s fs vs r⟩
theorem Reps.mono (s : Sub R R') : ∀ (ds : List D) (vs : List V), Reps K C R ds vs → Reps K C R' ds vs
  | [], vs, h => by simp only [Reps] at *; exact h
  | d :: ds, vs, h => by
    simp only [Reps] at *
    obtain ⟨v, r, e, q, t⟩ := h
    exact ⟨v, r, e, Rep.mono s d v q, Reps.mono s ds r t⟩
theorem RepK.mono (s : Sub R R') : ∀ (ds : List (Key × D)) (vs : List (Key × V)), RepK K C R ds vs → RepK K C R' ds vs
  | [], vs, h => by simp only [RepK] at *; exact h
  | (k, d) :: ds, vs, h => by
    simp only [RepK] at *
    obtain ⟨v, r, e, q, t⟩ := h
    exact ⟨v, r, e, Rep.mono s d v q, RepK.mono s ds r t⟩
theorem RepF.mono (s : Sub R R') : ∀ (ds : List (Str × D)) (vs : List (Str × V)), RepF K C R ds vs → RepF K C R' ds vs
  | [], vs, h => by simp only [RepF] at *; exact h
  | (k, d) :: ds, vs, h => by
    simp only [RepF] at *
    obtain ⟨v, r, e, q, t⟩ := h
    exact ⟨v, r, e, Rep.mono s d v q, RepF.mono s ds r t⟩
end
theorem Reps.length : ∀ {ds : List D} {vs : List V}, Reps K C R ds vs → ds.length = vs.length
  | [], vs, h => by simp only [Reps] at h; subst h; rfl
  | d :: ds, vs, h => by
    simp only [Reps] at h
    obtain ⟨v, r, rfl, _, t⟩ := h
    simp [Reps.length t]
theorem Reps.get : ∀ {ds : List D} {vs : List V} {i : Nat} {d : D}, Reps K C R ds vs → ds[i]? = some d → ∃ v, vs[i]? = some v ∧ Rep K C R d v
  | [], _, _, _, _, e => by simp at e
  | d :: ds, vs, 0, d', h, e => by
    simp only [Reps] at h
    obtain ⟨v, r, rfl, q, _⟩ := h
    simp at e; subst e
    exact ⟨v, rfl, q⟩
  | d :: ds, vs, i + 1, d', h, e => by
    simp only [Reps] at h
    obtain ⟨v, r, rfl, _, t⟩ := h
    obtain ⟨v', e', q⟩ := Reps.get (i := i) (d := d') t (by simpa using e)
    exact ⟨v', by simpa using e', q⟩
theorem Reps.get' : ∀ {ds : List D} {vs : List V} {i : Nat} {v : V}, Reps K C R ds vs → vs[i]? = some v → ∃ d, ds[i]? = some d ∧ Rep K C R d v := fun {ds vs i v} h e => by
  have hl := h.length
  obtain ⟨hi, _⟩ := List.getElem?_eq_some_iff.mp e
  have hd : ds[i]? = some ds[i] := List.getElem?_eq_getElem (by omega)
  obtain ⟨v', e', q⟩ := h.get hd
  rw [e] at e'; cases e'
  exact ⟨_, hd, q⟩
theorem Reps.nil : Reps K C R [] [] := by simp only [Reps]
theorem Reps.cons {d : D} {v : V} {ds : List D} {vs : List V} (h : Rep K C R d v) (t : Reps K C R ds vs) : Reps K C R (d :: ds) (v :: vs) := by
  simp only [Reps]; exact ⟨v, vs, rfl, h, t⟩
theorem Reps.append : ∀ {ds es : List D} {vs ws : List V}, Reps K C R ds vs → Reps K C R es ws → Reps K C R (ds ++ es) (vs ++ ws)
  | [], es, vs, ws, h, t => by simp only [Reps] at h; subst h; exact t
  | d :: ds, es, vs, ws, h, t => by
    simp only [Reps] at h
    obtain ⟨v, r, rfl, q, u⟩ := h
    exact Reps.cons q (Reps.append u t)
theorem Reps.set : ∀ {ds : List D} {vs : List V} {i : Nat} {d : D} {v : V}, Reps K C R ds vs → Rep K C R d v → Reps K C R (ds.set i d) (vs.set i v)
  | [], vs, i, d, v, h, q => by simp only [Reps] at h; subst h; simp only [List.set_nil]; exact Reps.nil
  | e :: ds, vs, 0, d, v, h, q => by
    simp only [Reps] at h
    obtain ⟨w, r, rfl, _, t⟩ := h
    exact Reps.cons q t
  | e :: ds, vs, i + 1, d, v, h, q => by
    simp only [Reps] at h
    obtain ⟨w, r, rfl, p, t⟩ := h
    exact Reps.cons p (Reps.set t q)
theorem Reps.take : ∀ {ds : List D} {vs : List V} (n : Nat), Reps K C R ds vs → Reps K C R (ds.take n) (vs.take n)
  | _, _, 0, _ => by simp only [List.take_zero]; exact Reps.nil
  | [], vs, n + 1, h => by simp only [Reps] at h; subst h; simp only [List.take_nil]; exact Reps.nil
  | d :: ds, vs, n + 1, h => by
    simp only [Reps] at h
    obtain ⟨v, r, rfl, q, t⟩ := h
    exact Reps.cons q (Reps.take n t)
theorem Reps.drop : ∀ {ds : List D} {vs : List V} (n : Nat), Reps K C R ds vs → Reps K C R (ds.drop n) (vs.drop n)
  | _, _, 0, h => h
  | [], vs, n + 1, h => by simp only [Reps] at h; subst h; simp only [List.drop_nil]; exact Reps.nil
  | d :: ds, vs, n + 1, h => by
    simp only [Reps] at h
    obtain ⟨v, r, rfl, q, t⟩ := h
    exact Reps.drop n t
theorem Reps.reverse : ∀ {ds : List D} {vs : List V}, Reps K C R ds vs → Reps K C R ds.reverse vs.reverse
  | [], vs, h => by simp only [Reps] at h; subst h; exact Reps.nil
  | d :: ds, vs, h => by
    simp only [Reps] at h
    obtain ⟨v, r, rfl, q, t⟩ := h
    rw [List.reverse_cons, List.reverse_cons]
    exact Reps.append (Reps.reverse t) (Reps.cons q Reps.nil)
theorem rep_int {i : Int} : Rep K C R (.int i) (.int i) := by simp only [Rep]
theorem rep_bl {b : Bool} : Rep K C R (.bl b) (.bl b) := by simp only [Rep]
theorem rep_str {x : Str} : Rep K C R (.str x) (.str x) := by simp only [Rep]
theorem rep_non : Rep K C R .non .non := by simp only [Rep]
theorem rep_tup {a : Addr} {ds : List D} {vs : List V} (h : SqT K R a vs) (r : Reps K C R ds vs) : Rep K C R (.tup ds) (.ref a) := by
  simp only [Rep]; exact ⟨a, vs, rfl, h, r⟩
theorem rep_lst {a : Addr} {ds : List D} {vs : List V} (h : R a = some (.lst vs)) (r : Reps K C R ds vs) : Rep K C R (.lst ds) (.ref a) := by
  simp only [Rep]; exact ⟨a, vs, rfl, h, r⟩
/-- lists of ints -/
theorem reps_ints : ∀ (ns : List Int), Reps K C R (ns.map D.int) (ns.map V.int)
  | [] => Reps.nil
  | n :: r => Reps.cons rep_int (reps_ints r)
theorem reps_strs : ∀ (ns : List Str), Reps K C R (ns.map D.str) (ns.map V.str)
  | [] => Reps.nil
  | n :: r => Reps.cons rep_str (reps_strs r)
theorem reps_map {α : Type} {f : α → D} {g : α → V} (h : ∀ x, Rep K C R (f x) (g x)) : ∀ (l : List α), Reps K C R (l.map f) (l.map g)
  | [] => Reps.nil
  | n :: r => Reps.cons (h n) (reps_map h r)
end
end VL

namespace VL
open PySem L2

/-- who may change what: U nothing is known; S shared, never changed again; O the root is this slot's own, its items are of mode m; Q a list that is read alone (the script); B lent by the caller; P a tuple whose item i is of mode m -/
inductive Mo where
  | U | S | Q | O (m : Mo) | B (m : Mo) | P (i : Nat) (m : Mo)
  deriving DecidableEq, Inhabited
/-- the written part, the classes, the tables of code objects -/
structure Kit where
  K : PySem.W.Frag
  C : CM
  T : List (Addr × Str)
/-- not a table of code objects -/
def NT (o : HO) : Prop := ∀ ps, o ≠ .tbl ps
abbrev DVF := D → V → List Addr → Prop
def RepL (P : DVF) : List D → List V → List Addr → Prop
  | [], vs, f => vs = [] ∧ f = []
  | d :: ds, vs, f => ∃ v r f1 f2, vs = v :: r ∧ f = f1 ++ f2 ∧ P d v f1 ∧ RepL P ds r f2
def RepLK {α : Type} (P : DVF) : List (α × D) → List (α × V) → List Addr → Prop
  | [], vs, f => vs = [] ∧ f = []
  | (k, d) :: ds, vs, f => ∃ v r f1 f2, vs = (k, v) :: r ∧ f = f1 ++ f2 ∧ P d v f1 ∧ RepLK P ds r f2
def ROwn (C : CM) (H : Hp) (P : DVF) : DVF
  | .lst ds, v, f => ∃ a vs g, v = .ref a ∧ H a = some (.lst vs) ∧ f = a :: g ∧ RepL P ds vs g
  | .dct ks, v, f => ∃ a vs g, v = .ref a ∧ H a = some (.dK vs) ∧ f = a :: g ∧ RepLK P ks vs g
  | .obj c fs, v, f => ∃ a dx vs g, v = .ref a ∧ H a = some (.ins (C c) dx vs) ∧ H dx = some (.own a) ∧ f = a :: dx :: g ∧ RepLK P fs vs g
  | _, _, _ => False
def RTup (κ : Kit) (R : Hp) (i : Nat) (P : DVF) : DVF
  | .tup ds, v, f => ∃ a vs, v = .ref a ∧ SqT κ.K R a vs ∧ ds.length = vs.length ∧ (∀ (j : Nat) d v, j ≠ i → ds[j]? = some d → vs[j]? = some v → Rep κ.K κ.C R d v) ∧ ∃ d v, ds[i]? = some d ∧ vs[i]? = some v ∧ P d v f
  | _, _, _ => False
def RQ (κ : Kit) (R : Hp) : DVF
  | .lst ds, v, f => f = [] ∧ ∃ a vs, v = .ref a ∧ SqL κ.K R a vs ∧ Reps κ.K κ.C R ds vs
  | _, _, _ => False
def RepM (κ : Kit) (R H : Hp) : Mo → DVF
  | .U => fun _ _ f => f = []
  | .Q => RQ κ R
  | .S => fun d v f => f = [] ∧ Rep κ.K κ.C R d v
  | .O m => ROwn κ.C H (RepM κ R H m)
  | .B m => RepM κ R H m
  | .P i m => RTup κ R i (RepM κ R H m)

theorem RepL.imp {P P' : DVF} : ∀ {ds : List D} {vs : List V} {f : List Addr}, (∀ d v g, (∀ a ∈ g, a ∈ f) → P d v g → P' d v g) → RepL P ds vs f → RepL P' ds vs f
  | [], _, _, _, h => h
  | d :: ds, vs, f, i, h => by
    obtain ⟨v, r, f1, f2, e1, e2, p, t⟩ := h
    subst e2
    exact ⟨v, r, f1, f2, e1, rfl, i _ _ _ (fun a ha => List.mem_append_left _ ha) p, RepL.imp (fun d v g hg => i d v g fun a ha => List.mem_append_right _ (hg a ha)) t⟩
theorem RepLK.imp {α : Type} {P P' : DVF} : ∀ {ds : List (α × D)} {vs : List (α × V)} {f : List Addr}, (∀ d v g, (∀ a ∈ g, a ∈ f) → P d v g → P' d v g) → RepLK P ds vs f → RepLK P' ds vs f
  | [], _, _, _, h => h
  | (k, d) :: ds, vs, f, i, h => by
    obtain ⟨v, r, f1, f2, e1, e2, p, t⟩ := h
    subst e2
    exact ⟨v, r, f1, f2, e1, rfl, i _ _ _ (fun a ha => List.mem_append_left _ ha) p, RepLK.imp (fun d v g hg => i d v g fun a ha => List.mem_append_right _ (hg a ha)) t⟩
section
variable {κ : Kit} {R R' H H' : Hp}
theorem RepM.mono (s : Sub R R') : ∀ (m : Mo) (d : D) (v : V) (f : List Addr), (∀ a ∈ f, ∀ o, NT o → H a = some o → H' a = some o) → RepM κ R H m d v f → RepM κ R' H' m d v f
  | .U, d, v, f, _, x => x
  | .S, d, v, f, _, x => ⟨x.1, Rep.mono s d v x.2⟩
  | .Q, d, v, f, _, x => by
    cases d with
    | lst ds =>
      obtain ⟨e, a, vs, e1, e2, t⟩ := x
      exact ⟨e, a, vs, e1, sqL_mono s e2, t.mono s⟩
    | _ => exact x.elim
  | .B m, d, v, f, h, x => RepM.mono s m d v f h x
  | .O m, d, v, f, h, x => by
    have ih := fun d v g (hg : ∀ a ∈ g, a ∈ f) => RepM.mono s m d v g (fun a ha => h a (hg a ha))
    cases d with
    | lst ds =>
      obtain ⟨a, vs, g, e1, e2, e3, t⟩ := x
      subst e3
      exact ⟨a, vs, g, e1, h a List.mem_cons_self _ (fun _ z => nomatch z) e2, rfl, RepL.imp (fun d v k hk => ih d v k fun b hb => List.mem_cons_of_mem _ (hk b hb)) t⟩
    | dct ds =>
      obtain ⟨a, vs, g, e1, e2, e3, t⟩ := x
      subst e3
      exact ⟨a, vs, g, e1, h a List.mem_cons_self _ (fun _ z => nomatch z) e2, rfl, RepLK.imp (fun d v k hk => ih d v k fun b hb => List.mem_cons_of_mem _ (hk b hb)) t⟩
    | obj c ds =>
      obtain ⟨a, dx, vs, g, e1, e2, e4, e3, t⟩ := x
      subst e3
      exact ⟨a, dx, vs, g, e1, h a List.mem_cons_self _ (fun _ z => nomatch z) e2, h dx (List.mem_cons_of_mem _ List.mem_cons_self) _ (fun _ z => nomatch z) e4, rfl, RepLK.imp (fun d v k hk => ih d v k fun b hb => List.mem_cons_of_mem _ (List.mem_cons_of_mem _ (hk b hb))) t⟩
    | _ => exact x.elim
  | .P i m, d, v, f, h, x => by
    cases d with
    | tup ds =>
      obtain ⟨a, vs, e1, e2, e3, t, d, v, e4, e5, p⟩ := x
      exact ⟨a, vs, e1, sqT_mono s e2, e3, fun j d v hj a b => Rep.mono s _ _ (t j d v hj a b), d, v, e4, e5, RepM.mono s m d v f h p⟩
    | _ => exact x.elim
theorem RepL.ex {P : DVF} {Z : Addr → Prop} (h : ∀ d v g, P d v g → ∀ a ∈ g, Z a) : ∀ {ds : List D} {vs : List V} {f : List Addr}, RepL P ds vs f → ∀ a ∈ f, Z a
  | [], _, f, x, a, ha => by rw [x.2] at ha; cases ha
  | d :: ds, vs, f, x, a, ha => by
    obtain ⟨v, r, f1, f2, e1, e2, p, t⟩ := x
    subst e2
    rcases List.mem_append.mp ha with q | q
    · exact h _ _ _ p a q
    · exact RepL.ex h t a q
theorem RepLK.ex {α : Type} {P : DVF} {Z : Addr → Prop} (h : ∀ d v g, P d v g → ∀ a ∈ g, Z a) : ∀ {ds : List (α × D)} {vs : List (α × V)} {f : List Addr}, RepLK P ds vs f → ∀ a ∈ f, Z a
  | [], _, f, x, a, ha => by rw [x.2] at ha; cases ha
  | (k, d) :: ds, vs, f, x, a, ha => by
    obtain ⟨v, r, f1, f2, e1, e2, p, t⟩ := x
    subst e2
    rcases List.mem_append.mp ha with q | q
    · exact h _ _ _ p a q
    · exact RepLK.ex h t a q
/-- a footprint's addresses stand -/
theorem RepM.ex : ∀ (m : Mo) (d : D) (v : V) (f : List Addr), RepM κ R H m d v f → ∀ a ∈ f, ∃ o, H a = some o ∧ NT o
  | .U, d, v, f, x, a, ha => by rw [show f = [] from x] at ha; cases ha
  | .S, d, v, f, x, a, ha => by rw [x.1] at ha; cases ha
  | .Q, d, v, f, x, a, ha => by
    cases d with
    | lst ds => rw [x.1] at ha; cases ha
    | _ => exact x.elim
  | .B m, d, v, f, x, a, ha => RepM.ex m d v f x a ha
  | .O m, d, v, f, x, a, ha => by
    cases d with
    | lst ds =>
      obtain ⟨b, vs, g, e1, e2, e3, t⟩ := x
      subst e3
      rcases List.mem_cons.mp ha with rfl | q
      · exact ⟨_, e2, fun _ z => nomatch z⟩
      · exact RepL.ex (fun d v g => RepM.ex m d v g) t a q
    | dct ds =>
      obtain ⟨b, vs, g, e1, e2, e3, t⟩ := x
      subst e3
      rcases List.mem_cons.mp ha with rfl | q
      · exact ⟨_, e2, fun _ z => nomatch z⟩
      · exact RepLK.ex (fun d v g => RepM.ex m d v g) t a q
    | obj c ds =>
      obtain ⟨b, dx, vs, g, e1, e2, e4, e3, t⟩ := x
      subst e3
      rcases List.mem_cons.mp ha with rfl | q
      · exact ⟨_, e2, fun _ z => nomatch z⟩
      · rcases List.mem_cons.mp q with rfl | q
        · exact ⟨_, e4, fun _ z => nomatch z⟩
        · exact RepLK.ex (fun d v g => RepM.ex m d v g) t a q
    | _ => exact x.elim
  | .P i m, d, v, f, x, a, ha => by
    cases d with
    | tup ds =>
      obtain ⟨b, vs, e1, e2, e3, t, d, v, e4, e5, p⟩ := x
      exact RepM.ex m d v f p a ha
    | _ => exact x.elim

/-- what is known of nothing -/
def Mo.live : Mo → Bool
  | .U => false
  | .S => true
  | .Q => false
  | .O m => m.live
  | .B m => m.live
  | .P _ m => m.live
/-- the footprint's objects, shared from now on -/
def noT : Option HO → Option HO
  | some (.tbl _) => none
  | o => o
theorem noT_some {x : Option HO} {o : HO} (h : noT x = some o) : x = some o ∧ NT o := by
  unfold noT at h
  split at h
  · cases h
  · rename_i hn
    exact ⟨h, fun ps z => hn ps (by rw [h, z])⟩
theorem noT_of {o : HO} (h : NT o) : noT (some o) = some o := by
  unfold noT
  split
  · rename_i ps e
    cases e
    exact (h _ rfl).elim
  · rfl
def frz (R H : Hp) (f : List Addr) : Hp := fun a => if a ∈ f then noT (H a) else R a
theorem frz_nil : frz R H [] = R := by funext a; simp [frz]
theorem frz_sub {f : List Addr} (h : ∀ a ∈ f, R a = none) : Sub R (frz R H f) := fun a o e => by
  unfold frz
  rw [if_neg (fun q => by rw [h a q] at e; cases e)]
  exact e
theorem frz_le {f : List Addr} (s : Sub R H) : Sub (frz R H f) H := fun a o e => by
  unfold frz at e
  split at e
  · exact (noT_some e).1
  · exact s _ _ e
theorem frz_in {f : List Addr} {a : Addr} {o : HO} (h : a ∈ f) (n : NT o) (e : H a = some o) : frz R H f a = some o := by
  unfold frz; rw [if_pos h, e]; exact noT_of n
theorem frz_nt {f : List Addr} (h : ∀ a ps, R a ≠ some (.tbl ps)) : ∀ a ps, frz R H f a ≠ some (.tbl ps) := fun a ps z => by
  unfold frz at z
  split at z
  · exact (noT_some z).2 ps rfl
  · exact h a ps z
theorem frz_none {f : List Addr} {a : Addr} (h : a ∉ f) (e : R a = none) : frz R H f a = none := by
  unfold frz; rw [if_neg h]; exact e
theorem reps_of {R' : Hp} {P : DVF} : ∀ {ds : List D} {vs : List V} {f : List Addr}, (∀ d v g, (∀ a ∈ g, a ∈ f) → P d v g → Rep κ.K κ.C R' d v) → RepL P ds vs f → Reps κ.K κ.C R' ds vs
  | [], _, _, _, x => by rw [x.1]; exact Reps.nil
  | d :: ds, vs, f, h, x => by
    obtain ⟨v, r, f1, f2, e1, e2, p, t⟩ := x
    subst e1 e2
    exact Reps.cons (h _ _ _ (fun a ha => List.mem_append_left _ ha) p) (reps_of (fun d v g hg => h d v g fun a ha => List.mem_append_right _ (hg a ha)) t)
theorem repK_of {R' : Hp} {P : DVF} : ∀ {ds : List (Key × D)} {vs : List (Key × V)} {f : List Addr}, (∀ d v g, (∀ a ∈ g, a ∈ f) → P d v g → Rep κ.K κ.C R' d v) → RepLK P ds vs f → RepK κ.K κ.C R' ds vs
  | [], _, _, _, x => by rw [x.1]; simp only [RepK]
  | (k, d) :: ds, vs, f, h, x => by
    obtain ⟨v, r, f1, f2, e1, e2, p, t⟩ := x
    subst e1 e2
    simp only [RepK]
    exact ⟨v, r, rfl, h _ _ _ (fun a ha => List.mem_append_left _ ha) p, repK_of (fun d v g hg => h d v g fun a ha => List.mem_append_right _ (hg a ha)) t⟩
theorem repF_of {R' : Hp} {P : DVF} : ∀ {ds : List (Str × D)} {vs : List (Str × V)} {f : List Addr}, (∀ d v g, (∀ a ∈ g, a ∈ f) → P d v g → Rep κ.K κ.C R' d v) → RepLK P ds vs f → RepF κ.K κ.C R' ds vs
  | [], _, _, _, x => by rw [x.1]; simp only [RepF]
  | (k, d) :: ds, vs, f, h, x => by
    obtain ⟨v, r, f1, f2, e1, e2, p, t⟩ := x
    subst e1 e2
    simp only [RepF]
    exact ⟨v, r, rfl, h _ _ _ (fun a ha => List.mem_append_left _ ha) p, repF_of (fun d v g hg => h d v g fun a ha => List.mem_append_right _ (hg a ha)) t⟩
/-- told of any heap that has R and the footprint's objects -/
theorem RepM.rep {R' : Hp} (s : Sub R R') : ∀ (m : Mo) (d : D) (v : V) (f : List Addr), m.live = true → (∀ a ∈ f, ∀ o, NT o → H a = some o → R' a = some o) → RepM κ R H m d v f → Rep κ.K κ.C R' d v
  | .U, d, v, f, l, _, x => by cases l
  | .S, d, v, f, _, _, x => Rep.mono s d v x.2
  | .Q, d, v, f, l, _, x => by cases l
  | .B m, d, v, f, l, h, x => RepM.rep s m d v f l h x
  | .O m, d, v, f, l, h, x => by
    have ih := fun d v g (hg : ∀ a ∈ g, a ∈ f) => RepM.rep s m d v g l (fun a ha => h a (hg a ha))
    cases d with
    | lst ds =>
      obtain ⟨a, vs, g, e1, e2, e3, t⟩ := x
      subst e1 e3
      exact rep_lst (h a List.mem_cons_self _ (fun _ z => nomatch z) e2) (reps_of (fun d v k hk => ih d v k fun b hb => List.mem_cons_of_mem _ (hk b hb)) t)
    | dct ds =>
      obtain ⟨a, vs, g, e1, e2, e3, t⟩ := x
      subst e1 e3
      simp only [Rep]
      exact ⟨a, vs, rfl, h a List.mem_cons_self _ (fun _ z => nomatch z) e2, repK_of (fun d v k hk => ih d v k fun b hb => List.mem_cons_of_mem _ (hk b hb)) t⟩
    | obj c ds =>
      obtain ⟨a, dx, vs, g, e1, e2, e4, e3, t⟩ := x
      subst e1 e3
      simp only [Rep]
      exact ⟨a, dx, vs, rfl, h a List.mem_cons_self _ (fun _ z => nomatch z) e2, h dx (List.mem_cons_of_mem _ List.mem_cons_self) _ (fun _ z => nomatch z) e4, repF_of (fun d v k hk => ih d v k fun b hb => List.mem_cons_of_mem _ (List.mem_cons_of_mem _ (hk b hb))) t⟩
    | _ => exact x.elim
  | .P i m, d, v, f, l, h, x => by
    cases d with
    | tup ds =>
      obtain ⟨a, vs, e1, e2, e3, t, d, v, e4, e5, p⟩ := x
      subst e1
      have ih := RepM.rep s m d v f l h p
      refine rep_tup (sqT_mono s e2) ?_
      have all : ∀ (j : Nat) d v, ds[j]? = some d → vs[j]? = some v → Rep κ.K κ.C R' d v := fun j d' v' h1 h2 => by
        by_cases hj : j = i
        · subst hj; rw [e4] at h1; rw [e5] at h2; cases h1; cases h2; exact ih
        · exact Rep.mono s _ _ (t j d' v' hj h1 h2)
      clear t e4 e5 p ih e2
      induction ds generalizing vs with
      | nil =>
        cases vs with
        | nil => exact Reps.nil
        | cons _ _ => cases e3
      | cons d ds ih =>
        cases vs with
        | nil => cases e3
        | cons v vs => exact Reps.cons (all 0 d v rfl rfl) (ih vs (by simpa using e3) fun j d v h1 h2 => all (j + 1) d v (by simpa using h1) (by simpa using h2))
    | _ => exact x.elim

/-! ### the world -/
abbrev Fps := Nat → List Addr
def fset (f : Fps) (i : Nat) (g : List Addr) : Fps := fun j => if j = i then g else f j
theorem fset_same {f : Fps} {i : Nat} {g : List Addr} : fset f i g i = g := by simp [fset]
theorem fset_ne {f : Fps} {i j : Nat} {g : List Addr} (h : j ≠ i) : fset f i g j = f j := by simp [fset, h]
/-- a slot bears its data -/
def SlotR (κ : Kit) (R H : Hp) (m : Mo) (d : D) (x : Option (Option V)) (f : List Addr) : Prop :=
  if m = .U then f = [] else ∃ v, x = some (some v) ∧ RepM κ R H m d v f
structure Wd (κ : Kit) (R : Hp) (μ : List Mo) (ρ : List D) (σ : St) (H : Hp) (fps : Fps) : Prop where
  sub : Sub R H
  len1 : σ.length = μ.length
  len2 : ρ.length = μ.length
  rep : ∀ (i : Nat) m d, μ[i]? = some m → ρ[i]? = some d → SlotR κ R H m d σ[i]? (fps i)
  out : ∀ i, μ.length ≤ i → fps i = []
  dis1 : ∀ i, ∀ a ∈ fps i, R a = none
  dis2 : ∀ i j a, a ∈ fps i → a ∈ fps j → i = j
  nd : ∀ i, (fps i).Nodup
  tab : LamX.Tabs κ.T H
  tab1 : ∀ a ps, R a ≠ some (.tbl ps)
  tab2 : ∀ p ∈ κ.T, ∀ i, p.1 ∉ fps i
/-- what is neither shared nor owned here stays, and stays so -/
structure Ext (κ : Kit) (R H : Hp) (fps : Fps) (R' H' : Hp) (fps' : Fps) (tf : List Addr) : Prop where
  sub : Sub R R'
  frm : ∀ a o, H a = some o → R a = none → (∀ i, a ∉ fps i) → NT o → H' a = some o ∧ R' a = none ∧ (∀ i, a ∉ fps' i) ∧ a ∉ tf
/-- a value on the way, owned by nobody yet -/
structure Tmp (κ : Kit) (R : Hp) (fps : Fps) (tf : List Addr) : Prop where
  nd : tf.Nodup
  dis : ∀ a ∈ tf, R a = none ∧ (∀ i, a ∉ fps i) ∧ ∀ p ∈ κ.T, a ≠ p.1
theorem Tmp.nil {fps : Fps} : Tmp κ R fps [] := ⟨.nil, fun _ h => nomatch h⟩
theorem Ext.refl {fps : Fps} : Ext κ R H fps R H fps [] := ⟨Sub.refl _, fun a o e n f _ => ⟨e, n, f, by simp⟩⟩
theorem Ext.trans {R2 H2 : Hp} {fps fps1 fps2 : Fps} {tf : List Addr} (a : Ext κ R H fps R' H' fps1 []) (b : Ext κ R' H' fps1 R2 H2 fps2 tf) : Ext κ R H fps R2 H2 fps2 tf :=
  ⟨a.sub.trans b.sub, fun x o e n f t => let ⟨e1, n1, f1, _⟩ := a.frm x o e n f t; b.frm x o e1 n1 f1 t⟩
theorem Ext.newS {fps : Fps} {p : Addr} {o : HO} (s : Sub R H) (hp : H p = none) : Ext κ R H fps (upd R p o) (upd H p o) fps [] :=
  ⟨Sub.new (s.free hp), fun a u e n f _ => ⟨by rw [upd_ne (ne_of_none e hp)]; exact e, by rw [upd_ne (ne_of_none e hp)]; exact n, f, by simp⟩⟩
theorem Ext.newO {fps : Fps} {p : Addr} {o : HO} (hp : H p = none) : Ext κ R H fps R (upd H p o) fps [p] :=
  ⟨Sub.refl _, fun a u e n f _ => ⟨by rw [upd_ne (ne_of_none e hp)]; exact e, n, f, by simpa using ne_of_none e hp⟩⟩
/-- the value on the way is shared -/
theorem Ext.freeze {fps fps' : Fps} {tf : List Addr} (x : Ext κ R H fps R' H' fps' tf) (t : Tmp κ R' fps' tf) : Ext κ R H fps (frz R' H' tf) H' fps' [] :=
  ⟨x.sub.trans (frz_sub fun a ha => (t.dis a ha).1), fun a o e n f tt => let ⟨e1, n1, f1, n2⟩ := x.frm a o e n f tt; ⟨e1, frz_none n2 n1, f1, by simp⟩⟩
/-- .. is laid into a slot -/
theorem Ext.store {fps fps' : Fps} {tf : List Addr} {i : Nat} (x : Ext κ R H fps R' H' fps' tf) : Ext κ R H fps R' H' (fset fps' i tf) [] :=
  ⟨x.sub, fun a o e n f tt => let ⟨e1, n1, f1, n2⟩ := x.frm a o e n f tt; ⟨e1, n1, fun j => by
    by_cases hj : j = i
    · subst hj; rw [fset_same]; exact n2
    · rw [fset_ne hj]; exact f1 j, by simp⟩⟩
/-- .. is let go -/
theorem Ext.drop {fps fps' : Fps} {tf : List Addr} (x : Ext κ R H fps R' H' fps' tf) : Ext κ R H fps R' H' fps' [] :=
  ⟨x.sub, fun a o e n f tt => let ⟨e1, n1, f1, _⟩ := x.frm a o e n f tt; ⟨e1, n1, f1, by simp⟩⟩
theorem Ext.slots {fps fps' fps2 : Fps} {tf : List Addr} (x : Ext κ R H fps R' H' fps' tf) (h : ∀ i a, a ∈ fps2 i → ∃ j, a ∈ fps' j) : Ext κ R H fps R' H' fps2 tf :=
  ⟨x.sub, fun a o e n f tt => let ⟨e1, n1, f1, n2⟩ := x.frm a o e n f tt; ⟨e1, n1, fun i q => let ⟨j, z⟩ := h i a q; f1 j z, n2⟩⟩
section
variable {μ : List Mo} {ρ : List D} {σ : St} {fps : Fps}
theorem SlotR.mono {m : Mo} {d : D} {x : Option (Option V)} {f : List Addr} (s : Sub R R') (h : ∀ a ∈ f, ∀ o, NT o → H a = some o → H' a = some o) (r : SlotR κ R H m d x f) : SlotR κ R' H' m d x f := by
  unfold SlotR at *
  split
  · rename_i e; rw [if_pos e] at r; exact r
  · rename_i e; rw [if_neg e] at r
    obtain ⟨v, e1, r⟩ := r
    exact ⟨v, e1, RepM.mono s m d v f h r⟩
theorem SlotR.ex {m : Mo} {d : D} {x : Option (Option V)} {f : List Addr} (r : SlotR κ R H m d x f) : ∀ a ∈ f, ∃ o, H a = some o ∧ NT o := by
  unfold SlotR at r
  split at r
  · rw [r]; intro a ha; cases ha
  · obtain ⟨v, e1, r⟩ := r
    exact RepM.ex m d v f r
theorem Wd.slot (w : Wd κ R μ ρ σ H fps) {i : Nat} (h : i < μ.length) : ∃ m d, μ[i]? = some m ∧ ρ[i]? = some d ∧ SlotR κ R H m d σ[i]? (fps i) := by
  have h1 : μ[i]? = some μ[i] := List.getElem?_eq_getElem h
  have h2 : i < ρ.length := by rw [w.len2]; exact h
  have h3 : ρ[i]? = some ρ[i] := List.getElem?_eq_getElem h2
  exact ⟨_, _, h1, h3, w.rep i _ _ h1 h3⟩
/-- what a slot owns stands in the heap -/
theorem Wd.ex (w : Wd κ R μ ρ σ H fps) : ∀ i, ∀ a ∈ fps i, ∃ o, H a = some o ∧ NT o := fun i a ha => by
  by_cases h : i < μ.length
  · obtain ⟨m, d, _, _, r⟩ := w.slot h
    exact r.ex a ha
  · rw [w.out i (Nat.le_of_not_lt h)] at ha; cases ha
theorem Wd.get (w : Wd κ R μ ρ σ H fps) {i : Nat} {m : Mo} {d : D} (hm : μ[i]? = some m) (hd : ρ[i]? = some d) (hu : m ≠ .U) : ∃ v, σ[i]? = some (some v) ∧ RepM κ R H m d v (fps i) := by
  have r := w.rep i m d hm hd
  unfold SlotR at r
  rw [if_neg hu] at r
  exact r
/-- another heap that keeps what the slots lean on -/
theorem Wd.heap (w : Wd κ R μ ρ σ H fps) (s : Sub R R') (s' : Sub R' H') (k : ∀ i, ∀ a ∈ fps i, ∀ o, NT o → H a = some o → H' a = some o ∧ R' a = none) (t : LamX.Tabs κ.T H') (t1 : ∀ a ps, R' a ≠ some (.tbl ps)) : Wd κ R' μ ρ σ H' fps where
  sub := s'
  len1 := w.len1
  len2 := w.len2
  rep := fun i m d h1 h2 => (w.rep i m d h1 h2).mono s fun a ha o n e => (k i a ha o n e).1
  out := w.out
  dis1 := fun i a ha => let ⟨o, e, n⟩ := w.ex i a ha; (k i a ha o n e).2
  dis2 := w.dis2
  nd := w.nd
  tab := t
  tab1 := t1
  tab2 := w.tab2
theorem tabs_new {T : List (Addr × Str)} {p : Addr} {o : HO} (hp : H p = none) (t : LamX.Tabs T H) : LamX.Tabs T (upd H p o) := t.ext fun b u e => by rw [upd_ne (ne_of_none e hp)]; exact e
theorem tab_at {T : List (Addr × Str)} (t : LamX.Tabs T H) {p : Addr × Str} (hp : p ∈ T) : ∃ ps, H p.1 = some (.tbl ps) := let ⟨ps, e, _⟩ := t p hp; ⟨ps, e⟩
/-- a new object, shared -/
theorem Wd.newS (w : Wd κ R μ ρ σ H fps) {p : Addr} {o : HO} (hp : H p = none) (no : NT o := by intro _ z; cases z) : Wd κ (upd R p o) μ ρ σ (upd H p o) fps := by
  refine w.heap (Sub.new (w.sub.free hp)) (fun a u e => ?_) (fun i a ha u _ e => ?_) (tabs_new hp w.tab) fun q ps z => ?_
  · by_cases h : a = p
    · subst h; rw [upd_same] at *; exact e
    · rw [upd_ne h] at *; exact w.sub _ _ e
  · have n := ne_of_none e hp
    exact ⟨by rw [upd_ne n]; exact e, by rw [upd_ne n]; exact w.dis1 i a ha⟩
  · by_cases h : q = p
    · subst h; rw [upd_same] at z; exact no ps (Option.some.inj z)
    · rw [upd_ne h] at z; exact w.tab1 q ps z
/-- a new object, owned by nobody yet -/
theorem Wd.newO (w : Wd κ R μ ρ σ H fps) {p : Addr} {o : HO} (hp : H p = none) : Wd κ R μ ρ σ (upd H p o) fps := by
  refine w.heap (Sub.refl _) (fun a u e => ?_) (fun i a ha u _ e => ?_) (tabs_new hp w.tab) w.tab1
  · rw [upd_ne (ne_of_none (w.sub _ _ e) hp)]; exact w.sub _ _ e
  · exact ⟨by rw [upd_ne (ne_of_none e hp)]; exact e, w.dis1 i a ha⟩
theorem Tmp.new (w : Wd κ R μ ρ σ H fps) {p : Addr} (hp : H p = none) : Tmp κ R fps [p] := by
  refine ⟨by simp, fun a ha => ?_⟩
  have e : a = p := by simpa using ha
  subst e
  refine ⟨w.sub.free hp, fun i q => ?_, fun q hq z => ?_⟩
  · obtain ⟨o, e, _⟩ := w.ex i a q
    rw [hp] at e; cases e
  · obtain ⟨ps, e⟩ := tab_at w.tab hq
    rw [← z, hp] at e; cases e
/-- the value on the way is shared -/
theorem Wd.freeze (w : Wd κ R μ ρ σ H fps) {tf : List Addr} (t : Tmp κ R fps tf) : Wd κ (frz R H tf) μ ρ σ H fps := by
  refine w.heap (frz_sub fun a ha => (t.dis a ha).1) (frz_le w.sub) (fun i a ha u _ e => ⟨e, frz_none (fun z => (t.dis a z).2.1 i ha) (w.dis1 i a ha)⟩) w.tab (frz_nt w.tab1)
theorem RepM.frz {m : Mo} {d : D} {v : V} {tf : List Addr} (l : m.live = true) (n : ∀ a ∈ tf, R a = none) (r : RepM κ R H m d v tf) : Rep κ.K κ.C (VL.frz R H tf) d v :=
  RepM.rep (frz_sub n) m d v tf l (fun a ha o n e => frz_in ha n e) r
/-- a slot takes a value -/
theorem Wd.store (w : Wd κ R μ ρ σ H fps) {i : Nat} {m : Mo} {d : D} {v : V} {tf : List Addr} (hi : i < μ.length) (r : RepM κ R H m d v tf) (t : Tmp κ R fps tf) : Wd κ R (μ.set i m) (ρ.set i d) (σ.set i (some v)) H (fset fps i tf) where
  sub := w.sub
  len1 := by rw [List.length_set, List.length_set]; exact w.len1
  len2 := by rw [List.length_set, List.length_set]; exact w.len2
  rep := fun j m' d' h1 h2 => by
    by_cases hj : j = i
    · subst hj
      rw [List.getElem?_set_self (by omega)] at h1
      rw [List.getElem?_set_self (by rw [w.len2]; omega)] at h2
      cases h1; cases h2
      rw [fset_same, List.getElem?_set_self (by rw [w.len1]; omega)]
      unfold SlotR
      split
      · rename_i e; subst e; exact r
      · exact ⟨v, rfl, r⟩
    · rw [List.getElem?_set_ne (Ne.symm hj)] at h1 h2
      rw [fset_ne hj, List.getElem?_set_ne (Ne.symm hj)]
      exact w.rep j m' d' h1 h2
  out := fun j hj => by
    rw [List.length_set] at hj
    rw [fset_ne (by omega)]
    exact w.out j hj
  dis1 := fun j a ha => by
    by_cases hj : j = i
    · subst hj; rw [fset_same] at ha; exact (t.dis a ha).1
    · rw [fset_ne hj] at ha; exact w.dis1 j a ha
  dis2 := fun j k a ha hb => by
    by_cases hj : j = i
    · by_cases hk : k = i
      · rw [hj, hk]
      · subst hj; rw [fset_same] at ha; rw [fset_ne hk] at hb; exact ((t.dis a ha).2.1 k hb).elim
    · by_cases hk : k = i
      · subst hk; rw [fset_same] at hb; rw [fset_ne hj] at ha; exact ((t.dis a hb).2.1 j ha).elim
      · rw [fset_ne hj] at ha; rw [fset_ne hk] at hb; exact w.dis2 j k a ha hb
  nd := fun j => by
    by_cases hj : j = i
    · subst hj; rw [fset_same]; exact t.nd
    · rw [fset_ne hj]; exact w.nd j
  tab := w.tab
  tab1 := w.tab1
  tab2 := fun p hp j hj => by
    by_cases hji : j = i
    · subst hji; rw [fset_same] at hj; exact (t.dis _ hj).2.2 p hp rfl
    · rw [fset_ne hji] at hj; exact w.tab2 p hp j hj
/-- a slot's object is shared from now on -/
theorem Wd.share (w : Wd κ R μ ρ σ H fps) {i : Nat} {m : Mo} (hm : μ[i]? = some m) (l : m.live = true) (hu : m ≠ .U) : Wd κ (frz R H (fps i)) (μ.set i .S) ρ σ H (fset fps i []) where
  sub := frz_le w.sub
  len1 := by rw [List.length_set]; exact w.len1
  len2 := by rw [List.length_set]; exact w.len2
  rep := fun j m' d' h1 h2 => by
    have hi := (List.getElem?_eq_some_iff.mp hm).1
    by_cases hj : j = i
    · subst hj
      rw [List.getElem?_set_self (by omega)] at h1
      cases h1
      obtain ⟨v, e, r⟩ := w.get hm h2 hu
      rw [fset_same]
      unfold SlotR
      rw [if_neg (by decide)]
      exact ⟨v, e, rfl, r.frz l (w.dis1 j)⟩
    · rw [List.getElem?_set_ne (Ne.symm hj)] at h1
      rw [fset_ne hj]
      exact (w.rep j m' d' h1 h2).mono (frz_sub (w.dis1 i)) fun a _ o _ e => e
  out := fun j hj => by
    have hi := (List.getElem?_eq_some_iff.mp hm).1
    rw [List.length_set] at hj
    rw [fset_ne (by omega)]
    exact w.out j hj
  dis1 := fun j a ha => by
    by_cases hj : j = i
    · subst hj; rw [fset_same] at ha; cases ha
    · rw [fset_ne hj] at ha; exact frz_none (fun z => hj (w.dis2 j i a ha z)) (w.dis1 j a ha)
  dis2 := fun j k a ha hb => by
    by_cases hj : j = i
    · subst hj; rw [fset_same] at ha; cases ha
    · by_cases hk : k = i
      · subst hk; rw [fset_same] at hb; cases hb
      · rw [fset_ne hj] at ha; rw [fset_ne hk] at hb; exact w.dis2 j k a ha hb
  nd := fun j => by
    by_cases hj : j = i
    · subst hj; rw [fset_same]; exact .nil
    · rw [fset_ne hj]; exact w.nd j
  tab := w.tab
  tab1 := frz_nt w.tab1
  tab2 := fun p hp j hj => by
    by_cases hji : j = i
    · subst hji; rw [fset_same] at hj; cases hj
    · rw [fset_ne hji] at hj; exact w.tab2 p hp j hj
theorem Ext.share (w : Wd κ R μ ρ σ H fps) {i : Nat} : Ext κ R H fps (frz R H (fps i)) H (fset fps i []) [] :=
  ⟨frz_sub (w.dis1 i), fun a o e n f _ => ⟨e, frz_none (f i) n, fun j z => by
    by_cases hj : j = i
    · subst hj; rw [fset_same] at z; cases z
    · rw [fset_ne hj] at z; exact f j z, by simp⟩⟩
/-- a slot is forgotten (its data may be told otherwise) -/
theorem Wd.forget (w : Wd κ R μ ρ σ H fps) (i : Nat) (d : D) : Wd κ R (μ.set i .U) (ρ.set i d) σ H (fset fps i []) where
  sub := w.sub
  len1 := by rw [List.length_set]; exact w.len1
  len2 := by rw [List.length_set, List.length_set]; exact w.len2
  rep := fun j m' d' h1 h2 => by
    by_cases hj : j = i
    · subst hj
      have hi := (List.getElem?_eq_some_iff.mp h1).1
      rw [List.length_set] at hi
      rw [List.getElem?_set_self (by omega)] at h1
      cases h1
      rw [fset_same]
      unfold SlotR
      rw [if_pos rfl]
    · rw [List.getElem?_set_ne (Ne.symm hj)] at h1 h2
      rw [fset_ne hj]
      exact w.rep j m' d' h1 h2
  out := fun j hj => by
    rw [List.length_set] at hj
    by_cases hji : j = i
    · subst hji; rw [fset_same]
    · rw [fset_ne hji]; exact w.out j hj
  dis1 := fun j a ha => by
    by_cases hj : j = i
    · subst hj; rw [fset_same] at ha; cases ha
    · rw [fset_ne hj] at ha; exact w.dis1 j a ha
  dis2 := fun j k a ha hb => by
    by_cases hj : j = i
    · subst hj; rw [fset_same] at ha; cases ha
    · by_cases hk : k = i
      · subst hk; rw [fset_same] at hb; cases hb
      · rw [fset_ne hj] at ha; rw [fset_ne hk] at hb; exact w.dis2 j k a ha hb
  nd := fun j => by
    by_cases hj : j = i
    · subst hj; rw [fset_same]; exact .nil
    · rw [fset_ne hj]; exact w.nd j
  tab := w.tab
  tab1 := w.tab1
  tab2 := fun p hp j hj => by
    by_cases hji : j = i
    · subst hji; rw [fset_same] at hj; cases hj
    · rw [fset_ne hji] at hj; exact w.tab2 p hp j hj
theorem Ext.forget {fps' : Fps} {tf : List Addr} {i : Nat} (x : Ext κ R H fps R' H' fps' tf) : Ext κ R H fps R' H' (fset fps' i []) tf := x.slots fun j a ha => by
  by_cases hj : j = i
  · subst hj; rw [fset_same] at ha; cases ha
  · rw [fset_ne hj] at ha; exact ⟨j, ha⟩
/-- the value on the way stays through a step -/
theorem RepM.step {R2 H2 : Hp} {fps2 : Fps} {tf tf2 : List Addr} {m : Mo} {d : D} {v : V} (r : RepM κ R H m d v tf) (t : Tmp κ R fps tf) (x : Ext κ R H fps R2 H2 fps2 tf2) : RepM κ R2 H2 m d v tf ∧ Tmp κ R2 fps2 tf ∧ ∀ a ∈ tf, a ∉ tf2 := by
  have k : ∀ a ∈ tf, ∀ o, NT o → H a = some o → H2 a = some o ∧ R2 a = none ∧ (∀ i, a ∉ fps2 i) ∧ a ∉ tf2 := fun a ha o n e => x.frm a o e (t.dis a ha).1 (t.dis a ha).2.1 n
  refine ⟨RepM.mono x.sub m d v tf (fun a ha o n e => (k a ha o n e).1) r, ⟨t.nd, fun a ha => ?_⟩, fun a ha => ?_⟩
  · obtain ⟨o, e, n⟩ := RepM.ex m d v tf r a ha
    exact ⟨(k a ha o n e).2.1, (k a ha o n e).2.2.1, (t.dis a ha).2.2⟩
  · obtain ⟨o, e, n⟩ := RepM.ex m d v tf r a ha
    exact (k a ha o n e).2.2.2
end
end
end VL

namespace VL
open PySem L2

/-! ### what a piece of a program does to the data of the slots -/
inductive Out (α : Type) where
  | ok (a : α) (ρ : List D)
  | err (c : Str) (ρ : List D)
  | stuck
abbrev M (α : Type) := List D → Out α
def ret {α : Type} (a : α) : M α := fun ρ => .ok a ρ
def bnd {α β : Type} (x : M α) (f : α → M β) : M β := fun ρ => match x ρ with
  | .ok a ρ' => f a ρ'
  | .err c ρ' => .err c ρ'
  | .stuck => .stuck
def opt {α : Type} (o : Option α) : M α := fun ρ => match o with
  | some a => .ok a ρ
  | none => .stuck
inductive Fl where
  | nx | brk | cont | ret (d : D)

/-! ### the still parts of a context -/
structure Sta where
  prog : Program
  w : World
  κ : Kit
  mg : Str → Option Value
  base : Heap
  N : List Str
  sc : Scope
  k : Nat
  ec : Str → Value
  top : Bool
  gd : Bool
  fnn : Str → Bool
  lm : Option (Str × Addr)
structure Conf (S : Sta) (W : WX) (X : Cx) : Prop where
  shape : ∃ A s0 H0 env outer stack ex fn pn xe, X = ⟨S.prog, S.w, S.κ.K, S.mg, S.base, A, S.N, s0, H0, env, outer, stack, ex, fn, true, pn, xe⟩
  sc : X.env.scope = S.sc
  nd : S.N.Nodup
  room : Room S.k X.A
  fn : ∀ x, S.fnn x = true → X.fn x = true
  own : PassesOwn (model X.prog X.w) X.A X.env X.xe
  tk : Takes X W
  top : S.top = true → X.stack = X.env :: X.outer ∧ X.env.frame = some X.env.locals
  gd : S.gd = true → X.A.guards = some []
  lm : ∀ q c, S.lm = some (q, c) → X.env.qual = q ∧ X.env.code = .ref c
def isB : Mo → Bool
  | .B _ => true
  | _ => false
def bOnly (μ : List Mo) : List Mo := μ.map fun m => if isB m then m else .U
def SameB (μ : List Mo) (σ σ' : St) : Prop := ∀ (i : Nat) m, μ[i]? = some (.B m) → σ'[i]? = σ[i]?

/-! ### what is wanted behind a piece -/
def PostE (S : Sta) (μ : List Mo) (m : Mo) (μ' : List Mo) (R H : Hp) (σ : St) (fps : Fps) (W : WX) (Q : VK) : Out D → Prop
  | .ok d ρ' => ∀ v R' H' fps' tf, Wd S.κ R' μ' ρ' σ H' fps' → RepM S.κ R' H' m d v tf → Tmp S.κ R' fps' tf → Ext S.κ R H fps R' H' fps' tf → Q v H'
  | .err c ρ' => ∀ R' H' fps', Wd S.κ R' (bOnly μ) ρ' σ H' fps' → Ext S.κ R H fps R' H' fps' [] → W (S.ec c) none σ H'
  | .stuck => False
def PostT {α : Type} (S : Sta) (μ : List Mo) (R H : Hp) (σ : St) (fps : Fps) (W : WX) (Q : α → Hp → Prop) : Out α → Prop
  | .ok b ρ' => ∀ R' H' fps', Wd S.κ R' μ ρ' σ H' fps' → Ext S.κ R H fps R' H' fps' [] → Q b H'
  | .err c ρ' => ∀ R' H' fps', Wd S.κ R' (bOnly μ) ρ' σ H' fps' → Ext S.κ R H fps R' H' fps' [] → W (S.ec c) none σ H'
  | .stuck => False
def PostA (S : Sta) (μ μ' : List Mo) (R H : Hp) (σ : St) (fps : Fps) (W : WX) (Q : List V → Hp → Prop) : Out (List D) → Prop
  | .ok ds ρ' => ∀ vs R' H' fps', Wd S.κ R' μ' ρ' σ H' fps' → Reps S.κ.K S.κ.C R' ds vs → Ext S.κ R H fps R' H' fps' [] → Q vs H'
  | .err c ρ' => ∀ R' H' fps', Wd S.κ R' (bOnly μ) ρ' σ H' fps' → Ext S.κ R H fps R' H' fps' [] → W (S.ec c) none σ H'
  | .stuck => False
structure Jmp where
  mr : Mo
  μb : List Mo
  μc : List Mo
def PostS (S : Sta) (J : Jmp) (μ : List Mo) (μ' : List Mo) (R H : Hp) (σ : St) (fps : Fps) (W : WX) (E : Ends) : Out Fl → Prop
  | .ok .nx ρ' => ∀ σ' R' H' fps', Wd S.κ R' μ' ρ' σ' H' fps' → Ext S.κ R H fps R' H' fps' [] → SameB μ σ σ' → E.nx σ' H'
  | .ok .brk ρ' => ∀ σ' R' H' fps', Wd S.κ R' J.μb ρ' σ' H' fps' → Ext S.κ R H fps R' H' fps' [] → SameB μ σ σ' → E.bk σ' H'
  | .ok .cont ρ' => ∀ σ' R' H' fps', Wd S.κ R' J.μc ρ' σ' H' fps' → Ext S.κ R H fps R' H' fps' [] → SameB μ σ σ' → E.ct σ' H'
  | .ok (.ret d) ρ' => ∀ v σ' R' H' fps' tf, Wd S.κ R' (bOnly μ) ρ' σ' H' fps' → RepM S.κ R' H' J.mr d v tf → Tmp S.κ R' fps' tf → Ext S.κ R H fps R' H' fps' tf → SameB μ σ σ' → E.rt v H'
  | .err c ρ' => ∀ σ' R' H' fps', Wd S.κ R' (bOnly μ) ρ' σ' H' fps' → Ext S.κ R H fps R' H' fps' [] → SameB μ σ σ' → W (S.ec c) none σ' H'
  | .stuck => False
structure DE (S : Sta) (μ : List Mo) (e : Expr) (m : Mo) (μ' : List Mo) (F : M D) : Prop where
  bo : bOnly μ' = bOnly μ
  ex : ∃ te : WX → TE, (∀ W X, Conf S W X → PE X e (te W)) ∧ ∀ W R H σ ρ fps Q, Wd S.κ R μ ρ σ H fps → PostE S μ m μ' R H σ fps W Q (F ρ) → te W σ H Q
structure DT (S : Sta) (μ : List Mo) (e : Expr) (F : M Bool) : Prop where
  ex : ∃ te : WX → TT, (∀ W X, Conf S W X → PT X e (te W)) ∧ ∀ W R H σ ρ fps Q, Wd S.κ R μ ρ σ H fps → PostT S μ R H σ fps W Q (F ρ) → te W σ H Q
structure DW (S : Sta) (μ : List Mo) (e : Expr) (F : M Bool) : Prop where
  ex : ∃ te : WX → TT, (∀ W X, Conf S W X → PW X e (te W)) ∧ ∀ W R H σ ρ fps Q, Wd S.κ R μ ρ σ H fps → PostT S μ R H σ fps W Q (F ρ) → te W σ H Q
structure DA (S : Sta) (μ : List Mo) (es : List Expr) (μ' : List Mo) (F : M (List D)) : Prop where
  bo : bOnly μ' = bOnly μ
  ex : ∃ te : WX → TA, (∀ W X, Conf S W X → PA X es (te W)) ∧ ∀ W R H σ ρ fps Q, Wd S.κ R μ ρ σ H fps → PostA S μ μ' R H σ fps W Q (F ρ) → te W σ H Q
structure DS (S : Sta) (J : Jmp) (μ : List Mo) (st : Stmt) (μ' : List Mo) (F : M Fl) : Prop where
  bo : bOnly μ' = bOnly μ
  ex : ∃ te : WX → TS, (∀ W X, Conf S W X → PS X st (te W)) ∧ ∀ W R H σ ρ fps E, Wd S.κ R μ ρ σ H fps → PostS S J μ μ' R H σ fps W E (F ρ) → te W E σ H
structure DB (S : Sta) (J : Jmp) (μ : List Mo) (st : List Stmt) (μ' : List Mo) (F : M Fl) : Prop where
  bo : bOnly μ' = bOnly μ
  ex : ∃ te : WX → TS, (∀ W X, Conf S W X → PSs X st (te W)) ∧ ∀ W R H σ ρ fps E, Wd S.κ R μ ρ σ H fps → PostS S J μ μ' R H σ fps W E (F ρ) → te W E σ H

section
variable {S : Sta} {μ μ1 μ2 μ' : List Mo} {R H R' H' R1 H1 : Hp} {σ : St} {fps fps' fps1 : Fps} {W : WX} {Q : VK} {m m1 : Mo} {ρ ρ' ρ1 : List D}
/-- a first piece of data, then the rest -/
theorem PostE.bind {x : M D} {f : D → M D} {Q1 : VK} (h : PostE S μ m μ' R H σ fps W Q (bnd x f ρ))
    (k : ∀ d ρ1, PostE S μ m μ' R H σ fps W Q (f d ρ1) → ∀ v R' H' fps' tf, Wd S.κ R' μ1 ρ1 σ H' fps' → RepM S.κ R' H' m1 d v tf → Tmp S.κ R' fps' tf → Ext S.κ R H fps R' H' fps' tf → Q1 v H') :
    PostE S μ m1 μ1 R H σ fps W Q1 (x ρ) := by
  unfold bnd at h
  cases e : x ρ with
  | ok d ρ1 => rw [e] at h; exact k d ρ1 h
  | err c ρ1 => rw [e] at h; exact h
  | stuck => rw [e] at h; exact h
theorem PostE.bindS {x : M D} {f : D → M D} {Q1 : VK} (h : PostE S μ m μ' R H σ fps W Q (bnd x f ρ))
    (k : ∀ d ρ1, PostE S μ m μ' R H σ fps W Q (f d ρ1) → ∀ v R' H' fps', Wd S.κ R' μ1 ρ1 σ H' fps' → Rep S.κ.K S.κ.C R' d v → Ext S.κ R H fps R' H' fps' [] → Q1 v H') :
    PostE S μ .S μ1 R H σ fps W Q1 (x ρ) :=
  h.bind fun d ρ1 h v R' H' fps' tf w r t x => by
    obtain ⟨e, r⟩ := r
    subst e
    exact k d ρ1 h v R' H' fps' w r x
theorem PostE.bindT {α : Type} {x : M α} {f : α → M D} {Q1 : α → Hp → Prop} (h : PostE S μ m μ' R H σ fps W Q (bnd x f ρ))
    (k : ∀ b ρ1, PostE S μ m μ' R H σ fps W Q (f b ρ1) → ∀ R' H' fps', Wd S.κ R' μ ρ1 σ H' fps' → Ext S.κ R H fps R' H' fps' [] → Q1 b H') :
    PostT S μ R H σ fps W Q1 (x ρ) := by
  unfold bnd at h
  cases e : x ρ with
  | ok d ρ1 => rw [e] at h; exact k d ρ1 h
  | err c ρ1 => rw [e] at h; exact h
  | stuck => rw [e] at h; exact h
theorem PostE.bindA {x : M (List D)} {f : List D → M D} {Q1 : List V → Hp → Prop} (h : PostE S μ m μ' R H σ fps W Q (bnd x f ρ))
    (k : ∀ ds ρ1, PostE S μ m μ' R H σ fps W Q (f ds ρ1) → ∀ vs R' H' fps', Wd S.κ R' μ1 ρ1 σ H' fps' → Reps S.κ.K S.κ.C R' ds vs → Ext S.κ R H fps R' H' fps' [] → Q1 vs H') :
    PostA S μ μ1 R H σ fps W Q1 (x ρ) := by
  unfold bnd at h
  cases e : x ρ with
  | ok d ρ1 => rw [e] at h; exact k d ρ1 h
  | err c ρ1 => rw [e] at h; exact h
  | stuck => rw [e] at h; exact h
/-- from a later state -/
theorem PostE.later {o : Out D} (h : PostE S μ m μ' R H σ fps W Q o) (x : Ext S.κ R H fps R1 H1 fps1 []) (b : bOnly μ1 = bOnly μ) : PostE S μ1 m μ' R1 H1 σ fps1 W Q o := by
  cases o with
  | ok d ρ' => exact fun v R' H' fps' tf w r t y => h v R' H' fps' tf w r t (x.trans y)
  | err c ρ' => exact fun R' H' fps' w y => h R' H' fps' (b ▸ w) (x.trans y)
  | stuck => exact h
theorem PostT.later {α : Type} {o : Out α} {Q : α → Hp → Prop} (h : PostT S μ R H σ fps W Q o) (x : Ext S.κ R H fps R1 H1 fps1 []) : PostT S μ R1 H1 σ fps1 W Q o := by
  cases o with
  | ok d ρ' => exact fun R' H' fps' w y => h R' H' fps' w (x.trans y)
  | err c ρ' => exact fun R' H' fps' w y => h R' H' fps' w (x.trans y)
  | stuck => exact h
theorem PostA.later {o : Out (List D)} {Q : List V → Hp → Prop} (h : PostA S μ μ' R H σ fps W Q o) (x : Ext S.κ R H fps R1 H1 fps1 []) (b : bOnly μ1 = bOnly μ) : PostA S μ1 μ' R1 H1 σ fps1 W Q o := by
  cases o with
  | ok d ρ' => exact fun vs R' H' fps' w r y => h vs R' H' fps' w r (x.trans y)
  | err c ρ' => exact fun R' H' fps' w y => h R' H' fps' (b ▸ w) (x.trans y)
  | stuck => exact h
theorem sameB_of {σ' : St} (h : ∀ (i : Nat) m, (bOnly μ)[i]? = some (.B m) → σ'[i]? = σ[i]?) : SameB μ σ σ' := fun i m e => h i m (by simp [bOnly, e, isB])
theorem bOnly_B {i : Nat} {m : Mo} (h : (bOnly μ)[i]? = some (.B m)) : μ[i]? = some (.B m) := by
  simp only [bOnly, List.getElem?_map, Option.map_eq_some_iff] at h
  obtain ⟨x, e, h⟩ := h
  split at h
  · rw [e, h]
  · cases h
theorem bOnly_eq {i : Nat} {m : Mo} (b : bOnly μ1 = bOnly μ) (h : μ[i]? = some (.B m)) : μ1[i]? = some (.B m) := bOnly_B (by rw [b]; simp [bOnly, h, isB])
theorem SameB.refl : SameB μ σ σ := fun _ _ _ => rfl
theorem SameB.trans {σ1 σ2 : St} (a : SameB μ σ σ1) (b : SameB μ1 σ1 σ2) (h : bOnly μ1 = bOnly μ) : SameB μ σ σ2 := fun i m e => (b i m (bOnly_eq h e)).trans (a i m e)
theorem PostS.later {o : Out Fl} {J : Jmp} {E : Ends} {σ1 : St} (h : PostS S J μ μ' R H σ fps W E o) (x : Ext S.κ R H fps R1 H1 fps1 []) (b : bOnly μ1 = bOnly μ) (sb : SameB μ σ σ1) : PostS S J μ1 μ' R1 H1 σ1 fps1 W E o := by
  cases o with
  | ok f ρ' =>
    cases f with
    | nx => exact fun σ' R' H' fps' w y s => h σ' R' H' fps' w (x.trans y) (sb.trans s b)
    | brk => exact fun σ' R' H' fps' w y s => h σ' R' H' fps' w (x.trans y) (sb.trans s b)
    | cont => exact fun σ' R' H' fps' w y s => h σ' R' H' fps' w (x.trans y) (sb.trans s b)
    | ret d => exact fun v σ' R' H' fps' tf w r t y s => h v σ' R' H' fps' tf (b ▸ w) r t (x.trans y) (sb.trans s b)
  | err c ρ' => exact fun σ' R' H' fps' w y s => h σ' R' H' fps' (b ▸ w) (x.trans y) (sb.trans s b)
  | stuck => exact h
theorem PostE.opt' {o : Option D} (h : PostE S μ m μ' R H σ fps W Q (opt o ρ)) : ∃ d, o = some d ∧ PostE S μ m μ' R H σ fps W Q (.ok d ρ) := by
  cases o with
  | none => exact h.elim
  | some d => exact ⟨d, rfl, h⟩
theorem PostT.bind {α β : Type} {x : M α} {f : α → M β} {Q : β → Hp → Prop} {Q1 : α → Hp → Prop} (h : PostT S μ R H σ fps W Q (bnd x f ρ))
    (k : ∀ b ρ1, PostT S μ R H σ fps W Q (f b ρ1) → ∀ R' H' fps', Wd S.κ R' μ ρ1 σ H' fps' → Ext S.κ R H fps R' H' fps' [] → Q1 b H') :
    PostT S μ R H σ fps W Q1 (x ρ) := by
  unfold bnd at h
  cases e : x ρ with
  | ok d ρ1 => rw [e] at h; exact k d ρ1 h
  | err c ρ1 => rw [e] at h; exact h
  | stuck => rw [e] at h; exact h
theorem PostT.bindS {β : Type} {x : M D} {f : D → M β} {Q : β → Hp → Prop} {Q1 : VK} (h : PostT S μ R H σ fps W Q (bnd x f ρ))
    (k : ∀ d ρ1, PostT S μ R H σ fps W Q (f d ρ1) → ∀ v R' H' fps', Wd S.κ R' μ1 ρ1 σ H' fps' → Rep S.κ.K S.κ.C R' d v → Ext S.κ R H fps R' H' fps' [] → Q1 v H') :
    PostE S μ .S μ1 R H σ fps W Q1 (x ρ) := by
  unfold bnd at h
  cases e : x ρ with
  | ok d ρ1 =>
    rw [e] at h
    intro v R' H' fps' tf w r t x
    obtain ⟨er, r⟩ := r
    subst er
    exact k d ρ1 h v R' H' fps' w r x
  | err c ρ1 => rw [e] at h; exact h
  | stuck => rw [e] at h; exact h
theorem PostA.bindS {x : M D} {f : D → M (List D)} {Q : List V → Hp → Prop} {Q1 : VK} (h : PostA S μ μ' R H σ fps W Q (bnd x f ρ))
    (k : ∀ d ρ1, PostA S μ μ' R H σ fps W Q (f d ρ1) → ∀ v R' H' fps', Wd S.κ R' μ1 ρ1 σ H' fps' → Rep S.κ.K S.κ.C R' d v → Ext S.κ R H fps R' H' fps' [] → Q1 v H') :
    PostE S μ .S μ1 R H σ fps W Q1 (x ρ) := by
  unfold bnd at h
  cases e : x ρ with
  | ok d ρ1 =>
    rw [e] at h
    intro v R' H' fps' tf w r t x
    obtain ⟨er, r⟩ := r
    subst er
    exact k d ρ1 h v R' H' fps' w r x
  | err c ρ1 => rw [e] at h; exact h
  | stuck => rw [e] at h; exact h
theorem PostA.bind {x : M (List D)} {f : List D → M (List D)} {Q Q1 : List V → Hp → Prop} (h : PostA S μ μ' R H σ fps W Q (bnd x f ρ))
    (k : ∀ ds ρ1, PostA S μ μ' R H σ fps W Q (f ds ρ1) → ∀ vs R' H' fps', Wd S.κ R' μ1 ρ1 σ H' fps' → Reps S.κ.K S.κ.C R' ds vs → Ext S.κ R H fps R' H' fps' [] → Q1 vs H') :
    PostA S μ μ1 R H σ fps W Q1 (x ρ) := by
  unfold bnd at h
  cases e : x ρ with
  | ok d ρ1 => rw [e] at h; exact k d ρ1 h
  | err c ρ1 => rw [e] at h; exact h
  | stuck => rw [e] at h; exact h
theorem PostS.bind {x : M D} {f : D → M Fl} {J : Jmp} {E : Ends} {Q1 : VK} (h : PostS S J μ μ' R H σ fps W E (bnd x f ρ))
    (k : ∀ d ρ1, PostS S J μ μ' R H σ fps W E (f d ρ1) → ∀ v R' H' fps' tf, Wd S.κ R' μ1 ρ1 σ H' fps' → RepM S.κ R' H' m1 d v tf → Tmp S.κ R' fps' tf → Ext S.κ R H fps R' H' fps' tf → Q1 v H') :
    PostE S μ m1 μ1 R H σ fps W Q1 (x ρ) := by
  unfold bnd at h
  cases e : x ρ with
  | ok d ρ1 => rw [e] at h; exact k d ρ1 h
  | err c ρ1 => rw [e] at h; exact fun R' H' fps' w y => h σ R' H' fps' w y SameB.refl
  | stuck => rw [e] at h; exact h
theorem PostS.bindT {α : Type} {x : M α} {f : α → M Fl} {J : Jmp} {E : Ends} {Q1 : α → Hp → Prop} (h : PostS S J μ μ' R H σ fps W E (bnd x f ρ))
    (k : ∀ d ρ1, PostS S J μ μ' R H σ fps W E (f d ρ1) → ∀ R' H' fps', Wd S.κ R' μ ρ1 σ H' fps' → Ext S.κ R H fps R' H' fps' [] → Q1 d H') :
    PostT S μ R H σ fps W Q1 (x ρ) := by
  unfold bnd at h
  cases e : x ρ with
  | ok d ρ1 => rw [e] at h; exact k d ρ1 h
  | err c ρ1 => rw [e] at h; exact fun R' H' fps' w y => h σ R' H' fps' w y SameB.refl
  | stuck => rw [e] at h; exact h
theorem PostS.bindA {x : M (List D)} {f : List D → M Fl} {J : Jmp} {E : Ends} {Q1 : List V → Hp → Prop} (h : PostS S J μ μ' R H σ fps W E (bnd x f ρ))
    (k : ∀ ds ρ1, PostS S J μ μ' R H σ fps W E (f ds ρ1) → ∀ vs R' H' fps', Wd S.κ R' μ1 ρ1 σ H' fps' → Reps S.κ.K S.κ.C R' ds vs → Ext S.κ R H fps R' H' fps' [] → Q1 vs H') :
    PostA S μ μ1 R H σ fps W Q1 (x ρ) := by
  unfold bnd at h
  cases e : x ρ with
  | ok d ρ1 => rw [e] at h; exact k d ρ1 h
  | err c ρ1 => rw [e] at h; exact fun R' H' fps' w y => h σ R' H' fps' w y SameB.refl
  | stuck => rw [e] at h; exact h
end

/-! ### names, constants -/
section
variable {S : Sta} {μ : List Mo} {pos : Pos}
def eVar (i : Nat) : M D := fun ρ => match ρ[i]? with
  | some d => .ok d ρ
  | none => .stuck
theorem bOnly_set {i : Nat} {m m' : Mo} (h : μ[i]? = some m) (hb : isB m = false) (hb' : isB m' = false) : bOnly (μ.set i m') = bOnly μ := by
  unfold bOnly
  rw [List.map_set]
  apply List.ext_getElem?
  intro j
  by_cases hj : j = i
  · subst hj
    have hi := (List.getElem?_eq_some_iff.mp h).1
    rw [List.getElem?_set_self (by simpa using hi), List.getElem?_map, h]
    simp [hb, hb']
  · rw [List.getElem?_set_ne (Ne.symm hj)]
theorem vis_of {X : Cx} {x : Str} (e : X.env.scope = S.sc) (h : Vis S.sc x) : Vis X.env.scope x := by rw [e]; exact h
/-- a name whose data is shared -/
theorem de_name (i : Nat) {x : Str} (hm : μ[i]? = some .S := by rfl) (hN : S.N[i]? = some x := by rfl) (hv : Vis S.sc x := by first | exact Or.inl rfl | exact Or.inr (Or.inl rfl) | exact Or.inr (Or.inr rfl))
    (hd : (x == ("__debug__" : Str)) = false := by decide) (hcd : (x == ("__classdict__" : Str)) = false := by decide) : DE S μ (.Name x pos) .S μ (eVar i) where
  bo := rfl
  ex := ⟨fun _ => tVar i, fun W X c => by
    obtain ⟨A, s0, H0, env, outer, stack, ex, fn, pn, xe, rfl⟩ := c.shape
    exact pe_var hN (vis_of c.sc hv) hd hcd, fun W R H σ ρ fps Q w h => by
    have hi := (List.getElem?_eq_some_iff.mp hm).1
    obtain ⟨m, d, e1, e2, r⟩ := w.slot hi
    rw [hm] at e1; cases e1
    obtain ⟨v, ev, rv⟩ := w.get hm e2 (by decide)
    obtain ⟨ef, rv⟩ := rv
    unfold eVar at h
    rw [e2] at h
    exact ⟨v, ev, h v R H fps [] w ⟨rfl, rv⟩ Tmp.nil Ext.refl⟩⟩
/-- .. that owns its data: the value is handed on, the name knows nothing any more -/
theorem de_move (i : Nat) {x : Str} {m : Mo} (hm : μ[i]? = some m := by rfl) (hu : m ≠ .U := by decide) (hb : isB m = false := by rfl) (hN : S.N[i]? = some x := by rfl) (hv : Vis S.sc x := by first | exact Or.inl rfl | exact Or.inr (Or.inl rfl) | exact Or.inr (Or.inr rfl))
    (hd : (x == ("__debug__" : Str)) = false := by decide) (hcd : (x == ("__classdict__" : Str)) = false := by decide) : DE S μ (.Name x pos) m (μ.set i .U) (eVar i) where
  bo := bOnly_set hm hb rfl
  ex := ⟨fun _ => tVar i, fun W X c => by
    obtain ⟨A, s0, H0, env, outer, stack, ex, fn, pn, xe, rfl⟩ := c.shape
    exact pe_var hN (vis_of c.sc hv) hd hcd, fun W R H σ ρ fps Q w h => by
    have hi := (List.getElem?_eq_some_iff.mp hm).1
    obtain ⟨m', d, e1, e2, r⟩ := w.slot hi
    rw [hm] at e1; cases e1
    obtain ⟨v, ev, rv⟩ := w.get hm e2 hu
    unfold eVar at h
    rw [e2] at h
    have w2 := w.forget i d
    have es : ρ.set i d = ρ := by
      apply List.ext_getElem?
      intro j
      by_cases hj : j = i
      · subst hj; rw [List.getElem?_set_self (by rw [w.len2]; exact hi), e2]
      · rw [List.getElem?_set_ne (Ne.symm hj)]
    rw [es] at w2
    refine ⟨v, ev, h v R H (fset fps i []) (fps i) w2 rv ⟨w.nd i, fun a ha => ⟨w.dis1 i a ha, fun j hj => ?_, fun p hp z => w.tab2 p hp i (z ▸ ha)⟩⟩ ⟨Sub.refl _, fun a o e n f _ => ⟨e, n, fun j hj => ?_, f i⟩⟩⟩
    · by_cases hji : j = i
      · subst hji; rw [fset_same] at hj; cases hj
      · rw [fset_ne hji] at hj; exact hji (w.dis2 j i a hj ha)
    · by_cases hji : j = i
      · subst hji; rw [fset_same] at hj; cases hj
      · rw [fset_ne hji] at hj; exact f j hj⟩
/-- the slot's data is shared first -/
theorem de_share (i : Nat) {e : Expr} {m m' : Mo} {μ' : List Mo} {F : M D} (h : DE S (μ.set i .S) e m' μ' F) (hm : μ[i]? = some m := by rfl) (hl : m.live = true := by rfl) (hu : m ≠ .U := by decide) (hb : isB m = false := by rfl) : DE S μ e m' μ' F where
  bo := h.bo.trans (bOnly_set hm hb rfl)
  ex := by
    obtain ⟨te, p, s⟩ := h.ex
    exact ⟨te, p, fun W R H σ ρ fps Q w q => s W _ _ σ ρ _ Q (w.share hm hl hu) (q.later (Ext.share w) (bOnly_set hm hb rfl))⟩
/-- what is owned by nobody yet is shared -/
theorem de_fz {e : Expr} {m : Mo} {μ' : List Mo} {F : M D} (h : DE S μ e m μ' F) (hl : m.live = true := by rfl) : DE S μ e .S μ' F where
  bo := h.bo
  ex := by
    obtain ⟨te, p, s⟩ := h.ex
    refine ⟨te, p, fun W R H σ ρ fps Q w q => s W _ _ σ ρ _ Q w ?_⟩
    cases e : F ρ with
    | ok d ρ' =>
      rw [e] at q
      exact fun v R' H' fps' tf w' r t x => q v _ H' fps' [] (w'.freeze t) ⟨rfl, r.frz hl fun a ha => (t.dis a ha).1⟩ Tmp.nil (x.freeze t)
    | err c ρ' => rw [e] at q; exact q
    | stuck => rw [e] at q; exact q
theorem de_c {e : Expr} {d : D} {v : V} (hp : ∀ X : Cx, PE X e (tC v)) (hr : ∀ K C R, Rep K C R d v) : DE S μ e .S μ (ret d) where
  bo := rfl
  ex := ⟨fun _ => tC v, fun W X c => hp X, fun W R H σ ρ fps Q w h => h v R H fps [] w ⟨rfl, hr _ _ _⟩ Tmp.nil Ext.refl⟩
theorem de_int {i : Int} {j : Nat} : DE S μ (.Constant (.int i) j pos) .S μ (ret (.int i)) := de_c (v := .int i) (fun _ => pe_int) fun _ _ _ => rep_int
theorem de_bl {b : Bool} {j : Nat} : DE S μ (.Constant (.bool b) j pos) .S μ (ret (.bl b)) := de_c (v := .bl b) (fun _ => pe_bl) fun _ _ _ => rep_bl
theorem de_str {x : Str} {j : Nat} : DE S μ (.Constant (.str x) j pos) .S μ (ret (.str x)) := de_c (v := .str x) (fun _ => pe_str) fun _ _ _ => rep_str
theorem de_non {j : Nat} : DE S μ (.Constant .none j pos) .S μ (ret .non) := de_c (v := .non) (fun _ => pe_non) fun _ _ _ => rep_non
/-- a module's constant -/
theorem de_glob {x : Str} {d : D} {v : V} {u : Value} (hg : S.sc.names.lookup x = some .globalImplicit) (hm : S.mg x = some u) (r : RelV v u) (hr : ∀ K C R, Rep K C R d v) (hd : (x == ("__debug__" : Str)) = false := by decide) : DE S μ (.Name x pos) .S μ (ret d) where
  bo := rfl
  ex := ⟨fun _ => tC v, fun W X c => by
    obtain ⟨A, s0, H0, env, outer, stack, ex, fn, pn, xe, rfl⟩ := c.shape
    exact pe_glob (show env.scope.names.lookup x = some .globalImplicit by rw [show env.scope = S.sc from c.sc]; exact hg) hm r hd, fun W R H σ ρ fps Q w h => h v R H fps [] w ⟨rfl, hr _ _ _⟩ Tmp.nil Ext.refl⟩
end
end VL

namespace VL
open PySem L2

/-! ### results by values -/
def Giv (κ : Kit) (μ : List Mo) (ρ : List D) (σ : St) (R H : Hp) (fps : Fps) (m : Mo) (d : D) (Q : VK) : Prop :=
  ∀ v R' H' tf, Wd κ R' μ ρ σ H' fps → RepM κ R' H' m d v tf → Tmp κ R' fps tf → Ext κ R H fps R' H' fps tf → Q v H'
section
variable {κ : Kit} {μ : List Mo} {ρ : List D} {σ : St} {R H : Hp} {fps : Fps} {m : Mo} {d : D} {Q : VK} {ds : List D} {vs : List V}
theorem repL_S (h : Reps κ.K κ.C R ds vs) : RepL (RepM κ R H .S) ds vs [] := by
  induction ds generalizing vs with
  | nil => simp only [Reps] at h; exact ⟨h, rfl⟩
  | cons d ds ih =>
    simp only [Reps] at h
    obtain ⟨v, r, rfl, q, t⟩ := h
    exact ⟨v, r, [], [], rfl, rfl, ⟨rfl, q⟩, ih t⟩
theorem repL_S' {f : List Addr} (h : RepL (RepM κ R H .S) ds vs f) : f = [] ∧ Reps κ.K κ.C R ds vs := by
  induction ds generalizing vs f with
  | nil => exact ⟨h.2, by rw [h.1]; exact Reps.nil⟩
  | cons d ds ih =>
    obtain ⟨v, r, f1, f2, rfl, rfl, ⟨e, q⟩, t⟩ := h
    obtain ⟨e2, q2⟩ := ih t
    subst e e2
    exact ⟨rfl, Reps.cons q q2⟩
theorem repM_OS {v : V} {f : List Addr} (h : RepM κ R H (.O .S) (.lst ds) v f) : ∃ a vs, v = .ref a ∧ f = [a] ∧ H a = some (.lst vs) ∧ Reps κ.K κ.C R ds vs := by
  obtain ⟨a, vs, g, e1, e2, e3, t⟩ := h
  obtain ⟨e, q⟩ := repL_S' t
  subst e
  exact ⟨a, vs, e1, e3, e2, q⟩
theorem repM_OS' {a : Addr} (e : H a = some (.lst vs)) (q : Reps κ.K κ.C R ds vs) : RepM κ R H (.O .S) (.lst ds) (.ref a) [a] := ⟨a, vs, [], rfl, e, rfl, repL_S q⟩
theorem Giv.s (g : Giv κ μ ρ σ R H fps .S d Q) (w : Wd κ R μ ρ σ H fps) {v : V} (r : Rep κ.K κ.C R d v) : Q v H := g v R H [] w ⟨rfl, r⟩ Tmp.nil Ext.refl
theorem Giv.newT (g : Giv κ μ ρ σ R H fps .S (.tup ds) Q) (w : Wd κ R μ ρ σ H fps) (r : Reps κ.K κ.C R ds vs) {p : Addr} (hp : H p = none) : Q (.ref p) (upd H p (.tup vs)) :=
  g _ (upd R p (.tup vs)) _ [] (w.newS hp) ⟨rfl, rep_tup (SqT.of upd_same) (r.mono (Sub.new (w.sub.free hp)))⟩ Tmp.nil (Ext.newS w.sub hp)
theorem Giv.newL (g : Giv κ μ ρ σ R H fps (.O .S) (.lst ds) Q) (w : Wd κ R μ ρ σ H fps) (r : Reps κ.K κ.C R ds vs) {p : Addr} (hp : H p = none) : Q (.ref p) (upd H p (.lst vs)) :=
  g _ R _ [p] (w.newO hp) (repM_OS' upd_same r) (Tmp.new w hp) (Ext.newO hp)
end
/-! ### two-place operations -/
def Bin2 (S : Sta) (f : Value → Value → Sem Value) (m : Mo) (g : D → D → Option D) : Prop :=
  ∃ r : R2, (∀ W X, Conf S W X → OpR X f r) ∧ ∀ μ ρ σ R H fps dx dy x y d Q, Wd S.κ R μ ρ σ H fps → Rep S.κ.K S.κ.C R dx x → Rep S.κ.K S.κ.C R dy y → g dx dy = some d → Giv S.κ μ ρ σ R H fps m d Q → r x y H Q
/-- an operation whose answer makes nothing -/
theorem Bin2.sc {S : Sta} {f : Value → Value → Sem Value} {g : D → D → Option D} (r : R2) (hr : ∀ W X, Conf S W X → OpR X f r)
    (h : ∀ R H dx dy x y d Q, Sub R H → Rep S.κ.K S.κ.C R dx x → Rep S.κ.K S.κ.C R dy y → g dx dy = some d → (∀ v, Rep S.κ.K S.κ.C R d v → Q v H) → r x y H Q) : Bin2 S f .S g :=
  ⟨r, hr, fun μ ρ σ R H fps dx dy x y d Q w rx ry e q => h R H dx dy x y d Q w.sub rx ry e fun v rv => q.s w rv⟩
def iI (C : Int → Int → Bool) (f : Int → Int → D) : D → D → Option D
  | .int i, .int j => if C i j then some (f i j) else none
  | _, _ => none
def iI0 (f : Int → Int → D) : D → D → Option D
  | .int i, .int j => some (f i j)
  | _, _ => none
section
variable {S : Sta}
theorem bin_I {f : Value → Value → Sem Value} {C : Int → Int → Prop} {Cb : Int → Int → Bool} {g : Int → Int → V} {gd : Int → Int → D} (h : ∀ W X, Conf S W X → OpR X f (rI C g)) (hC : ∀ i j, Cb i j = true → C i j)
    (hg : ∀ K Cm R i j, Rep K Cm R (gd i j) (g i j)) : Bin2 S f .S (iI Cb gd) := by
  refine Bin2.sc (rI C g) h fun R H dx dy x y d Q s rx ry e q => ?_
  cases dx <;> cases dy <;> first | (simp only [iI] at e; cases e; done) | skip
  rename_i i j
  simp only [Rep] at rx ry
  simp only [iI] at e
  split at e
  · rename_i hc
    cases e
    exact ⟨i, j, rx, ry, hC i j hc, q _ (hg _ _ _ _ _)⟩
  · cases e
theorem bin_I0 {f : Value → Value → Sem Value} {g : Int → Int → V} {gd : Int → Int → D} (h : ∀ W X, Conf S W X → OpR X f (rI0 g)) 
    (hg : ∀ K Cm R i j, Rep K Cm R (gd i j) (g i j)) : Bin2 S f .S (iI0 gd) := by
  refine Bin2.sc (rI0 g) h fun R H dx dy x y d Q s rx ry e q => ?_
  cases dx <;> cases dy <;> first | (simp only [iI0] at e; cases e; done) | skip
  rename_i i j
  simp only [Rep] at rx ry
  simp only [iI0] at e
  cases e
  exact ⟨i, j, rx, ry, q _ (hg _ _ _ _ _)⟩
abbrev subD := iI0 fun i j => .int (i - j)
abbrev mulD := iI (fun i j => decide ((-(2 ^ 64) < i ∧ i < 2 ^ 64) ∨ (-(2 ^ 64) < j ∧ j < 2 ^ 64))) fun i j => .int (i * j)
abbrev fdivD := iI (fun i j => decide (0 < j ∧ j < 1073741824)) fun i j => .int (i / j)
abbrev modD := iI (fun _ j => decide (0 < j)) fun i j => .int (i % j)
abbrev powD := iI (fun i j => decide (0 ≤ j ∧ j ≤ 1000000 ∧ i.natAbs < 2 ^ 64)) fun i j => .int (i ^ j.toNat)
abbrev shlD := iI (fun i j => decide (0 ≤ j ∧ j ≤ 1000000 ∧ i.natAbs < 2 ^ 64)) fun i j => .int (i * 2 ^ j.toNat)
abbrev shrD := iI (fun _ j => decide (0 ≤ j)) fun i j => .int (i / 2 ^ j.toNat)
abbrev andD := iI0 fun i j => .int (Builtin.bitAnd i j)
abbrev orD := iI0 fun i j => .int (Builtin.bitOr i j)
abbrev xorD := iI0 fun i j => .int (Builtin.bitXor i j)
abbrev ltD := iI0 fun i j => .bl (decide (i < j))
abbrev leD := iI0 fun i j => .bl (decide (i ≤ j))
abbrev gtD := iI0 fun i j => .bl (decide (j < i))
abbrev geD := iI0 fun i j => .bl (decide (j ≤ i))
def addD : D → D → Option D
  | .int i, .int j => some (.int (i + j))
  | .str x, .str y => if x.length + y.length ≤ sizeLine then some (.str (x ++ y)) else none
  | _, _ => none
theorem OpR.or' {X : Cx} {f : Value → Value → Sem Value} {r r' : R2} (h : OpR X f r) (h' : OpR X f r') : OpR X f (fun x y H Q => r x y H Q ∨ r' x y H Q) := OpR.or h h'
def rAddB : R2 := fun x y H Q => rI0 (fun i j => V.int (i + j)) x y H Q ∨ (∃ i j, x = .str i ∧ y = .str j ∧ i.length + j.length ≤ sizeLine ∧ Q (.str (i ++ j)) H)
theorem addB_sound {κ : Kit} : ∀ R H dx dy x y d (Q : VK), Rep κ.K κ.C R dx x → Rep κ.K κ.C R dy y → addD dx dy = some d → (∀ v, Rep κ.K κ.C R d v → Q v H) → rAddB x y H Q := fun R H dx dy x y d Q rx ry e q => by
  cases dx <;> cases dy <;> first | (simp only [addD] at e; cases e; done) | skip
  · rename_i i j
    simp only [Rep] at rx ry
    simp only [addD] at e
    cases e
    exact .inl ⟨i, j, rx, ry, q _ rep_int⟩
  · rename_i i j
    simp only [Rep] at rx ry
    simp only [addD] at e
    split at e
    · rename_i hc
      cases e
      exact .inr ⟨i, j, rx, ry, hc, q _ rep_str⟩
    · cases e
theorem b_add : Bin2 S (binaryOp .Add) .S addD := Bin2.sc rAddB (fun W X c => OpR.or' op_add op_add_str) fun R H dx dy x y d Q s rx ry e q => addB_sound R H dx dy x y d Q rx ry e q
theorem b_sub : Bin2 S (binaryOp .Sub) .S subD := bin_I0 (fun _ _ _ => op_sub) fun _ _ _ _ _ => rep_int
theorem b_mul : Bin2 S (binaryOp .Mult) .S mulD := bin_I (fun _ _ _ => op_mul) (fun _ _ h => by simp only [decide_eq_true_eq] at h; exact h) fun _ _ _ _ _ => rep_int
theorem b_fdiv : Bin2 S (binaryOp .FloorDiv) .S fdivD := bin_I (fun _ _ _ => op_fdiv) (fun _ _ h => by simp only [decide_eq_true_eq] at h; exact h) fun _ _ _ _ _ => rep_int
theorem b_mod : Bin2 S (binaryOp .Mod) .S modD := bin_I (fun _ _ _ => op_mod) (fun _ _ h => by simp only [decide_eq_true_eq] at h; exact h) fun _ _ _ _ _ => rep_int
theorem b_pow : Bin2 S (binaryOp .Pow) .S powD := bin_I (fun _ _ _ => op_pow) (fun _ _ h => by simp only [decide_eq_true_eq] at h; exact h) fun _ _ _ _ _ => rep_int
theorem b_shl : Bin2 S (binaryOp .LShift) .S shlD := bin_I (fun _ _ _ => op_shl) (fun _ _ h => by simp only [decide_eq_true_eq] at h; exact h) fun _ _ _ _ _ => rep_int
theorem b_shr : Bin2 S (binaryOp .RShift) .S shrD := bin_I (fun _ _ _ => op_shr) (fun _ _ h => by simp only [decide_eq_true_eq] at h; exact h) fun _ _ _ _ _ => rep_int
theorem b_and : Bin2 S (binaryOp .BitAnd) .S andD := bin_I0 (fun _ _ _ => op_and) fun _ _ _ _ _ => rep_int
theorem b_or : Bin2 S (binaryOp .BitOr) .S orD := bin_I0 (fun _ _ _ => op_or) fun _ _ _ _ _ => rep_int
theorem b_xor : Bin2 S (binaryOp .BitXor) .S xorD := bin_I0 (fun _ _ _ => op_xor) fun _ _ _ _ _ => rep_int
theorem c_lt : Bin2 S (compareOp .Lt) .S ltD := bin_I0 (fun _ _ _ => op_lt) fun _ _ _ _ _ => rep_bl
theorem c_le : Bin2 S (compareOp .LtE) .S leD := bin_I0 (fun _ _ _ => op_le) fun _ _ _ _ _ => rep_bl
theorem c_gt : Bin2 S (compareOp .Gt) .S gtD := bin_I0 (fun _ _ _ => op_gt) fun _ _ _ _ _ => rep_bl
theorem c_ge : Bin2 S (compareOp .GtE) .S geD := bin_I0 (fun _ _ _ => op_ge) fun _ _ _ _ _ => rep_bl
end
/-! ### plain data -/
mutual
def D.plain : D → Bool
  | .non => true
  | .bl _ => true
  | .int _ => true
  | .str _ => true
  | .tup ds => D.plains ds
  | .lst ds => D.plains ds
  | .dct _ => false
  | .obj _ _ => false
def D.plains : List D → Bool
  | [] => true
  | d :: ds => d.plain && D.plains ds
end
mutual
def D.py : D → PyData
  | .non => .none
  | .bl b => .bool b
  | .int i => .int i
  | .str x => .str x
  | .tup ds => .tuple (D.pys ds)
  | .lst ds => .list (D.pys ds)
  | .dct _ => .dict []
  | .obj _ _ => .dict []
def D.pys : List D → List PyData
  | [] => []
  | d :: ds => d.py :: D.pys ds
end
section
variable {K : PySem.W.Frag} {C : CM} {R H : Hp}
mutual
theorem rep_dp (s : Sub R H) : ∀ (d : D) (v : V), d.plain = true → Rep K C R d v → Dp K H v d.py
  | .non, v, _, h => by simp only [Rep] at h; subst h; simp only [D.py]; exact .non
  | .bl b, v, _, h => by simp only [Rep] at h; subst h; simp only [D.py]; exact .bl b
  | .int b, v, _, h => by simp only [Rep] at h; subst h; simp only [D.py]; exact .int b
  | .str b, v, _, h => by simp only [Rep] at h; subst h; simp only [D.py]; exact .str b
  | .tup ds, v, p, h => by
    simp only [Rep] at h
    simp only [D.plain] at p
    obtain ⟨a, vs, e, q, r⟩ := h
    subst e
    simp only [D.py]
    exact .tup (sqT_mono s q) (reps_dp s ds vs p r)
  | .lst ds, v, p, h => by
    simp only [Rep] at h
    simp only [D.plain] at p
    obtain ⟨a, vs, e, q, r⟩ := h
    subst e
    simp only [D.py]
    exact .lst (SqL.of (s _ _ q)) (reps_dp s ds vs p r)
  | .dct ds, v, p, h => by simp [D.plain] at p
  | .obj c ds, v, p, h => by simp [D.plain] at p
theorem reps_dp (s : Sub R H) : ∀ (ds : List D) (vs : List V), D.plains ds = true → Reps K C R ds vs → DpAll K H vs (D.pys ds)
  | [], vs, _, h => by simp only [Reps] at h; subst h; simp only [D.pys]; exact .nil
  | d :: ds, vs, p, h => by
    simp only [Reps] at h
    simp only [D.plains, Bool.and_eq_true] at p
    obtain ⟨v, r, rfl, q, t⟩ := h
    simp only [D.pys]
    exact .cons (rep_dp s d v p.1 q) (reps_dp s ds r p.2 t)
end
end
def okEq (d : D) : Bool := d.plain && SeqAt.shaped d.py
def eqD : D → D → Option D
  | .str a, .str b => some (.bl (decide (a = b)))
  | x, y => if okEq x && okEq y then some (.bl (PyData.eqv x.py y.py)) else none
def neD : D → D → Option D
  | .str a, .str b => some (.bl (!decide (a = b)))
  | x, y => if okEq x && okEq y then some (.bl (!PyData.eqv x.py y.py)) else none
def rEqB (K : PySem.W.Frag) : R2 := fun x y H Q => rEq x y H Q ∨ rEqD K x y H Q
def rNeB (K : PySem.W.Frag) : R2 := fun x y H Q => rNe x y H Q ∨ rNeD K x y H Q
section
variable {S : Sta}
theorem c_eq : Bin2 S (compareOp .Eq) .S eqD := by
  refine Bin2.sc (rEqB S.κ.K) (fun W X c => ?_) fun R H dx dy x y d Q s rx ry e q => ?_
  · obtain ⟨A, s0, H0, env, outer, stack, ex, fn, pn, xe, rfl⟩ := c.shape
    exact OpR.or' op_eq (op_eqD c.room.units)
  · unfold eqD at e
    split at e
    · simp only [Rep] at rx ry
      cases e
      subst rx ry
      refine .inl ⟨rfl, ?_⟩
      rename_i a b
      have e : decide (V.str a = V.str b) = decide (a = b) := by
        by_cases h : a = b
        · subst h; simp
        · simp [h]
      show Q (.bl (decide (V.str a = V.str b))) H
      rw [e]
      exact q _ rep_bl
    · split at e
      · rename_i hc
        simp only [okEq, Bool.and_eq_true] at hc
        cases e
        exact .inr ⟨_, _, rep_dp s _ _ hc.1.1 rx, rep_dp s _ _ hc.2.1 ry, hc.1.2, hc.2.2, q _ rep_bl⟩
      · cases e
theorem c_ne : Bin2 S (compareOp .NotEq) .S neD := by
  refine Bin2.sc (rNeB S.κ.K) (fun W X c => ?_) fun R H dx dy x y d Q s rx ry e q => ?_
  · obtain ⟨A, s0, H0, env, outer, stack, ex, fn, pn, xe, rfl⟩ := c.shape
    exact OpR.or' op_ne (op_neD c.room.units)
  · unfold neD at e
    split at e
    · simp only [Rep] at rx ry
      cases e
      subst rx ry
      refine .inl ⟨rfl, ?_⟩
      rename_i a b
      have e : decide (V.str a = V.str b) = decide (a = b) := by
        by_cases h : a = b
        · subst h; simp
        · simp [h]
      show Q (.bl (!decide (V.str a = V.str b))) H
      rw [e]
      exact q _ rep_bl
    · split at e
      · rename_i hc
        simp only [okEq, Bool.and_eq_true] at hc
        cases e
        exact .inr ⟨_, _, rep_dp s _ _ hc.1.1 rx, rep_dp s _ _ hc.2.1 ry, hc.1.2, hc.2.2, q _ rep_bl⟩
      · cases e
/-- x is None -/
def isNon : D → Bool
  | .non => true
  | _ => false
def isND (x y : D) : Option D := match y with
  | .non => some (.bl (isNon x))
  | _ => none
def notND (x y : D) : Option D := match y with
  | .non => some (.bl (!isNon x))
  | _ => none
theorem rep_isN {K : PySem.W.Frag} {C : CM} {R : Hp} {d : D} {v : V} (r : Rep K C R d v) : decide (v = .non) = isNon d := by
  cases d <;> simp only [Rep] at r
  · subst r; rfl
  · subst r; rfl
  · subst r; rfl
  · subst r; rfl
  · obtain ⟨a, vs, e, _⟩ := r; subst e; rfl
  · obtain ⟨a, vs, e, _⟩ := r; subst e; rfl
  · obtain ⟨a, vs, e, _⟩ := r; subst e; rfl
  · obtain ⟨a, vs, dx, e, _⟩ := r; subst e; rfl
theorem c_is : Bin2 S (compareOp .Is) .S isND := by
  refine Bin2.sc _ (fun W X c => op_isN) fun R H dx dy x y d Q s rx ry e q => ?_
  unfold isND at e
  cases dy <;> first | (cases e; done) | skip
  cases e
  simp only [Rep] at ry
  exact ⟨ry, by rw [rep_isN rx]; exact q _ rep_bl⟩
theorem c_isnot : Bin2 S (compareOp .IsNot) .S notND := by
  refine Bin2.sc _ (fun W X c => op_notN) fun R H dx dy x y d Q s rx ry e q => ?_
  unfold notND at e
  cases dy <;> first | (cases e; done) | skip
  cases e
  simp only [Rep] at ry
  refine ⟨ry, ?_⟩
  rw [rep_isN rx]
  exact q _ rep_bl
/-- x in y: y a list or a tuple of plain data -/
def itemsD : D → Option (List D)
  | .lst ds => some ds
  | .tup ds => some ds
  | _ => none
def inB (neg : Bool) (x y : D) : Option D := match itemsD y with
  | some ds => if okEq x && okEq y then some (.bl (neg != ((D.pys ds).any fun z => PyData.eqv z x.py))) else none
  | none => none
def rInB (K : PySem.W.Frag) (neg : Bool) : R2 := fun x y H Q => ∃ d e ds, Dp K H x d ∧ Dp K H y e ∧ (e = .list ds ∨ e = .tuple ds) ∧ SeqAt.shaped d = true ∧ SeqAt.shaped e = true ∧ Q (.bl (neg != (ds.any fun z => PyData.eqv z d))) H
theorem op_inB {X : Cx} (hu : X.A.units + 65 < cLine) : OpR X (compareOp .In) (rInB X.K false) := by
  intro pins s σ H x y v u Q I rx ry h
  obtain ⟨d, e, ds, hd, he, hc, sd, se, q⟩ := h
  obtain ⟨as, r1⟩ := Dp.reads I d x v hd rx
  obtain ⟨bs, r2⟩ := Dp.reads I e y u he ry
  have q' : Q (.bl (ds.any fun z => PyData.eqv z d)) H := by
    have e0 : (false != (ds.any fun z => PyData.eqv z d)) = (ds.any fun z => PyData.eqv z d) := by cases (ds.any fun z => PyData.eqv z d) <;> rfl
    rw [← e0]; exact q
  rcases hc with rfl | rfl
  · exact SeqAt.in_list_reads r2 r1 (SeqAt.canLay_of_shaped se) (SeqAt.canLay_of_shaped sd) (PyProof.Rows.room_in_shaped sd hu) ⟨.bl _, H, I, rfl, q'⟩
  · exact SeqAt.in_tuple_reads r2 r1 (SeqAt.canLay_of_shaped se) (SeqAt.canLay_of_shaped sd) (PyProof.Rows.room_in_shaped sd hu) ⟨.bl _, H, I, rfl, q'⟩
theorem op_notInB {X : Cx} (hu : X.A.units + 65 < cLine) : OpR X (compareOp .NotIn) (rInB X.K true) := by
  intro pins s σ H x y v u Q I rx ry h
  obtain ⟨d, e, ds, hd, he, hc, sd, se, q⟩ := h
  obtain ⟨as, r1⟩ := Dp.reads I d x v hd rx
  obtain ⟨bs, r2⟩ := Dp.reads I e y u he ry
  have q' : Q (.bl (!ds.any fun z => PyData.eqv z d)) H := by
    have e0 : (true != (ds.any fun z => PyData.eqv z d)) = !(ds.any fun z => PyData.eqv z d) := by cases (ds.any fun z => PyData.eqv z d) <;> rfl
    rw [← e0]; exact q
  rcases hc with rfl | rfl
  · exact SeqAt.notIn_list_reads r2 r1 (SeqAt.canLay_of_shaped se) (SeqAt.canLay_of_shaped sd) (PyProof.Rows.room_in_shaped sd hu) ⟨.bl _, H, I, rfl, q'⟩
  · exact SeqAt.notIn_tuple_reads r2 r1 (SeqAt.canLay_of_shaped se) (SeqAt.canLay_of_shaped sd) (PyProof.Rows.room_in_shaped sd hu) ⟨.bl _, H, I, rfl, q'⟩
theorem Conf.u65 {W : WX} {X : Cx} (c : Conf S W X) : X.A.units + 65 < cLine := by have := c.room.un; omega
theorem inB_sound {κ : Kit} {neg : Bool} : ∀ R H dx dy x y d (Q : VK), Sub R H → Rep κ.K κ.C R dx x → Rep κ.K κ.C R dy y → inB neg dx dy = some d → (∀ v, Rep κ.K κ.C R d v → Q v H) → rInB κ.K neg x y H Q := fun R H dx dy x y d Q s rx ry e q => by
  unfold inB at e
  cases dy <;> simp only [itemsD] at e <;> first | (cases e; done) | skip
  all_goals
    split at e
    · rename_i hc
      simp only [okEq, Bool.and_eq_true] at hc
      cases e
      refine ⟨_, _, _, rep_dp s _ _ hc.1.1 rx, rep_dp s _ _ hc.2.1 ry, ?_, hc.1.2, hc.2.2, q _ rep_bl⟩
      first | (left; simp only [D.py]; done) | (right; simp only [D.py]; done)
    · cases e
theorem c_in : Bin2 S (compareOp .In) .S (inB false) := by
  refine Bin2.sc (rInB S.κ.K false) (fun W X c => ?_) fun R H dx dy x y d Q s rx ry e q => inB_sound R H dx dy x y d Q s rx ry e q
  have hu := c.u65
  obtain ⟨A, s0, H0, env, outer, stack, ex, fn, pn, xe, rfl⟩ := c.shape
  exact op_inB hu
theorem c_notin : Bin2 S (compareOp .NotIn) .S (inB true) := by
  refine Bin2.sc (rInB S.κ.K true) (fun W X c => ?_) fun R H dx dy x y d Q s rx ry e q => inB_sound R H dx dy x y d Q s rx ry e q
  have hu := c.u65
  obtain ⟨A, s0, H0, env, outer, stack, ex, fn, pn, xe, rfl⟩ := c.shape
  exact op_notInB hu
/-- one sign in a text -/
def inSD (neg : Bool) (x y : D) : Option D := match x, y with
  | .str a, .str z => if a.cps.size = 1 then some (.bl (neg != decide (a.cps.getD 0 0 ∈ z.cps.toList))) else none
  | _, _ => none
theorem sign_of {a : Str} (h : a.cps.size = 1) : a = ⟨#[a.cps.getD 0 0]⟩ := by
  obtain ⟨⟨l⟩⟩ := a
  cases l with
  | nil => cases h
  | cons c r =>
    cases r with
    | nil => rfl
    | cons _ _ => simp at h
theorem c_inS : Bin2 S (compareOp .In) .S (inSD false) := by
  refine Bin2.sc rInS (fun W X c => op_inS) fun R H dx dy x y d Q s rx ry e q => ?_
  unfold inSD at e
  split at e
  · split at e
    · rename_i hc
      cases e
      simp only [Rep] at rx ry
      refine ⟨_, _, by rw [rx]; exact congrArg V.str (sign_of hc), ry, ?_⟩
      have e0 : ∀ b : Bool, (false != b) = b := fun b => by cases b <;> rfl
      rw [e0] at q
      exact q _ rep_bl
    · cases e
  · cases e
theorem c_notinS : Bin2 S (compareOp .NotIn) .S (inSD true) := by
  refine Bin2.sc rNotInS (fun W X c => op_notInS) fun R H dx dy x y d Q s rx ry e q => ?_
  unfold inSD at e
  split at e
  · split at e
    · rename_i hc
      cases e
      simp only [Rep] at rx ry
      refine ⟨_, _, by rw [rx]; exact congrArg V.str (sign_of hc), ry, ?_⟩
      have e0 : ∀ b : Bool, (true != b) = !b := fun b => by cases b <;> rfl
      rw [e0] at q
      exact q _ rep_bl
    · cases e
  · cases e
end
end VL

namespace VL
open PySem L2

def guard {α : Type} (b : Bool) (x : M α) : M α := fun ρ => if b then x ρ else .stuck
def asB : D → Option Bool
  | .bl b => some b
  | _ => none
section
variable {S : Sta} {μ μ1 μ2 μ' : List Mo} {pos : Pos} {a b c e : Expr} {Fa Fb Fc F : M D} {m : Mo}
/-! ### operators -/
theorem de_bin {op : Operator} {g : D → D → Option D} (o : Bin2 S (binaryOp op) m g) (ha : DE S μ a .S μ1 Fa) (hb : DE S μ1 b .S μ2 Fb) : DE S μ (.BinOp a op b pos) m μ2 (bnd Fa fun x => bnd Fb fun y => opt (g x y)) where
  bo := hb.bo.trans ha.bo
  ex := by
    obtain ⟨ta, pa, sa⟩ := ha.ex
    obtain ⟨tb, pb, sb⟩ := hb.ex
    obtain ⟨r, pr, sr⟩ := o
    refine ⟨fun W => tOp r (ta W) (tb W), fun W X c => pe_op (pr W X c) (pa W X c) (pb W X c), fun W R H σ ρ fps Q w h => ?_⟩
    refine sa W R H σ ρ fps _ w (h.bindS fun d1 ρ1 h v1 R1 H1 fps1 w1 r1 x1 => ?_)
    refine sb W R1 H1 σ ρ1 fps1 _ w1 ((h.later x1 ha.bo).bindS fun d2 ρ2 h v2 R2 H2 fps2 w2 r2 x2 => ?_)
    obtain ⟨d, e, h⟩ := h.opt'
    exact sr _ _ _ _ _ _ _ _ _ _ _ _ w2 (r1.mono x2.sub) r2 e fun v R' H' tf w' rv t x => h v R' H' fps2 tf w' rv t (x2.trans x)
theorem de_cmp {op : CmpOp} {g : D → D → Option D} (o : Bin2 S (compareOp op) m g) (ha : DE S μ a .S μ1 Fa) (hb : DE S μ1 b .S μ2 Fb) (hm : behindInMarks op b = false := by rfl) : DE S μ (.Compare a [op] [b] pos) m μ2 (bnd Fa fun x => bnd Fb fun y => opt (g x y)) where
  bo := hb.bo.trans ha.bo
  ex := by
    obtain ⟨ta, pa, sa⟩ := ha.ex
    obtain ⟨tb, pb, sb⟩ := hb.ex
    obtain ⟨r, pr, sr⟩ := o
    refine ⟨fun W => tOp r (ta W) (tb W), fun W X c => pe_cmpR (pr W X c) (pa W X c) (pb W X c) hm, fun W R H σ ρ fps Q w h => ?_⟩
    refine sa W R H σ ρ fps _ w (h.bindS fun d1 ρ1 h v1 R1 H1 fps1 w1 r1 x1 => ?_)
    refine sb W R1 H1 σ ρ1 fps1 _ w1 ((h.later x1 ha.bo).bindS fun d2 ρ2 h v2 R2 H2 fps2 w2 r2 x2 => ?_)
    obtain ⟨d, e, h⟩ := h.opt'
    exact sr _ _ _ _ _ _ _ _ _ _ _ _ w2 (r1.mono x2.sub) r2 e fun v R' H' tf w' rv t x => h v R' H' fps2 tf w' rv t (x2.trans x)
theorem PostT.opt' {R H : Hp} {σ : L2.St} {fps : Fps} {W : WX} {α : Type} {Q : α → Hp → Prop} {ρ : List D} {o : Option α} (h : PostT S μ R H σ fps W Q (opt o ρ)) : ∃ d, o = some d ∧ PostT S μ R H σ fps W Q (.ok d ρ) := by
  cases o with
  | none => exact h.elim
  | some d => exact ⟨d, rfl, h⟩
theorem asB_rep {K : PySem.W.Frag} {C : CM} {R : Hp} {d : D} {v : V} {b : Bool} (h : asB d = some b) (r : Rep K C R d v) : v = .bl b := by
  cases d <;> simp only [asB] at h <;> first | (cases h; done) | skip
  simp only [Rep] at r
  cases h
  exact r
def oB (o : Option D) : Option Bool := o.bind asB
theorem dt_cmp {op : CmpOp} {g : D → D → Option D} (o : Bin2 S (compareOp op) .S g) (ha : DE S μ a .S μ Fa) (hb : DE S μ b .S μ Fb) (hm : behindInMarks op b = false := by rfl) : DT S μ (.Compare a [op] [b] pos) (bnd Fa fun x => bnd Fb fun y => opt (oB (g x y))) where
  ex := by
    obtain ⟨ta, pa, sa⟩ := ha.ex
    obtain ⟨tb, pb, sb⟩ := hb.ex
    obtain ⟨r, pr, sr⟩ := o
    refine ⟨fun W => tTest (tOp r (ta W) (tb W)), fun W X c => pt_cmpR (pr W X c) (pa W X c) (pb W X c) hm, fun W R H σ ρ fps Q w h => ?_⟩
    refine sa W R H σ ρ fps _ w (h.bindS fun d1 ρ1 h v1 R1 H1 fps1 w1 r1 x1 => ?_)
    refine sb W R1 H1 σ ρ1 fps1 _ w1 ((h.later x1).bindS fun d2 ρ2 h v2 R2 H2 fps2 w2 r2 x2 => ?_)
    obtain ⟨k, e, h⟩ := h.opt'
    unfold oB at e
    cases eg : g d1 d2 with
    | none => rw [eg] at e; cases e
    | some d =>
      rw [eg] at e
      refine sr _ _ _ _ _ _ _ _ _ _ _ _ w2 (r1.mono x2.sub) r2 eg fun v R' H' tf w' rv t x => ?_
      obtain ⟨et, rv⟩ := rv
      subst et
      exact ⟨k, asB_rep e rv, h R' H' fps2 w' (x2.trans x)⟩
/-- a test by a value that is a truth -/
theorem dt_val (h : DE S μ e .S μ F) (he : ∀ env whole, isTrue e env whole = (do let v ← whole; standAt e.pos; holding [v] (truthy v)) := by intro _ _; rfl) : DT S μ e (bnd F fun x => opt (asB x)) where
  ex := by
    obtain ⟨te, p, s⟩ := h.ex
    refine ⟨fun W => tB (te W), fun W X c => pt_val (p W X c) (he _), fun W R H σ ρ fps Q w q => ?_⟩
    refine s W R H σ ρ fps _ w (q.bindS fun d ρ1 q v R1 H1 fps1 w1 r1 x1 => ?_)
    obtain ⟨k, e, q⟩ := q.opt'
    exact ⟨k, asB_rep e r1, q R1 H1 fps1 w1 x1⟩
theorem dw_pt {F : M Bool} (h : DW S μ e F) : DT S μ e F := ⟨let ⟨te, p, s⟩ := h.ex; ⟨te, fun W X c => (p W X c).pt, s⟩⟩
variable {Ta Tb : M Bool} {rest : List Expr}
theorem dw_and1 (h : DT S μ a Ta) : DW S μ (.BoolOp .And [a] pos) Ta := ⟨let ⟨te, p, s⟩ := h.ex; ⟨te, fun W X c => pw_and1 (p W X c), s⟩⟩
theorem dw_or1 (h : DT S μ a Ta) : DW S μ (.BoolOp .Or [a] pos) Ta := ⟨let ⟨te, p, s⟩ := h.ex; ⟨te, fun W X c => pw_or1 (p W X c), s⟩⟩
theorem dw_and (ha : DT S μ a Ta) (hb : DW S μ (.BoolOp .And (b :: rest) pos) Tb) : DW S μ (.BoolOp .And (a :: b :: rest) pos) (bnd Ta fun x => if x then Tb else ret false) := ⟨by
    obtain ⟨ta, pa, sa⟩ := ha.ex
    obtain ⟨tb, pb, sb⟩ := hb.ex
    refine ⟨fun W => tAnd (ta W) (tb W), fun W X c => pw_and (pa W X c) (pb W X c), fun W R H σ ρ fps Q w h => ?_⟩
    refine sa W R H σ ρ fps _ w (h.bind fun k ρ1 h R1 H1 fps1 w1 x1 => ?_)
    cases k with
    | true => rw [if_pos rfl] at *; exact sb W R1 H1 σ ρ1 fps1 _ w1 (h.later x1)
    | false => exact h R1 H1 fps1 w1 x1⟩
theorem dw_or (ha : DT S μ a Ta) (hb : DW S μ (.BoolOp .Or (b :: rest) pos) Tb) : DW S μ (.BoolOp .Or (a :: b :: rest) pos) (bnd Ta fun x => if x then ret true else Tb) := ⟨by
    obtain ⟨ta, pa, sa⟩ := ha.ex
    obtain ⟨tb, pb, sb⟩ := hb.ex
    refine ⟨fun W => tOr (ta W) (tb W), fun W X c => pw_or (pa W X c) (pb W X c), fun W R H σ ρ fps Q w h => ?_⟩
    refine sa W R H σ ρ fps _ w (h.bind fun k ρ1 h R1 H1 fps1 w1 x1 => ?_)
    cases k with
    | true => exact h R1 H1 fps1 w1 x1
    | false => exact sb W R1 H1 σ ρ1 fps1 _ w1 (h.later x1)⟩
theorem dt_not (ha : DT S μ a Ta) : DT S μ (.UnaryOp .Not a pos) (bnd Ta fun x => ret (!x)) := ⟨by
    obtain ⟨ta, pa, sa⟩ := ha.ex
    refine ⟨fun W => tNot (ta W), fun W X c => pt_not (pa W X c), fun W R H σ ρ fps Q w h => ?_⟩
    exact sa W R H σ ρ fps _ w (h.bind fun k ρ1 h R1 H1 fps1 w1 x1 => h R1 H1 fps1 w1 x1)⟩
/-- and, or, not as values (truths) -/
theorem de_one {op : BoolOp} (h : DE S μ a m μ' F) : DE S μ (.BoolOp op [a] pos) m μ' F := ⟨h.bo, let ⟨te, p, s⟩ := h.ex; ⟨te, fun W X c => pe_one (p W X c), s⟩⟩
theorem de_and (ha : DE S μ a .S μ Fa) (hb : DE S μ (.BoolOp .And (b :: rest) pos) .S μ Fb) : DE S μ (.BoolOp .And (a :: b :: rest) pos) .S μ (bnd Fa fun x => bnd (opt (asB x)) fun k => if k then Fb else ret (.bl false)) where
  bo := rfl
  ex := by
    obtain ⟨ta, pa, sa⟩ := ha.ex
    obtain ⟨tb, pb, sb⟩ := hb.ex
    refine ⟨fun W => tAndV (ta W) (tb W), fun W X c => pe_and (pa W X c) (pb W X c), fun W R H σ ρ fps Q w h => ?_⟩
    refine sa W R H σ ρ fps _ w (h.bindS fun d ρ1 h v R1 H1 fps1 w1 r1 x1 => ?_)
    unfold bnd opt at h
    cases e : asB d with
    | none => rw [e] at h; exact h.elim
    | some k =>
      rw [e] at h
      refine ⟨k, asB_rep e r1, ?_⟩
      cases k with
      | true => exact sb W R1 H1 σ ρ1 fps1 _ w1 (PostE.later h x1 rfl)
      | false => exact h _ R1 H1 fps1 [] w1 ⟨rfl, rep_bl⟩ Tmp.nil x1
theorem de_or (ha : DE S μ a .S μ Fa) (hb : DE S μ (.BoolOp .Or (b :: rest) pos) .S μ Fb) : DE S μ (.BoolOp .Or (a :: b :: rest) pos) .S μ (bnd Fa fun x => bnd (opt (asB x)) fun k => if k then ret (.bl true) else Fb) where
  bo := rfl
  ex := by
    obtain ⟨ta, pa, sa⟩ := ha.ex
    obtain ⟨tb, pb, sb⟩ := hb.ex
    refine ⟨fun W => tOrV (ta W) (tb W), fun W X c => pe_or (pa W X c) (pb W X c), fun W R H σ ρ fps Q w h => ?_⟩
    refine sa W R H σ ρ fps _ w (h.bindS fun d ρ1 h v R1 H1 fps1 w1 r1 x1 => ?_)
    unfold bnd opt at h
    cases e : asB d with
    | none => rw [e] at h; exact h.elim
    | some k =>
      rw [e] at h
      refine ⟨k, asB_rep e r1, ?_⟩
      cases k with
      | false => exact sb W R1 H1 σ ρ1 fps1 _ w1 (PostE.later h x1 rfl)
      | true => exact h _ R1 H1 fps1 [] w1 ⟨rfl, rep_bl⟩ Tmp.nil x1
theorem de_not (ha : DE S μ a .S μ Fa) : DE S μ (.UnaryOp .Not a pos) .S μ (bnd Fa fun x => bnd (opt (asB x)) fun k => ret (.bl (!k))) where
  bo := rfl
  ex := by
    obtain ⟨ta, pa, sa⟩ := ha.ex
    refine ⟨fun W => tNotV (ta W), fun W X c => pe_not (pa W X c), fun W R H σ ρ fps Q w h => ?_⟩
    refine sa W R H σ ρ fps _ w (h.bindS fun d ρ1 h v R1 H1 fps1 w1 r1 x1 => ?_)
    unfold bnd opt at h
    cases e : asB d with
    | none => rw [e] at h; exact h.elim
    | some k =>
      rw [e] at h
      exact ⟨k, asB_rep e r1, h _ R1 H1 fps1 [] w1 ⟨rfl, rep_bl⟩ Tmp.nil x1⟩
/-- a if t else b -/
theorem de_if (ht : DT S μ c Ta) (ha : DE S μ a m μ' Fa) (hb : DE S μ b m μ' Fb) : DE S μ (.IfExp c a b pos) m μ' (bnd Ta fun k => if k then Fa else Fb) where
  bo := ha.bo
  ex := by
    obtain ⟨tt, pt, st⟩ := ht.ex
    obtain ⟨ta, pa, sa⟩ := ha.ex
    obtain ⟨tb, pb, sb⟩ := hb.ex
    refine ⟨fun W => tIf (tt W) (ta W) (tb W), fun W X c => pe_ifExp (pt W X c) (pa W X c) (pb W X c), fun W R H σ ρ fps Q w h => ?_⟩
    refine st W R H σ ρ fps _ w (h.bindT fun k ρ1 h R1 H1 fps1 w1 x1 => ?_)
    cases k with
    | true => exact sa W R1 H1 σ ρ1 fps1 _ w1 (h.later x1 rfl)
    | false => exact sb W R1 H1 σ ρ1 fps1 _ w1 (h.later x1 rfl)
/-- a op b op' c -/
theorem de_chain {op op' : CmpOp} {g g' : D → D → Option D} (o : Bin2 S (compareOp op) .S g) (o' : Bin2 S (compareOp op') .S g') (ha : DE S μ a .S μ Fa) (hb : DE S μ b .S μ Fb) (hc : DE S μ c .S μ Fc)
    (hm : lastMarks [op, op'] [b, c] = false := by with_unfolding_all rfl) : DE S μ (.Compare a [op, op'] [b, c] pos) .S μ (bnd Fa fun x => bnd Fb fun y => bnd (opt (oB (g x y))) fun k => if k then bnd Fc fun z => opt (g' y z) else ret (.bl false)) where
  bo := rfl
  ex := by
    obtain ⟨ta, pa, sa⟩ := ha.ex
    obtain ⟨tb, pb, sb⟩ := hb.ex
    obtain ⟨tc, pc, sc⟩ := hc.ex
    obtain ⟨r, pr, sr⟩ := o
    obtain ⟨r', pr', sr'⟩ := o'
    refine ⟨fun W => tChain r r' (ta W) (tb W) (tc W), fun W X c => pe_chain (pr W X c) (pr' W X c) (pa W X c) (pb W X c) (pc W X c) (by first | exact hm | assumption), fun W R H σ ρ fps Q w h => ?_⟩
    refine sa W R H σ ρ fps _ w (h.bindS fun d1 ρ1 h v1 R1 H1 fps1 w1 r1 x1 => ?_)
    refine sb W R1 H1 σ ρ1 fps1 _ w1 ((h.later x1 rfl).bindS fun d2 ρ2 h v2 R2 H2 fps2 w2 r2 x2 => ?_)
    unfold oB at h
    cases eg : g d1 d2 with
    | none => rw [eg] at h; exact h.elim
    | some d =>
      rw [eg] at h
      cases e : asB d with
      | none => simp only [Option.bind, e, opt, bnd] at h; exact h.elim
      | some k =>
        simp only [Option.bind, e, opt, bnd] at h
        refine sr _ _ _ _ _ _ _ _ _ _ _ _ w2 (r1.mono x2.sub) r2 eg fun v R' H' tf w' rv t x => ?_
        obtain ⟨et, rv⟩ := rv
        subst et
        refine ⟨k, asB_rep e rv, ?_⟩
        have x3 := x2.trans x
        cases k with
        | false => exact h _ R' H' fps2 [] w' ⟨rfl, rep_bl⟩ Tmp.nil x3
        | true =>
          refine sc W R' H' σ ρ2 fps2 _ w' ((PostE.later h x3 rfl).bindS fun d3 ρ3 h v3 R3 H3 fps3 w3 r3 x4 => ?_)
          obtain ⟨d, e, h⟩ := h.opt'
          exact sr' _ _ _ _ _ _ _ _ _ _ _ _ w3 (r2.mono (x.sub.trans x4.sub)) r3 e fun v R' H' tf w' rv t x => h v R' H' fps3 tf w' rv t (x4.trans x)
/-! ### arguments, displays -/
theorem da_nil : DA S μ [] μ (ret []) where
  bo := rfl
  ex := ⟨fun _ => tNil, fun W X c => pa_nil, fun W R H σ ρ fps Q w h => h [] R H fps w Reps.nil Ext.refl⟩
theorem da_cons {es : List Expr} {Fs : M (List D)} (he : DE S μ e .S μ1 F) (hr : DA S μ1 es μ2 Fs) (hs : ∀ env, starEach (e :: es) env = (false, eval e env) :: starEach es env := by intro _; rfl) : DA S μ (e :: es) μ2 (bnd F fun x => bnd Fs fun xs => ret (x :: xs)) where
  bo := hr.bo.trans he.bo
  ex := by
    obtain ⟨te, pe, se⟩ := he.ex
    obtain ⟨tr, pr, sr⟩ := hr.ex
    refine ⟨fun W => tCons (te W) (tr W), fun W X c => pa_cons (pe W X c) (pr W X c) (hs _), fun W R H σ ρ fps Q w h => ?_⟩
    refine se W R H σ ρ fps _ w (h.bindS fun d1 ρ1 h v1 R1 H1 fps1 w1 r1 x1 => ?_)
    refine sr W R1 H1 σ ρ1 fps1 _ w1 ((h.later x1 he.bo).bind fun ds ρ2 h vs R2 H2 fps2 w2 r2 x2 => ?_)
    exact h (v1 :: vs) R2 H2 fps2 w2 (Reps.cons (r1.mono x2.sub) r2) x2
theorem de_tup {es : List Expr} {k : Nat} {Fs : M (List D)} (h : DA S μ es μ' Fs) : DE S μ (.Tuple es k pos) .S μ' (bnd Fs fun xs => guard (decide (xs.length ≤ sizeLine)) (ret (.tup xs))) where
  bo := h.bo
  ex := by
    obtain ⟨te, p, s⟩ := h.ex
    refine ⟨fun W => tTup (te W), fun W X c => pe_tup (p W X c), fun W R H σ ρ fps Q w h => ?_⟩
    refine s W R H σ ρ fps _ w (h.bindA fun ds ρ1 h vs R1 H1 fps1 w1 r1 x1 => ?_)
    unfold guard at h
    split at h
    · rename_i hz
      have hz := of_decide_eq_true hz
      refine ⟨by rw [← r1.length]; exact hz, fun p hp => ?_⟩
      exact h _ (upd R1 p (.tup vs)) _ fps1 [] (w1.newS hp) ⟨rfl, rep_tup (SqT.of upd_same) (r1.mono (Sub.new (w1.sub.free hp)))⟩ Tmp.nil (x1.trans (Ext.newS w1.sub hp))
    · exact h.elim
theorem de_lst {es : List Expr} {Fs : M (List D)} (h : DA S μ es μ' Fs) : DE S μ (.List es pos) (.O .S) μ' (bnd Fs fun xs => guard (decide (xs.length ≤ sizeLine)) (ret (.lst xs))) where
  bo := h.bo
  ex := by
    obtain ⟨te, p, s⟩ := h.ex
    refine ⟨fun W => tLst (te W), fun W X c => pe_lst (p W X c), fun W R H σ ρ fps Q w h => ?_⟩
    refine s W R H σ ρ fps _ w (h.bindA fun ds ρ1 h vs R1 H1 fps1 w1 r1 x1 => ?_)
    unfold guard at h
    split at h
    · rename_i hz
      have hz := of_decide_eq_true hz
      refine ⟨by rw [← r1.length]; exact hz, fun p hp => ?_⟩
      exact h _ R1 _ fps1 [p] (w1.newO hp) (repM_OS' upd_same r1) (Tmp.new w1 hp) (x1.trans (Ext.newO hp))
    · exact h.elim
end
end VL

namespace VL
open PySem L2

/-! ### o[i] -/
def ixD : D → D → Option D
  | .lst ds, .int i => atI ds i
  | .tup ds, .int i => atI ds i
  | .str z, .int i => if z.length ≤ sizeLine then (atI z.cps.toList i).map fun c => .str ⟨#[c]⟩ else none
  | _, _ => none
section
variable {K : PySem.W.Frag} {C : CM} {R H : Hp}
theorem reps_at {ds : List D} {vs : List V} {i : Int} {d : D} (r : Reps K C R ds vs) (h : atI ds i = some d) : ∃ v, atI vs i = some v ∧ Rep K C R d v := by
  unfold atI at *
  rw [← r.length]
  cases e : ixN ds.length i with
  | none => rw [e] at h; cases h
  | some j =>
    rw [e] at h
    exact r.get h
theorem ixD_sound (s : Sub R H) {dx dy d : D} {x y : V} {Q : VK} (rx : Rep K C R dx x) (ry : Rep K C R dy y) (e : ixD dx dy = some d) (q : ∀ v, Rep K C R d v → Q v H) : rIx K x y H Q := by
  unfold ixD at e
  split at e
  · simp only [Rep] at rx ry
    obtain ⟨a, vs, rfl, hq, r⟩ := rx
    obtain ⟨v, hv, rv⟩ := reps_at r e
    exact .inl ⟨a, vs, _, v, rfl, ry, SqL.of (s _ _ hq), hv, q v rv⟩
  · simp only [Rep] at rx ry
    obtain ⟨a, vs, rfl, hq, r⟩ := rx
    obtain ⟨v, hv, rv⟩ := reps_at r e
    exact .inr (.inl ⟨a, vs, _, v, rfl, ry, sqT_mono s hq, hv, q v rv⟩)
  · simp only [Rep] at rx ry
    split at e
    · rename_i z i hz
      cases ec : atI z.cps.toList i with
      | none => rw [ec] at e; cases e
      | some c =>
        rw [ec] at e
        cases e
        exact .inr (.inr ⟨z, i, c, rx, ry, hz, ec, q _ rep_str⟩)
    · cases e
  · cases e
end
section
variable {S : Sta} {μ μ1 μ2 μ' : List Mo} {pos : Pos} {a b c e o : Expr} {Fa Fb Fc F Fo Fi : M D} {m : Mo}
theorem de_ix (ho : DE S μ o .S μ1 Fo) (hi : DE S μ1 e .S μ2 Fi) (hs : PlainIx e := by intro _ _; rfl) : DE S μ (.Subscript o e pos) .S μ2 (bnd Fo fun x => bnd Fi fun y => opt (ixD x y)) where
  bo := hi.bo.trans ho.bo
  ex := by
    obtain ⟨ta, pa, sa⟩ := ho.ex
    obtain ⟨tb, pb, sb⟩ := hi.ex
    refine ⟨fun W => tOp (rIx S.κ.K) (ta W) (tb W), fun W X c => ?_, fun W R H σ ρ fps Q w h => ?_⟩
    · have pa := pa W X c
      have pb := pb W X c
      obtain ⟨A, s0, H0, env, outer, stack, ex, fn, pn, xe, rfl⟩ := c.shape
      exact pe_ix ix_seq pa pb hs
    · refine sa W R H σ ρ fps _ w (h.bindS fun d1 ρ1 h v1 R1 H1 fps1 w1 r1 x1 => ?_)
      refine sb W R1 H1 σ ρ1 fps1 _ w1 ((h.later x1 ho.bo).bindS fun d2 ρ2 h v2 R2 H2 fps2 w2 r2 x2 => ?_)
      obtain ⟨d, e, h⟩ := h.opt'
      exact ixD_sound w2.sub (r1.mono x2.sub) r2 e fun v rv => h v R2 H2 fps2 [] w2 ⟨rfl, rv⟩ Tmp.nil x2
theorem eVar_bnd {α : Type} {j : Nat} {d : D} {ρ : List D} {f : D → M α} (h : ρ[j]? = some d) : bnd (eVar j) f ρ = f d ρ := by
  unfold bnd eVar
  simp only [h]
/-- a slot's own list (or a lent one), read -/
theorem Wd.ownL {κ : Kit} {R H : Hp} {ρ : List D} {σ : L2.St} {fps : Fps} (w : Wd κ R μ ρ σ H fps) {j : Nat} {m : Mo} {d : D} (hm : μ[j]? = some m) (ho : m = .O .S ∨ m = .B (.O .S)) (hd : ρ[j]? = some d) :
    ∃ v, σ[j]? = some (some v) ∧ RepM κ R H (.O .S) d v (fps j) := by
  rcases ho with rfl | rfl
  · exact w.get hm hd (by decide)
  · obtain ⟨v, e, r⟩ := w.get hm hd (by decide)
    exact ⟨v, e, r⟩
def ownS (m : Mo) : Bool := decide (m = .O .S) || decide (m = .B (.O .S))
theorem ownS_or {m : Mo} (h : ownS m = true) : m = .O .S ∨ m = .B (.O .S) := by
  unfold ownS at h
  simpa using h
/-- x[i], x a name that owns its list -/
theorem de_ixO (j : Nat) {x : Str} {p : Pos} (hm : μ[j]? = some m := by rfl) (ho : ownS m = true := by decide) (hN : S.N[j]? = some x := by rfl) (hi : DE S μ e .S μ Fi) (hv : Vis S.sc x := by first | exact Or.inl rfl | exact Or.inr (Or.inl rfl) | exact Or.inr (Or.inr rfl))
    (hs : PlainIx e := by intro _ _; rfl) (hd : (x == ("__debug__" : Str)) = false := by decide) (hcd : (x == ("__classdict__" : Str)) = false := by decide) : DE S μ (.Subscript (.Name x p) e pos) .S μ (bnd Fi fun y => bnd (eVar j) fun x => opt (ixD x y)) where
  bo := rfl
  ex := by
    obtain ⟨tb, pb, sb⟩ := hi.ex
    refine ⟨fun W => tOp (rIx S.κ.K) (tVar j) (tb W), fun W X c => ?_, fun W R H σ ρ fps Q w h => ?_⟩
    · have pb := pb W X c
      obtain ⟨A, s0, H0, env, outer, stack, ex, fn, pn, xe, rfl⟩ := c.shape
      exact pe_ix ix_seq (pe_var hN (vis_of c.sc hv) hd hcd) pb hs
    · have hj := (List.getElem?_eq_some_iff.mp hm).1
      obtain ⟨m0, d0, em, ed, _⟩ := w.slot hj
      obtain ⟨v, ev, rv⟩ := w.ownL hm (ownS_or ho) ed
      refine ⟨v, ev, sb W R H σ ρ fps _ w (h.bindS fun d2 ρ2 h v2 R2 H2 fps2 w2 r2 x2 => ?_)⟩
      obtain ⟨m1, d1, em1, ed1, _⟩ := w2.slot hj
      obtain ⟨v', ev', rv'⟩ := w2.ownL hm (ownS_or ho) ed1
      rw [ev] at ev'; cases ev'
      rw [eVar_bnd ed1] at h
      obtain ⟨d, e, hq⟩ := PostE.opt' h
      -- the list stands in the heap: told of the heap itself
      unfold ixD at e
      split at e
      · obtain ⟨a, vs, rfl, ef, ea, r⟩ := repM_OS rv'
        obtain ⟨v3, hv3, r3⟩ := reps_at r e
        simp only [Rep] at r2
        exact .inl ⟨a, vs, _, v3, rfl, r2, SqL.of ea, hv3, hq v3 R2 H2 fps2 [] w2 ⟨rfl, r3⟩ Tmp.nil x2⟩
      · exact rv'.elim
      · exact rv'.elim
      · cases e
/-! ### o[lo:hi] -/
structure DO (S : Sta) (μ : List Mo) (o : Option Expr) (F : M (Option Int)) : Prop where
  ex : ∃ te : WX → TO, (∀ W X, Conf S W X → PO X o (te W)) ∧ ∀ W R H σ ρ fps Q, Wd S.κ R μ ρ σ H fps → PostT S μ R H σ fps W Q (F ρ) → te W σ H Q
theorem do_none : DO S μ none (ret none) := ⟨fun _ => tNoPart, fun W X c => po_none, fun W R H σ ρ fps Q w h => h R H fps w Ext.refl⟩
def asI : D → Option (Option Int)
  | .int i => some (some i)
  | _ => none
theorem do_some (h : DE S μ e .S μ F) : DO S μ (some e) (bnd F fun x => opt (asI x)) := ⟨by
  obtain ⟨te, p, s⟩ := h.ex
  refine ⟨fun W => tPart (te W), fun W X c => po_some (p W X c), fun W R H σ ρ fps Q w h => ?_⟩
  refine s W R H σ ρ fps _ w (h.bindS fun d ρ1 h v R1 H1 fps1 w1 r1 x1 => ?_)
  obtain ⟨d', e, h⟩ := h.opt'
  cases d <;> simp only [asI] at e <;> first | (cases e; done) | skip
  cases e
  simp only [Rep] at r1
  exact ⟨_, r1, h R1 H1 fps1 w1 x1⟩⟩
def cutD (xs : List D) (lo hi : Option Int) : List D := (xs.drop (HT.sIx xs.length 0 lo)).take (HT.sIx xs.length xs.length hi - HT.sIx xs.length 0 lo)
theorem cut_reps {K : PySem.W.Frag} {C : CM} {R : Hp} {ds : List D} {vs : List V} {lo hi : Option Int} (r : Reps K C R ds vs) : Reps K C R (cutD ds lo hi) (cutV vs lo hi) := by
  unfold cutD cutV
  rw [← r.length]
  exact (r.drop _).take _
def slLD (x : D) (lo hi : Option Int) : Option D := match x with
  | .lst ds => some (.lst (cutD ds lo hi))
  | _ => none
def slSD (x : D) (lo hi : Option Int) : Option D := match x with
  | .str z => if z.length ≤ sizeLine then some (.str (cutS z lo hi)) else none
  | _ => none
variable {lo hi : Option Expr} {Fl Fh : M (Option Int)} {p2 : Pos}
/-- a slice of a list: a new list -/
theorem de_slL (ho : DE S μ o .S μ Fo) (hl : DO S μ lo Fl) (hh : DO S μ hi Fh) : DE S μ (.Subscript o (.Slice lo hi none p2) pos) (.O .S) μ (bnd Fo fun x => bnd Fl fun l => bnd Fh fun h => opt (slLD x l h)) where
  bo := rfl
  ex := by
    obtain ⟨ta, pa, sa⟩ := ho.ex
    obtain ⟨tl, pl, sl⟩ := hl.ex
    obtain ⟨th, ph, sh⟩ := hh.ex
    refine ⟨fun W => tSl (rSlL S.κ.K) (ta W) (tl W) (th W), fun W X c => ?_, fun W R H σ ρ fps Q w h => ?_⟩
    · have pa := pa W X c
      have pl := pl W X c
      have ph := ph W X c
      obtain ⟨A, s0, H0, env, outer, stack, ex, fn, pn, xe, rfl⟩ := c.shape
      exact pe_slice sl_list pa pl ph
    · refine sa W R H σ ρ fps _ w (h.bindS fun d1 ρ1 h v1 R1 H1 fps1 w1 r1 x1 => ?_)
      refine sl W R1 H1 σ ρ1 fps1 _ w1 ((h.later x1 rfl).bindT fun l ρ2 h R2 H2 fps2 w2 x2 => ?_)
      refine sh W R2 H2 σ ρ2 fps2 _ w2 ((h.later x2 rfl).bindT fun u ρ3 h R3 H3 fps3 w3 x3 => ?_)
      obtain ⟨d, e, h⟩ := h.opt'
      cases d1 <;> simp only [slLD] at e <;> first | (cases e; done) | skip
      cases e
      simp only [Rep] at r1
      obtain ⟨a, vs, rfl, hq, r⟩ := r1
      have s3 := x2.sub.trans x3.sub
      refine ⟨a, vs, rfl, SqL.of (w3.sub _ _ (s3 _ _ hq)), fun p hp => ?_⟩
      exact h _ R3 _ fps3 [p] (w3.newO hp) (repM_OS' upd_same (cut_reps (r.mono s3))) (Tmp.new w3 hp) (x3.trans (Ext.newO hp))
/-- .. of a name that owns its list, of the script -/
def readL (m : Mo) : Bool := ownS m || decide (m = .Q)
theorem Wd.readL {κ : Kit} {R H : Hp} {ρ : List D} {σ : L2.St} {fps : Fps} (w : Wd κ R μ ρ σ H fps) {j : Nat} {m : Mo} {ds : List D} (hm : μ[j]? = some m) (ho : readL m = true) (hd : ρ[j]? = some (.lst ds)) :
    ∃ a vs, σ[j]? = some (some (.ref a)) ∧ SqL κ.K H a vs ∧ Reps κ.K κ.C R ds vs := by
  unfold VL.readL at ho
  rw [Bool.or_eq_true, decide_eq_true_eq] at ho
  rcases ho with ho | rfl
  · obtain ⟨v, e, r⟩ := w.ownL hm (ownS_or ho) hd
    obtain ⟨a, vs, rfl, _, ea, r⟩ := repM_OS r
    exact ⟨a, vs, e, SqL.of ea, r⟩
  · obtain ⟨v, e, r⟩ := w.get hm hd (by decide)
    obtain ⟨_, a, vs, rfl, ea, r⟩ := r
    exact ⟨a, vs, e, sqL_mono w.sub ea, r⟩
theorem readL_ne {m : Mo} (h : readL m = true) : m ≠ .U := by intro e; subst e; revert h; decide
theorem de_slO (j : Nat) {x : Str} {p : Pos} (hm : μ[j]? = some m := by rfl) (hr : readL m = true := by decide) (hN : S.N[j]? = some x := by rfl) (hl : DO S μ lo Fl) (hh : DO S μ hi Fh) (hv : Vis S.sc x := by first | exact Or.inl rfl | exact Or.inr (Or.inl rfl) | exact Or.inr (Or.inr rfl))
    (hd : (x == ("__debug__" : Str)) = false := by decide) (hcd : (x == ("__classdict__" : Str)) = false := by decide) : DE S μ (.Subscript (.Name x p) (.Slice lo hi none p2) pos) (.O .S) μ (bnd Fl fun l => bnd Fh fun h => bnd (eVar j) fun x => opt (slLD x l h)) where
  bo := rfl
  ex := by
    obtain ⟨tl, pl, sl⟩ := hl.ex
    obtain ⟨th, ph, sh⟩ := hh.ex
    refine ⟨fun W => tSl (rSlL S.κ.K) (tVar j) (tl W) (th W), fun W X c => ?_, fun W R H σ ρ fps Q w h => ?_⟩
    · have pl := pl W X c
      have ph := ph W X c
      obtain ⟨A, s0, H0, env, outer, stack, ex, fn, pn, xe, rfl⟩ := c.shape
      exact pe_slice sl_list (pe_var hN (vis_of c.sc hv) hd hcd) pl ph
    · have hj := (List.getElem?_eq_some_iff.mp hm).1
      obtain ⟨m0, d0, em, ed, _⟩ := w.slot hj
      obtain ⟨v, ev, rv⟩ := w.get hm ed (readL_ne hr)
      refine ⟨v, ev, ?_⟩
      refine sl W R H σ ρ fps _ w (h.bindT fun l ρ2 h R2 H2 fps2 w2 x2 => ?_)
      refine sh W R2 H2 σ ρ2 fps2 _ w2 ((h.later x2 rfl).bindT fun u ρ3 h R3 H3 fps3 w3 x3 => ?_)
      obtain ⟨m1, d1, em1, ed1, _⟩ := w3.slot hj
      rw [eVar_bnd ed1] at h
      obtain ⟨d, e, h⟩ := PostE.opt' h
      cases d1 <;> simp only [slLD] at e <;> first | (cases e; done) | skip
      cases e
      obtain ⟨a, vs, ev', hq, r⟩ := w3.readL hm hr ed1
      rw [ev] at ev'; cases ev'
      refine ⟨a, vs, rfl, hq, fun p hp => ?_⟩
      exact h _ R3 _ fps3 [p] (w3.newO hp) (repM_OS' upd_same (cut_reps r)) (Tmp.new w3 hp) (x3.trans (Ext.newO hp))
/-- a slice of a text -/
theorem de_slS (ho : DE S μ o .S μ Fo) (hl : DO S μ lo Fl) (hh : DO S μ hi Fh) : DE S μ (.Subscript o (.Slice lo hi none p2) pos) .S μ (bnd Fo fun x => bnd Fl fun l => bnd Fh fun h => opt (slSD x l h)) where
  bo := rfl
  ex := by
    obtain ⟨ta, pa, sa⟩ := ho.ex
    obtain ⟨tl, pl, sl⟩ := hl.ex
    obtain ⟨th, ph, sh⟩ := hh.ex
    refine ⟨fun W => tSl rSlS (ta W) (tl W) (th W), fun W X c => pe_slice sl_str (pa W X c) (pl W X c) (ph W X c), fun W R H σ ρ fps Q w h => ?_⟩
    refine sa W R H σ ρ fps _ w (h.bindS fun d1 ρ1 h v1 R1 H1 fps1 w1 r1 x1 => ?_)
    refine sl W R1 H1 σ ρ1 fps1 _ w1 ((h.later x1 rfl).bindT fun l ρ2 h R2 H2 fps2 w2 x2 => ?_)
    refine sh W R2 H2 σ ρ2 fps2 _ w2 ((h.later x2 rfl).bindT fun u ρ3 h R3 H3 fps3 w3 x3 => ?_)
    obtain ⟨d, e, h⟩ := h.opt'
    cases d1 <;> simp only [slSD] at e <;> first | (cases e; done) | skip
    split at e
    · rename_i hz
      cases e
      simp only [Rep] at r1
      exact ⟨_, r1, hz, h _ R3 H3 fps3 [] w3 ⟨rfl, rep_str⟩ Tmp.nil x3⟩
    · cases e
end
/-! ### the calls of built-in functions -/
def CallD (S : Sta) (fv : Value) (m : Mo) (g : List D → Option D) : Prop :=
  ∃ r : List V → Hp → VK → Prop, (∀ W X, Conf S W X → CallR X fv r) ∧ ∀ μ ρ σ R H fps ds vs d Q, Wd S.κ R μ ρ σ H fps → Reps S.κ.K S.κ.C R ds vs → g ds = some d → Giv S.κ μ ρ σ R H fps m d Q → r vs H Q
section
variable {S : Sta} {μ μ1 μ2 μ' : List Mo} {pos p : Pos} {e : Expr} {es : List Expr} {F : M D} {Fs : M (List D)} {m : Mo} {x : Str} {id T : String} {g : List D → Option D}
theorem gl_of {X : Cx} {x : Str} (e : X.env.scope = S.sc) (h : S.sc.names.lookup x = some .globalImplicit) : Gl X x := by
  show X.env.scope.names.lookup x = some .globalImplicit
  rw [e]; exact h
theorem de_callB (hc : CallD S (.builtin id) m g) (ha : DA S μ (e :: es) μ' Fs) (hm : S.mg x = none) (hv : bootBuiltins x = some (.builtin id) := by decide +kernel) (hg : S.sc.names.lookup x = some .globalImplicit := by rfl)
    (hn : x ≠ "__name__" := by decide) (hdb : (x == ("__debug__" : Str)) = false := by decide) (he : ∀ env, starEach (e :: es) env = (false, eval e env) :: starEach es env := by intro _; rfl) (hpl : ∀ env, (backTo pos (starEach es env)).any (·.1) = false := by intro _; rfl) :
    DE S μ (.Call (.Name x p) (e :: es) [] pos) m μ' (bnd Fs fun xs => opt (g xs)) where
  bo := ha.bo
  ex := by
    obtain ⟨ta, pa, sa⟩ := ha.ex
    obtain ⟨r, pr, sr⟩ := hc
    refine ⟨fun W => tCB r (ta W), fun W X c => ?_, fun W R H σ ρ fps Q w h => ?_⟩
    · have pa := pa W X c
      have pr := pr W X c
      have hg' : Gl X x := gl_of c.sc hg
      obtain ⟨A, s0, H0, env, outer, stack, ex, fn, pn, xe, rfl⟩ := c.shape
      exact pe_callB pr hg' hm hv pa hn hdb (he _) (hpl _)
    · refine sa W R H σ ρ fps _ w (h.bindA fun ds ρ1 h vs R1 H1 fps1 w1 r1 x1 => ?_)
      obtain ⟨d, e, h⟩ := h.opt'
      exact sr _ _ _ _ _ _ _ _ _ _ w1 r1 e fun v R' H' tf w' rv t x => h v R' H' fps1 tf w' rv t (x1.trans x)
theorem de_callT (hc : CallD S (.type T) m g) (ha : DA S μ (e :: es) μ' Fs) (hm : S.mg x = none) (hv : bootBuiltins x = some (.type T) := by decide +kernel) (hg : S.sc.names.lookup x = some .globalImplicit := by rfl)
    (hn : x ≠ "__name__" := by decide) (hdb : (x == ("__debug__" : Str)) = false := by decide) (he : ∀ env, starEach (e :: es) env = (false, eval e env) :: starEach es env := by intro _; rfl) (hpl : ∀ env, (backTo pos (starEach es env)).any (·.1) = false := by intro _; rfl) :
    DE S μ (.Call (.Name x p) (e :: es) [] pos) m μ' (bnd Fs fun xs => opt (g xs)) where
  bo := ha.bo
  ex := by
    obtain ⟨ta, pa, sa⟩ := ha.ex
    obtain ⟨r, pr, sr⟩ := hc
    refine ⟨fun W => tCB r (ta W), fun W X c => ?_, fun W R H σ ρ fps Q w h => ?_⟩
    · have pa := pa W X c
      have pr := pr W X c
      have hg' : Gl X x := gl_of c.sc hg
      obtain ⟨A, s0, H0, env, outer, stack, ex, fn, pn, xe, rfl⟩ := c.shape
      exact pe_callTy pr hg' hm hv pa hn hdb (he _) (hpl _)
    · refine sa W R H σ ρ fps _ w (h.bindA fun ds ρ1 h vs R1 H1 fps1 w1 r1 x1 => ?_)
      obtain ⟨d, e, h⟩ := h.opt'
      exact sr _ _ _ _ _ _ _ _ _ _ w1 r1 e fun v R' H' tf w' rv t x => h v R' H' fps1 tf w' rv t (x1.trans x)
theorem reps1 {K : PySem.W.Frag} {C : CM} {R : Hp} {d : D} {vs : List V} (r : Reps K C R [d] vs) : ∃ v, vs = [v] ∧ Rep K C R d v := by
  simp only [Reps] at r
  obtain ⟨v, r', rfl, q, rfl⟩ := r
  exact ⟨v, rfl, q⟩
theorem reps2 {K : PySem.W.Frag} {C : CM} {R : Hp} {d d' : D} {vs : List V} (r : Reps K C R [d, d'] vs) : ∃ v v', vs = [v, v'] ∧ Rep K C R d v ∧ Rep K C R d' v' := by
  simp only [Reps] at r
  obtain ⟨v, r', rfl, q, v', r2, rfl, q', rfl⟩ := r
  exact ⟨v, v', rfl, q, q'⟩
/-- len -/
def lenD : List D → Option D
  | [.str z] => if z.length ≤ sizeLine then some (.int z.length) else none
  | [.lst ds] => some (.int ds.length)
  | [.tup ds] => some (.int ds.length)
  | _ => none
theorem f_len : CallD S (.builtin "len") .S lenD := by
  refine ⟨fun xs H Q => ∃ x n, xs = [x] ∧ LenV S.κ.K x H n ∧ Q (.int n) H, fun W X c => ?_, fun μ ρ σ R H fps ds vs d Q w r e q => ?_⟩
  · obtain ⟨A, s0, H0, env, outer, stack, ex, fn, pn, xe, rfl⟩ := c.shape
    exact call_len
  · unfold lenD at e
    split at e
    · obtain ⟨v, rfl, r1⟩ := reps1 r
      simp only [Rep] at r1
      subst r1
      split at e
      · rename_i hz
        cases e
        exact ⟨_, _, rfl, ⟨hz, rfl⟩, q.s w rep_int⟩
      · cases e
    · obtain ⟨v, rfl, r1⟩ := reps1 r
      simp only [Rep] at r1
      obtain ⟨a, vs, rfl, hq, r2⟩ := r1
      cases e
      exact ⟨_, _, rfl, .inl ⟨vs, SqL.of (w.sub _ _ hq), r2.length⟩, q.s w rep_int⟩
    · obtain ⟨v, rfl, r1⟩ := reps1 r
      simp only [Rep] at r1
      obtain ⟨a, vs, rfl, hq, r2⟩ := r1
      cases e
      exact ⟨_, _, rfl, .inr ⟨vs, sqT_mono w.sub hq, r2.length⟩, q.s w rep_int⟩
    · cases e
/-- calls upon one scalar, that make nothing -/
theorem CallD.sc1 {fv : Value} {g : D → Option D} {r : List V → Hp → VK → Prop} (hr : ∀ W X, Conf S W X → CallR X fv r)
    (h : ∀ R H dx x d (Q : VK), Sub R H → Rep S.κ.K S.κ.C R dx x → g dx = some d → (∀ v, Rep S.κ.K S.κ.C R d v → Q v H) → r [x] H Q) : CallD S fv .S (fun | [x] => g x | _ => none) := by
  refine ⟨r, hr, fun μ ρ σ R H fps ds vs d Q w rr e q => ?_⟩
  match ds, e with
  | [dx], e =>
    obtain ⟨v, rfl, r1⟩ := reps1 rr
    exact h R H dx v d Q w.sub r1 e fun v rv => q.s w rv
theorem CallD.sc2 {fv : Value} {g : D → D → Option D} {r : List V → Hp → VK → Prop} (hr : ∀ W X, Conf S W X → CallR X fv r)
    (h : ∀ R H dx dy x y d (Q : VK), Sub R H → Rep S.κ.K S.κ.C R dx x → Rep S.κ.K S.κ.C R dy y → g dx dy = some d → (∀ v, Rep S.κ.K S.κ.C R d v → Q v H) → r [x, y] H Q) : CallD S fv .S (fun | [x, y] => g x y | _ => none) := by
  refine ⟨r, hr, fun μ ρ σ R H fps ds vs d Q w rr e q => ?_⟩
  match ds, e with
  | [dx, dy], e =>
    obtain ⟨v, v', rfl, r1, r2⟩ := reps2 rr
    exact h R H dx dy v v' d Q w.sub r1 r2 e fun v rv => q.s w rv
def absD : D → Option D
  | .int i => some (.int (if i < 0 then -i else i))
  | _ => none
theorem f_abs : CallD S (.builtin "abs") .S (fun | [x] => absD x | _ => none) := CallD.sc1 (fun _ _ _ => call_abs) fun R H dx x d Q s rx e q => by
  cases dx <;> simp only [absD] at e <;> first | (cases e; done) | skip
  cases e
  simp only [Rep] at rx
  exact ⟨_, by rw [rx], q _ rep_int⟩
def intD : D → Option D
  | .int i => some (.int i)
  | .bl k => some (.int (if k then 1 else 0))
  | _ => none
theorem f_int : CallD S (.type "int") .S (fun | [x] => intD x | _ => none) := CallD.sc1 (fun _ _ _ => call_int1) fun R H dx x d Q s rx e q => by
  cases dx <;> simp only [intD] at e <;> first | (cases e; done) | skip
  · cases e
    simp only [Rep] at rx
    exact .inr ⟨_, by rw [rx], q _ rep_int⟩
  · cases e
    simp only [Rep] at rx
    exact .inl ⟨_, by rw [rx], q _ rep_int⟩
def intSD : D → Option D
  | .str a => if a.length ≤ 640 then (PySem.intText? a).map D.int else none
  | _ => none
theorem f_intS : CallD S (.type "int") .S (fun | [x] => intSD x | _ => none) := CallD.sc1 (fun _ _ _ => call_int_str) fun R H dx x d Q s rx e q => by
  cases dx <;> simp only [intSD] at e <;> first | (cases e; done) | skip
  rename_i a
  simp only [Rep] at rx
  split at e
  · rename_i hz
    cases ea : PySem.intText? a with
    | none => rw [ea] at e; cases e
    | some n =>
      rw [ea] at e
      cases e
      exact ⟨a, n, by rw [rx], ea, hz, q _ rep_int⟩
  · cases e
def strD : D → Option D
  | .int i => if i.natAbs.log2 < 1920 then some (.str (toString i)) else none
  | .str a => some (.str a)
  | _ => none
theorem f_str : CallD S (.type "str") .S (fun | [x] => strD x | _ => none) := CallD.sc1 (r := fun xs H Q => (∃ i, xs = [.int i] ∧ i.natAbs.log2 < 1920 ∧ Q (.str (toString i)) H) ∨ (∃ a, xs = [.str a] ∧ Q (.str a) H))
  (fun W X c pins s σ H xs us Q I r h => by
    rcases h with h | h
    · exact call_str_int pins s σ H xs us Q I r h
    · exact SkE.call_str_str pins s σ H xs us Q I r h) fun R H dx x d Q s rx e q => by
  cases dx <;> simp only [strD] at e <;> first | (cases e; done) | skip
  · simp only [Rep] at rx
    split at e
    · rename_i hz
      cases e
      exact .inl ⟨_, by rw [rx], hz, q _ rep_str⟩
    · cases e
  · simp only [Rep] at rx
    cases e
    exact .inr ⟨_, by rw [rx], q _ rep_str⟩
def boolD : D → Option D
  | .int i => some (.bl (i != 0))
  | .bl k => some (.bl k)
  | _ => none
theorem f_bool : CallD S (.type "bool") .S (fun | [x] => boolD x | _ => none) := CallD.sc1 (fun _ _ _ => call_bool1) fun R H dx x d Q s rx e q => by
  cases dx <;> simp only [boolD] at e <;> first | (cases e; done) | skip
  · cases e
    simp only [Rep] at rx
    exact .inr ⟨_, by rw [rx], q _ rep_bl⟩
  · cases e
    simp only [Rep] at rx
    exact .inl ⟨_, by rw [rx], q _ rep_bl⟩
def asInts : List D → Option (List Int)
  | [] => some []
  | .int i :: r => (asInts r).map (i :: ·)
  | _ => none
def asBls : List D → Option (List Bool)
  | [] => some []
  | .bl i :: r => (asBls r).map (i :: ·)
  | _ => none
def asStrs : List D → Option (List Str)
  | [] => some []
  | .str i :: r => (asStrs r).map (i :: ·)
  | _ => none
theorem asInts_eq : ∀ {ds : List D} {ns : List Int}, asInts ds = some ns → ds = ns.map D.int
  | [], ns, h => by simp only [asInts] at h; cases h; rfl
  | d :: ds, ns, h => by
    cases d <;> simp only [asInts] at h <;> first | (cases h; done) | skip
    cases e : asInts ds with
    | none => rw [e] at h; cases h
    | some l => rw [e] at h; cases h; rw [asInts_eq e]; rfl
theorem asBls_eq : ∀ {ds : List D} {ns : List Bool}, asBls ds = some ns → ds = ns.map D.bl
  | [], ns, h => by simp only [asBls] at h; cases h; rfl
  | d :: ds, ns, h => by
    cases d <;> simp only [asBls] at h <;> first | (cases h; done) | skip
    cases e : asBls ds with
    | none => rw [e] at h; cases h
    | some l => rw [e] at h; cases h; rw [asBls_eq e]; rfl
theorem asStrs_eq : ∀ {ds : List D} {ns : List Str}, asStrs ds = some ns → ds = ns.map D.str
  | [], ns, h => by simp only [asStrs] at h; cases h; rfl
  | d :: ds, ns, h => by
    cases d <;> simp only [asStrs] at h <;> first | (cases h; done) | skip
    cases e : asStrs ds with
    | none => rw [e] at h; cases h
    | some l => rw [e] at h; cases h; rw [asStrs_eq e]; rfl
@[simp] theorem asInts_map (ns : List Int) : asInts (ns.map D.int) = some ns := by induction ns with | nil => rfl | cons n r ih => simp [asInts, ih]
@[simp] theorem asBls_map (ns : List Bool) : asBls (ns.map D.bl) = some ns := by induction ns with | nil => rfl | cons n r ih => simp [asBls, ih]
@[simp] theorem asStrs_map (ns : List Str) : asStrs (ns.map D.str) = some ns := by induction ns with | nil => rfl | cons n r ih => simp [asStrs, ih]
theorem ints_inv {K : PySem.W.Frag} {C : CM} {R : Hp} : ∀ {ns : List Int} {vs : List V}, Reps K C R (ns.map D.int) vs → vs = ns.map V.int
  | [], vs, r => by simp only [List.map_nil, Reps] at r; exact r
  | n :: ns, vs, r => by
    simp only [List.map_cons, Reps, Rep] at r
    obtain ⟨v, r', rfl, rfl, t⟩ := r
    rw [ints_inv t]; rfl
theorem bls_inv {K : PySem.W.Frag} {C : CM} {R : Hp} : ∀ {ns : List Bool} {vs : List V}, Reps K C R (ns.map D.bl) vs → vs = ns.map V.bl
  | [], vs, r => by simp only [List.map_nil, Reps] at r; exact r
  | n :: ns, vs, r => by
    simp only [List.map_cons, Reps, Rep] at r
    obtain ⟨v, r', rfl, rfl, t⟩ := r
    rw [bls_inv t]; rfl
theorem strs_inv {K : PySem.W.Frag} {C : CM} {R : Hp} : ∀ {ns : List Str} {vs : List V}, Reps K C R (ns.map D.str) vs → vs = ns.map V.str
  | [], vs, r => by simp only [List.map_nil, Reps] at r; exact r
  | n :: ns, vs, r => by
    simp only [List.map_cons, Reps, Rep] at r
    obtain ⟨v, r', rfl, rfl, t⟩ := r
    rw [strs_inv t]; rfl
def sumD : D → Option D
  | .lst ds => (asInts ds).map fun ns => .int ns.sum
  | _ => none
theorem f_sum : CallD S (.builtin "sum") .S (fun | [x] => sumD x | _ => none) := CallD.sc1 (r := rSum S.κ.K) (fun W X c => by
    obtain ⟨A, s0, H0, env, outer, stack, ex, fn, pn, xe, rfl⟩ := c.shape
    exact cr_sum rfl) fun R H dx x d Q s rx e q => by
  cases dx <;> simp only [sumD] at e <;> first | (cases e; done) | skip
  simp only [Rep] at rx
  obtain ⟨a, vs, rfl, hq, r⟩ := rx
  rename_i ds
  cases ei : asInts ds with
  | none => rw [ei] at e; cases e
  | some ns =>
    rw [ei] at e
    cases e
    rw [asInts_eq ei] at r
    rw [ints_inv r] at hq
    exact ⟨a, ns, rfl, SqL.of (s _ _ hq), q _ rep_int⟩
def allD : D → Option D
  | .lst ds => (asBls ds).map fun ns => .bl (ns.all _root_.id)
  | _ => none
def anyD : D → Option D
  | .lst ds => (asBls ds).map fun ns => .bl (ns.any _root_.id)
  | _ => none
theorem f_all : CallD S (.builtin "all") .S (fun | [x] => allD x | _ => none) := CallD.sc1 (r := rAll S.κ.K) (fun W X c => by
    obtain ⟨A, s0, H0, env, outer, stack, ex, fn, pn, xe, rfl⟩ := c.shape
    exact cr_all rfl) fun R H dx x d Q s rx e q => by
  cases dx <;> simp only [allD] at e <;> first | (cases e; done) | skip
  simp only [Rep] at rx
  obtain ⟨a, vs, rfl, hq, r⟩ := rx
  rename_i ds
  cases ei : asBls ds with
  | none => rw [ei] at e; cases e
  | some ns =>
    rw [ei] at e
    cases e
    rw [asBls_eq ei] at r
    rw [bls_inv r] at hq
    exact ⟨a, ns, rfl, SqL.of (s _ _ hq), q _ rep_bl⟩
theorem f_any : CallD S (.builtin "any") .S (fun | [x] => anyD x | _ => none) := CallD.sc1 (r := rAny S.κ.K) (fun W X c => by
    obtain ⟨A, s0, H0, env, outer, stack, ex, fn, pn, xe, rfl⟩ := c.shape
    exact cr_any rfl) fun R H dx x d Q s rx e q => by
  cases dx <;> simp only [anyD] at e <;> first | (cases e; done) | skip
  simp only [Rep] at rx
  obtain ⟨a, vs, rfl, hq, r⟩ := rx
  rename_i ds
  cases ei : asBls ds with
  | none => rw [ei] at e; cases e
  | some ns =>
    rw [ei] at e
    cases e
    rw [asBls_eq ei] at r
    rw [bls_inv r] at hq
    exact ⟨a, ns, rfl, SqL.of (s _ _ hq), q _ rep_bl⟩
def max2D : D → D → Option D
  | .int i, .int j => some (.int (if j > i then j else i))
  | _, _ => none
def min2D : D → D → Option D
  | .int i, .int j => some (.int (if j < i then j else i))
  | _, _ => none
theorem f_max2 : CallD S (.builtin "max") .S (fun | [x, y] => max2D x y | _ => none) := CallD.sc2 (fun W X c => by
    obtain ⟨A, s0, H0, env, outer, stack, ex, fn, pn, xe, rfl⟩ := c.shape
    exact call_max2 rfl) fun R H dx dy x y d Q s rx ry e q => by
  cases dx <;> cases dy <;> simp only [max2D] at e <;> first | (cases e; done) | skip
  cases e
  simp only [Rep] at rx ry
  exact ⟨_, _, by rw [rx, ry], q _ rep_int⟩
theorem f_min2 : CallD S (.builtin "min") .S (fun | [x, y] => min2D x y | _ => none) := CallD.sc2 (fun W X c => by
    obtain ⟨A, s0, H0, env, outer, stack, ex, fn, pn, xe, rfl⟩ := c.shape
    exact call_min2 rfl) fun R H dx dy x y d Q s rx ry e q => by
  cases dx <;> cases dy <;> simp only [min2D] at e <;> first | (cases e; done) | skip
  cases e
  simp only [Rep] at rx ry
  exact ⟨_, _, by rw [rx, ry], q _ rep_int⟩
/-- list(..): a new list; tuple(..) -/
def listD : List D → Option D
  | [.lst ds] => some (.lst ds)
  | [.tup ds] => some (.lst ds)
  | _ => none
theorem f_list : CallD S (.type "list") (.O .S) listD := by
  refine ⟨fun xs H Q => ∃ p ys, xs = [.ref p] ∧ (SqL S.κ.K H p ys ∨ SqT S.κ.K H p ys) ∧ ∀ l, H l = none → Q (.ref l) (upd H l (.lst ys)), fun W X c => ?_, fun μ ρ σ R H fps ds vs d Q w r e q => ?_⟩
  · obtain ⟨A, s0, H0, env, outer, stack, ex, fn, pn, xe, rfl⟩ := c.shape
    exact call_list_of
  · unfold listD at e
    split at e
    · obtain ⟨v, rfl, r1⟩ := reps1 r
      simp only [Rep] at r1
      obtain ⟨a, vs, rfl, hq, r2⟩ := r1
      cases e
      exact ⟨a, vs, rfl, .inl (SqL.of (w.sub _ _ hq)), fun p hp => q.newL w r2 hp⟩
    · obtain ⟨v, rfl, r1⟩ := reps1 r
      simp only [Rep] at r1
      obtain ⟨a, vs, rfl, hq, r2⟩ := r1
      cases e
      exact ⟨a, vs, rfl, .inr (sqT_mono w.sub hq), fun p hp => q.newL w r2 hp⟩
    · cases e
def tupleD : List D → Option D
  | [.lst ds] => some (.tup ds)
  | [.tup ds] => some (.tup ds)
  | _ => none
theorem f_tuple : CallD S (.type "tuple") .S tupleD := by
  refine ⟨fun xs H Q => ∃ p ys, xs = [.ref p] ∧ ((SqL S.κ.K H p ys ∧ ∀ l, H l = none → Q (.ref l) (upd H l (.tup ys))) ∨ (SqT S.κ.K H p ys ∧ Q (.ref p) H)), fun W X c => ?_, fun μ ρ σ R H fps ds vs d Q w r e q => ?_⟩
  · obtain ⟨A, s0, H0, env, outer, stack, ex, fn, pn, xe, rfl⟩ := c.shape
    exact call_tuple_of
  · unfold tupleD at e
    split at e
    · obtain ⟨v, rfl, r1⟩ := reps1 r
      simp only [Rep] at r1
      obtain ⟨a, vs, rfl, hq, r2⟩ := r1
      cases e
      exact ⟨a, vs, rfl, .inl ⟨SqL.of (w.sub _ _ hq), fun p hp => q.newT w r2 hp⟩⟩
    · obtain ⟨v, rfl, r1⟩ := reps1 r
      simp only [Rep] at r1
      obtain ⟨a, vs, rfl, hq, r2⟩ := r1
      cases e
      exact ⟨a, vs, rfl, .inr ⟨sqT_mono w.sub hq, q.s w (rep_tup hq r2)⟩⟩
    · cases e
/-- sorted(..) of ints -/
def sortI (ns : List Int) : List Int := ns.mergeSort (fun a b => decide (a ≤ b))
theorem sortI_perm (ns : List Int) : (sortI ns).Perm ns := List.mergeSort_perm _ _
theorem sortI_sorted (ns : List Int) : (sortI ns).Pairwise (· ≤ ·) := by
  have h := List.pairwise_mergeSort (le := fun a b : Int => decide (a ≤ b)) (fun a b c h1 h2 => by simp only [decide_eq_true_eq] at *; omega) (fun a b => by simp only [Bool.or_eq_true, decide_eq_true_eq]; omega) ns
  exact h.imp fun h => by simpa using h
def sortedD : List D → Option D
  | [.lst ds] => (asInts ds).bind fun ns => if ns.length < 64 then some (.lst ((sortI ns).map D.int)) else none
  | _ => none
theorem f_sorted : CallD S (.builtin "sorted") (.O .S) sortedD := by
  refine ⟨rSorted S.κ.K, fun W X c => ?_, fun μ ρ σ R H fps ds vs d Q w r e q => ?_⟩
  · obtain ⟨A, s0, H0, env, outer, stack, ex, fn, pn, xe, rfl⟩ := c.shape
    exact cr_sorted
  · unfold sortedD at e
    split at e
    · rename_i ds
      obtain ⟨v, rfl, r1⟩ := reps1 r
      simp only [Rep] at r1
      obtain ⟨a, vs, rfl, hq, r2⟩ := r1
      cases ei : asInts ds with
      | none => rw [ei] at e; cases e
      | some ns =>
        rw [ei] at e
        simp only [Option.bind] at e
        split at e
        · rename_i hz
          cases e
          rw [asInts_eq ei] at r2
          rw [ints_inv r2] at hq
          refine ⟨a, ns, rfl, SqL.of (w.sub _ _ hq), hz, fun ns' p h1 h2 hp => ?_⟩
          have e2 : ns' = sortI ns := PySem.W.ksm_same (h1.trans (sortI_perm ns).symm) h2 (sortI_sorted ns)
          subst e2
          exact q.newL w (reps_ints _) hp
        · cases e
    · cases e
end
end VL

namespace VL
open PySem L2

def isStr : D → Bool
  | .str _ => true
  | _ => false
def isLst : D → Bool
  | .lst _ => true
  | _ => false
/-! ### methods of texts -/
def MethD (S : Sta) (id : String) (m : Mo) (g : D → List D → Option D) : Prop :=
  ∃ r : V → List V → Hp → VK → Prop, (∀ W X, Conf S W X → MtR X id r) ∧ ∀ μ ρ σ R H fps dx x ds vs d Q, Wd S.κ R μ ρ σ H fps → Rep S.κ.K S.κ.C R dx x → Reps S.κ.K S.κ.C R ds vs → g dx ds = some d → Giv S.κ μ ρ σ R H fps m d Q → r x vs H Q
section
variable {S : Sta} {μ μ1 μ2 μ' : List Mo} {pos apos : Pos} {e o : Expr} {es : List Expr} {F Fo : M D} {Fs : M (List D)} {m : Mo} {id T : String} {name : Str} {g : D → List D → Option D}
theorem PostE.guard' {R H : Hp} {σ : L2.St} {fps : Fps} {W : WX} {Q : VK} {ρ : List D} {b : Bool} {x : M D} (h : PostE S μ m μ' R H σ fps W Q (VL.guard b x ρ)) : b = true ∧ PostE S μ m μ' R H σ fps W Q (x ρ) := by
  unfold VL.guard at h
  cases b with
  | true => exact ⟨rfl, h⟩
  | false => exact h.elim
theorem isStr_rep {K : PySem.W.Frag} {C : CM} {R : Hp} {d : D} {v : V} (h : isStr d = true) (r : Rep K C R d v) : ∃ a, v = .str a := by
  cases d <;> simp only [isStr] at h <;> first | (cases h; done) | skip
  simp only [Rep] at r
  exact ⟨_, r⟩
/-- text.m(e) -/
theorem de_m1 (hm : MethD S id m g) (slot : Slot "str" name id) (ty : typeOf (.builtin id) = pure (.type "method_descriptor")) (ho : DE S μ o .S μ1 Fo) (he : DE S μ1 e .S μ2 F)
    (hs : ∀ env, starEach [e] env = [(false, eval e env)] := by intro _; rfl) (hbase : ∀ env, attributeBase o name env (eval o env) = eval o env := by intro _; rfl) (hline : (apos.endLine == pos.line) = true := by rfl) :
    DE S μ (.Call (.Attribute o name apos) [e] [] pos) m μ2 (bnd Fo fun x => VL.guard (isStr x) (bnd F fun y => opt (g x [y]))) where
  bo := he.bo.trans ho.bo
  ex := by
    obtain ⟨ta, pa, sa⟩ := ho.ex
    obtain ⟨tb, pb, sb⟩ := he.ex
    obtain ⟨r, pr, sr⟩ := hm
    refine ⟨fun W => tM1 r (ta W) (tb W), fun W X c => pe_m1 slot ty (pr W X c) (pa W X c) (pb W X c) (hs _) (hbase _) hline, fun W R H σ ρ fps Q w h => ?_⟩
    refine sa W R H σ ρ fps _ w (h.bindS fun d1 ρ1 h v1 R1 H1 fps1 w1 r1 x1 => ?_)
    obtain ⟨hb, h⟩ := h.guard'
    refine ⟨isStr_rep hb r1, sb W R1 H1 σ ρ1 fps1 _ w1 ((h.later x1 ho.bo).bindS fun d2 ρ2 h v2 R2 H2 fps2 w2 r2 x2 => ?_)⟩
    obtain ⟨d, e, h⟩ := h.opt'
    exact sr _ _ _ _ _ _ _ _ _ _ _ _ w2 (r1.mono x2.sub) (Reps.cons r2 Reps.nil) e fun v R' H' tf w' rv t x => h v R' H' fps2 tf w' rv t (x2.trans x)
/-- text.m() -/
theorem de_m0 (hm : MethD S id m g) (slot : Slot "str" name id) (ty : typeOf (.builtin id) = pure (.type "method_descriptor")) (ho : DE S μ o .S μ1 Fo)
    (hbase : ∀ env, attributeBase o name env (eval o env) = eval o env := by intro _; rfl) (hline : (apos.endLine == pos.line) = true := by rfl) :
    DE S μ (.Call (.Attribute o name apos) [] [] pos) m μ1 (bnd Fo fun x => VL.guard (isStr x) (opt (g x []))) where
  bo := ho.bo
  ex := by
    obtain ⟨ta, pa, sa⟩ := ho.ex
    obtain ⟨r, pr, sr⟩ := hm
    refine ⟨fun W => tM0 r (ta W), fun W X c => pe_m0 slot ty (pr W X c) (pa W X c) (hbase _) hline, fun W R H σ ρ fps Q w h => ?_⟩
    refine sa W R H σ ρ fps _ w (h.bindS fun d1 ρ1 h v1 R1 H1 fps1 w1 r1 x1 => ?_)
    obtain ⟨hb, h⟩ := h.guard'
    obtain ⟨d, e, h⟩ := h.opt'
    exact ⟨isStr_rep hb r1, sr _ _ _ _ _ _ _ _ _ _ _ _ w1 r1 Reps.nil e fun v R' H' tf w' rv t x => h v R' H' fps1 tf w' rv t (x1.trans x)⟩
def splitD : D → List D → Option D
  | .str a, [.str b] => if b.length ≠ 0 ∧ a.length + 2 ≤ sizeLine then some (.lst ((Txt.split a b).map D.str)) else none
  | _, _ => none
theorem t_split : MethD S "str.split" (.O .S) splitD := by
  refine ⟨_, fun W X c => mt_split, fun μ ρ σ R H fps dx x ds vs d Q w rx rs e q => ?_⟩
  unfold splitD at e
  split at e
  · split at e
    · rename_i a b hz
      cases e
      obtain ⟨v, rfl, r1⟩ := reps1 rs
      simp only [Rep] at rx r1
      exact ⟨a, b, rx, by rw [r1], by simpa using hz.1, hz.2, fun p hp => q.newL w (reps_strs _) hp⟩
    · cases e
  · cases e
def partitionD : D → List D → Option D
  | .str a, [.str b] => if b.length ≠ 0 ∧ a.length ≤ sizeLine then some (.tup [.str (Txt.partition a b).1, .str (Txt.partition a b).2.1, .str (Txt.partition a b).2.2]) else none
  | _, _ => none
theorem t_partition : MethD S "str.partition" .S partitionD := by
  refine ⟨_, fun W X c => mt_partition, fun μ ρ σ R H fps dx x ds vs d Q w rx rs e q => ?_⟩
  unfold partitionD at e
  split at e
  · split at e
    · rename_i a b hz
      cases e
      obtain ⟨v, rfl, r1⟩ := reps1 rs
      simp only [Rep] at rx r1
      exact ⟨a, b, rx, by rw [r1], by simpa using hz.1, hz.2, fun p hp => q.newT w (.cons rep_str (.cons rep_str (.cons rep_str .nil))) hp⟩
    · cases e
  · cases e
def joinD : D → List D → Option D
  | .str a, [.lst ds] => (asStrs ds).bind fun ys => if (ys.map (·.length)).sum + ys.length * a.length ≤ 16777216 then some (.str (Txt.join a ys)) else none
  | .str a, [.tup ds] => (asStrs ds).bind fun ys => if (ys.map (·.length)).sum + ys.length * a.length ≤ 16777216 then some (.str (Txt.join a ys)) else none
  | _, _ => none
theorem t_join : MethD S "str.join" .S joinD := by
  refine ⟨fun x xs H Q => ∃ a p, ∃ ys : List Str, x = .str a ∧ xs = [.ref p] ∧ (SqL S.κ.K H p (ys.map V.str) ∨ SqT S.κ.K H p (ys.map V.str)) ∧ (ys.map (·.length)).sum + ys.length * a.length ≤ 16777216 ∧ Q (.str (Txt.join a ys)) H, fun W X c => ?_, fun μ ρ σ R H fps dx x ds vs d Q w rx rs e q => ?_⟩
  · obtain ⟨A, s0, H0, env, outer, stack, ex, fn, pn, xe, rfl⟩ := c.shape
    exact mt_join
  · unfold joinD at e
    split at e
    · rename_i a ds
      obtain ⟨v, rfl, r1⟩ := reps1 rs
      simp only [Rep] at rx r1
      obtain ⟨p, vs, rfl, hq, r2⟩ := r1
      cases ei : asStrs ds with
      | none => rw [ei] at e; cases e
      | some ys =>
        rw [ei] at e
        simp only [Option.bind] at e
        split at e
        · rename_i hz
          cases e
          rw [asStrs_eq ei] at r2
          rw [strs_inv r2] at hq
          exact ⟨a, p, ys, rx, rfl, .inl (SqL.of (w.sub _ _ hq)), hz, q.s w rep_str⟩
        · cases e
    · rename_i a ds
      obtain ⟨v, rfl, r1⟩ := reps1 rs
      simp only [Rep] at rx r1
      obtain ⟨p, vs, rfl, hq, r2⟩ := r1
      cases ei : asStrs ds with
      | none => rw [ei] at e; cases e
      | some ys =>
        rw [ei] at e
        simp only [Option.bind] at e
        split at e
        · rename_i hz
          cases e
          rw [asStrs_eq ei] at r2
          rw [strs_inv r2] at hq
          exact ⟨a, p, ys, rx, rfl, .inr (sqT_mono w.sub hq), hz, q.s w rep_str⟩
        · cases e
    · cases e
def startsD : D → List D → Option D
  | .str a, [.str b] => some (.bl (Txt.startswith a b))
  | _, _ => none
theorem t_startswith : MethD S "str.startswith" .S startsD := by
  refine ⟨_, fun W X c => mt_startswith, fun μ ρ σ R H fps dx x ds vs d Q w rx rs e q => ?_⟩
  unfold startsD at e
  split at e
  · cases e
    obtain ⟨v, rfl, r1⟩ := reps1 rs
    simp only [Rep] at rx r1
    exact ⟨_, _, rx, by rw [r1], q.s w rep_bl⟩
  · cases e
/-! ### list.index of texts and numbers -/
theorem de_m1L (hm : MethD S id m g) (pa : PlainAttrs "list") (slot : Slot "list" name id) (ty : typeOf (.builtin id) = pure (.type "method_descriptor")) (ho : DE S μ o .S μ1 Fo) (he : DA S μ1 (e :: es) μ2 Fs)
    (hs : ∀ env, starEach (e :: es) env = (false, eval e env) :: starEach es env := by intro _; rfl) (hbase : ∀ env, attributeBase o name env (eval o env) = eval o env := by intro _; rfl) (hline : (apos.endLine == pos.line) = true := by rfl)
    (hfew : ∀ env, ((backTo pos (starEach (e :: es) env)).all (fun x => !x.1) && (backToKw pos (keywordEach [] env)).all (fun x => x.1.isSome)
      && decide ((e :: es).length + ([] : List Keyword).length + (if ([] : List Keyword).isEmpty then 0 else 1) < 30)) = true := by intro _; rfl)
    (hplain : ∀ env, (backTo pos (starEach es env)).any (·.1) = false := by intro _; rfl) :
    DE S μ (.Call (.Attribute o name apos) (e :: es) [] pos) m μ2 (bnd Fo fun x => VL.guard (isLst x) (bnd Fs fun ys => opt (g x ys))) where
  bo := he.bo.trans ho.bo
  ex := by
    obtain ⟨ta, pta, sa⟩ := ho.ex
    obtain ⟨tb, pb, sb⟩ := he.ex
    obtain ⟨r, pr, sr⟩ := hm
    refine ⟨fun W => tBM S.κ.K "list" r (ta W) (tb W), fun W X c => ?_, fun W R H σ ρ fps Q w h => ?_⟩
    · have pta := pta W X c
      have pb := pb W X c
      have pr := pr W X c
      obtain ⟨A, s0, H0, env, outer, stack, ex, fn, pn, xe, rfl⟩ := c.shape
      exact pe_bm pa slot ty pr pta pb (hbase _) (hfew _) hline (hs _) (hplain _)
    · refine sa W R H σ ρ fps _ w (h.bindS fun d1 ρ1 h v1 R1 H1 fps1 w1 r1 x1 => ?_)
      obtain ⟨hb, h⟩ := h.guard'
      refine ⟨?_, sb W R1 H1 σ ρ1 fps1 _ w1 ((h.later x1 ho.bo).bindA fun d2 ρ2 h v2 R2 H2 fps2 w2 r2 x2 => ?_)⟩
      · cases d1 <;> simp only [isLst] at hb <;> first | (cases hb; done) | skip
        simp only [Rep] at r1
        obtain ⟨p, vs, rfl, hq, _⟩ := r1
        exact Or.inl ⟨rfl, _, SqL.of (w1.sub _ _ hq)⟩
      · obtain ⟨d, e, h⟩ := h.opt'
        exact sr _ _ _ _ _ _ _ _ _ _ _ _ w2 (r1.mono x2.sub) r2 e fun v R' H' tf w' rv t x => h v R' H' fps2 tf w' rv t (x2.trans x)
/-- the first place of a text, of a number -/
def indexD : D → List D → Option D
  | .lst ds, [.str y] => (asStrs ds).bind fun ys => (ys.findIdx? (· == y)).map fun j => .int (j : Nat)
  | .lst ds, [.int y] => (asInts ds).bind fun ys => (ys.findIdx? (· == y)).map fun j => .int (j : Nat)
  | _, _ => none
theorem t_index : MethD S "list.index" .S indexD := by
  refine ⟨rIndex S.κ.K, fun W X c => ?_, fun μ ρ σ R H fps dx x ds vs d Q w rx rs e q => ?_⟩
  · obtain ⟨A, s0, H0, env, outer, stack, ex, fn, pn, xe, rfl⟩ := c.shape
    exact mt_index
  · unfold indexD at e
    split at e
    · rename_i ds y
      obtain ⟨v, rfl, r1⟩ := reps1 rs
      simp only [Rep] at rx r1
      obtain ⟨p, vs, rfl, hq, r2⟩ := rx
      subst r1
      cases ei : asStrs ds with
      | none => rw [ei] at e; cases e
      | some ys =>
        rw [ei] at e
        simp only [Option.bind] at e
        cases ej : ys.findIdx? (· == y) with
        | none => rw [ej] at e; cases e
        | some j =>
          rw [ej] at e
          cases e
          rw [asStrs_eq ei] at r2
          rw [strs_inv r2] at hq
          obtain ⟨hj, hp, hno⟩ := List.findIdx?_eq_some_iff_getElem.mp ej
          refine ⟨p, ys.map V.str, .str y, j, .str ys[j], rfl, rfl, SqL.of (w.sub _ _ hq), rfl, ?_, ?_, hp, fun m z' hm hz => ?_, q.s w rep_int⟩
          · simp [List.all_eq_true, flatV]
          · simp [hj]
          · have hmj : m < ys.length := by omega
            rw [List.getElem?_map, List.getElem?_eq_getElem hmj] at hz
            cases hz
            have := hno m hm
            simpa [eqV] using this
    · rename_i ds y
      obtain ⟨v, rfl, r1⟩ := reps1 rs
      simp only [Rep] at rx r1
      obtain ⟨p, vs, rfl, hq, r2⟩ := rx
      subst r1
      cases ei : asInts ds with
      | none => rw [ei] at e; cases e
      | some ys =>
        rw [ei] at e
        simp only [Option.bind] at e
        cases ej : ys.findIdx? (· == y) with
        | none => rw [ej] at e; cases e
        | some j =>
          rw [ej] at e
          cases e
          rw [asInts_eq ei] at r2
          rw [ints_inv r2] at hq
          obtain ⟨hj, hp, hno⟩ := List.findIdx?_eq_some_iff_getElem.mp ej
          refine ⟨p, ys.map V.int, .int y, j, .int ys[j], rfl, rfl, SqL.of (w.sub _ _ hq), rfl, ?_, ?_, hp, fun m z' hm hz => ?_, q.s w rep_int⟩
          · simp [List.all_eq_true, flatV]
          · simp [hj]
          · have hmj : m < ys.length := by omega
            rw [List.getElem?_map, List.getElem?_eq_getElem hmj] at hz
            cases hz
            have := hno m hm
            simpa [eqV] using this
    · cases e
/-! ### isinstance(x, T), T a built-in type -/
def tyN : D → Option String
  | .non => some "NoneType"
  | .bl _ => some "bool"
  | .int _ => some "int"
  | .str _ => some "str"
  | .tup _ => some "tuple"
  | .lst _ => some "list"
  | .dct _ => some "dict"
  | .obj _ _ => none
def isiD (T : String) (x : D) : Option D := (tyN x).map fun n => .bl (n == T || (T == "int" && n == "bool"))
theorem tyX_of {K : PySem.W.Frag} {C : CM} {R H : Hp} {d : D} {v : V} {n : String} (s : Sub R H) (r : Rep K C R d v) (h : tyN d = some n) : TyX K H v (.type n) := by
  cases d <;> simp only [tyN] at h <;> first | (cases h; done) | skip
  all_goals (cases h; simp only [Rep] at r)
  · subst r; exact .base .non
  · subst r; exact .base (.bl _)
  · subst r; exact .base (.int _)
  · subst r; exact .base (.str _)
  · obtain ⟨a, vs, rfl, hq, _⟩ := r
    rcases hq with (hq | ⟨o, hq⟩) | ⟨o, its, k, hk, hc, _⟩
    · exact .base (.tup (s _ _ hq))
    · exact .fTuple (s _ _ hq)
    · exact .kTuple hk hc
  · obtain ⟨a, vs, rfl, hq, _⟩ := r
    exact .base (.lst (s _ _ hq))
  · obtain ⟨a, vs, rfl, hq, _⟩ := r
    exact .base (.dK (s _ _ hq))
theorem de_isi {T : String} {p1 p2 : Pos} (he : DE S μ e .S μ1 F) (hT : ["NoneType", "bool", "int", "str", "tuple", "list", "dict"].all (fun n => kitB n T == some (n == T || (T == "int" && n == "bool"))) = true) (hm : S.mg "isinstance" = none) (hm2 : S.mg T = none) (hv : bootBuiltins T = some (.type T))
    (hg : S.sc.names.lookup ("isinstance" : Str) = some .globalImplicit := by rfl) (hg2 : S.sc.names.lookup (Str.ofString T) = some .globalImplicit := by rfl)
    (hs : ∀ env, starEach [e, .Name T p2] env = [(false, eval e env), (false, eval (.Name T p2) env)] := by intro _; rfl)
    (hn : (Str.ofString T) ≠ "__name__" := by decide) (hdb : (Str.ofString T == ("__debug__" : Str)) = false := by decide) :
    DE S μ (.Call (.Name "isinstance" p1) [e, .Name T p2] [] pos) .S μ1 (bnd F fun x => opt (isiD T x)) where
  bo := he.bo
  ex := by
    obtain ⟨te, pt, st⟩ := he.ex
    refine ⟨fun W => tCB (rIsi S.κ.K) (tCons (te W) (tCons (tC (.ty T)) tNil)), fun W X c => ?_, fun W R H σ ρ fps Q w h => ?_⟩
    · have pt := pt W X c
      have hg' : Gl X "isinstance" := gl_of c.sc hg
      have hg2' : Gl X (Str.ofString T) := gl_of c.sc hg2
      have hs1 : starEach (e :: [.Name T p2]) X.env = (false, eval e X.env) :: starEach [.Name T p2] X.env := by
        have h1 := hs X.env
        have h2 : starEach [Expr.Name T p2] X.env = [(false, eval (.Name T p2) X.env)] := by rfl
        rw [h1, h2]
      obtain ⟨A, s0, H0, env, outer, stack, ex, fn, pn, xe, rfl⟩ := c.shape
      exact pe_callB call_isi hg' hm (by decide +kernel) (pa_cons pt (pa_cons (pe_bltn (v := .ty T) hg2' hm2 hv rfl hn hdb) pa_nil) hs1) (by decide) (by decide) hs1 (by rfl)
    · refine st W R H σ ρ fps _ w (h.bindS fun d ρ1 h v R1 H1 fps1 w1 r1 x1 => ?_)
      obtain ⟨d', e, h⟩ := h.opt'
      unfold isiD at e
      cases en : tyN d with
      | none => rw [en] at e; cases e
      | some n =>
        rw [en] at e
        cases e
        have hk : kitB n T = some (n == T || (T == "int" && n == "bool")) := by
          have := List.all_eq_true.mp hT n (by
            cases d <;> simp only [tyN] at en <;> first | (cases en; done) | skip
            all_goals (cases en; simp))
          exact beq_iff_eq.mp this
        exact ⟨v, .ty T, .type n, .type T, _, rfl, .ty T, tyX_of w1.sub r1 en, kit_ty hk, h _ R1 H1 fps1 [] w1 ⟨rfl, rep_bl⟩ Tmp.nil x1⟩
end
end VL

namespace VL
open PySem L2

def setS (i : Nat) (d : D) : M Unit := fun ρ => .ok () (ρ.set i d)
theorem setS_bnd {α : Type} {i : Nat} {d : D} {f : Unit → M α} {ρ : List D} : bnd (setS i d) f ρ = f () (ρ.set i d) := rfl
section
variable {S : Sta} {J : Jmp} {μ μ1 μ2 μ' : List Mo} {pos pos' : Pos} {e c : Expr} {F : M D} {G Ga Gb : M Fl} {m : Mo} {st : Stmt} {rest a b : List Stmt}
def Fnn (S : Sta) (x : Str) : Prop := S.fnn x = true ∨ S.sc.names.lookup x = some .local
theorem Conf.fnok {W : WX} {X : Cx} (c : Conf S W X) {x : Str} (h : Fnn S x) : X.fn x = true ∨ X.env.scope.names.lookup x = some .local := by
  rcases h with h | h
  · exact .inl (c.fn x h)
  · exact .inr (by rw [c.sc]; exact h)
theorem loc_of {X : Cx} {x : Str} (e : X.env.scope = S.sc) (h : Loc S.sc x) : Loc X.env.scope x := by rw [e]; exact h
theorem sameB_set {σ : St} {i : Nat} {v : Option V} {m0 : Mo} (h : μ[i]? = some m0) (hb : isB m0 = false) : SameB μ σ (σ.set i v) := fun j m e => by
  by_cases hj : j = i
  · subst hj; rw [h] at e; cases e; cases hb
  · rw [List.getElem?_set_ne (Ne.symm hj)]
theorem bOnly_at (h : bOnly μ1 = bOnly μ) {i : Nat} {m0 : Mo} (e : μ1[i]? = some m0) (hb : isB m0 = false) : ∃ m', μ[i]? = some m' ∧ isB m' = false := by
  have hl : μ1.length = μ.length := by have := congrArg List.length h; simpa [bOnly] using this
  have hi := (List.getElem?_eq_some_iff.mp e).1
  have h2 : μ[i]? = some μ[i] := List.getElem?_eq_getElem (by omega)
  refine ⟨_, h2, ?_⟩
  cases hh : isB μ[i] with
  | false => rfl
  | true =>
    cases hm : μ[i] with
    | B m2 =>
      rw [hm] at h2
      have := bOnly_eq h h2
      rw [e] at this; cases this; cases hb
    | _ => rw [hm] at hh; cases hh
/-! ### blocks -/
theorem db_nil : DB S J μ [] μ (ret .nx) where
  bo := rfl
  ex := ⟨fun _ => tNext, fun W X c => pss_nil, fun W R H σ ρ fps E w h => h σ R H fps w Ext.refl SameB.refl⟩
def thenF (f : Fl) (G : M Fl) : M Fl := match f with
  | .nx => G
  | f => ret f
def seqF (A B : M Fl) : M Fl := bnd A fun f => thenF f B
theorem PostS.seq {R H : Hp} {σ : St} {fps : Fps} {W : WX} {E : Ends} {ρ : List D} {k : St → Hp → Prop} (b1 : bOnly μ1 = bOnly μ) (h : PostS S J μ μ' R H σ fps W E (seqF Ga Gb ρ))
    (hk : ∀ σ1 R1 H1 fps1 ρ1, Wd S.κ R1 μ1 ρ1 σ1 H1 fps1 → Ext S.κ R H fps R1 H1 fps1 [] → SameB μ σ σ1 → PostS S J μ μ' R H σ fps W E (Gb ρ1) → k σ1 H1) :
    PostS S J μ μ1 R H σ fps W { E with nx := k } (Ga ρ) := by
  unfold seqF bnd at h
  cases e : Ga ρ with
  | ok f ρ1 =>
    rw [e] at h
    cases f with
    | nx => exact fun σ1 R1 H1 fps1 w x s => hk σ1 R1 H1 fps1 ρ1 w x s h
    | brk => exact h
    | cont => exact h
    | ret d => exact h
  | err c ρ1 => rw [e] at h; exact h
  | stuck => rw [e] at h; exact h
theorem db_cons (h1 : DS S J μ st μ1 Ga) (h2 : DB S J μ1 rest μ' Gb) : DB S J μ (st :: rest) μ' (seqF Ga Gb) where
  bo := h2.bo.trans h1.bo
  ex := by
    obtain ⟨ta, pa, sa⟩ := h1.ex
    obtain ⟨tb, pb, sb⟩ := h2.ex
    refine ⟨fun W => tSeq (ta W) (tb W), fun W X c => pss_cons (pa W X c) (pb W X c), fun W R H σ ρ fps E w h => ?_⟩
    refine sa W R H σ ρ fps _ w (PostS.seq h1.bo h fun σ1 R1 H1 fps1 ρ1 w1 x1 s1 h => ?_)
    exact sb W R1 H1 σ1 ρ1 fps1 E w1 (h.later x1 h1.bo s1)
/-- a slot is shared, forgotten ahead of a block -/
theorem db_share (i : Nat) (h : DB S J (μ.set i .S) a μ' G) (hm : μ[i]? = some m := by rfl) (hl : m.live = true := by rfl) (hu : m ≠ .U := by decide) (hb : isB m = false := by rfl) : DB S J μ a μ' G where
  bo := h.bo.trans (bOnly_set hm hb rfl)
  ex := by
    obtain ⟨te, p, s⟩ := h.ex
    exact ⟨te, p, fun W R H σ ρ fps E w q => s W _ _ σ ρ _ E (w.share hm hl hu) (q.later (Ext.share w) (bOnly_set hm hb rfl) SameB.refl)⟩
def killF (i : Nat) (G : M Fl) : M Fl := fun ρ => G (ρ.set i .non)
theorem db_kill (i : Nat) (h : DB S J (μ.set i .U) a μ' G) (hm : μ[i]? = some m := by rfl) (hb : isB m = false := by rfl) : DB S J μ a μ' (killF i G) where
  bo := h.bo.trans (bOnly_set hm hb rfl)
  ex := by
    obtain ⟨te, p, s⟩ := h.ex
    exact ⟨te, p, fun W R H σ ρ fps E w q => s W R H σ _ _ E (w.forget i .non) (PostS.later q (Ext.forget Ext.refl) (bOnly_set hm hb rfl) SameB.refl)⟩
theorem ds_share (i : Nat) (h : DS S J (μ.set i .S) st μ' G) (hm : μ[i]? = some m := by rfl) (hl : m.live = true := by rfl) (hu : m ≠ .U := by decide) (hb : isB m = false := by rfl) : DS S J μ st μ' G where
  bo := h.bo.trans (bOnly_set hm hb rfl)
  ex := by
    obtain ⟨te, p, s⟩ := h.ex
    exact ⟨te, p, fun W R H σ ρ fps E w q => s W _ _ σ ρ _ E (w.share hm hl hu) (q.later (Ext.share w) (bOnly_set hm hb rfl) SameB.refl)⟩
theorem ds_kill (i : Nat) (h : DS S J (μ.set i .U) st μ' G) (hm : μ[i]? = some m := by rfl) (hb : isB m = false := by rfl) : DS S J μ st μ' (killF i G) where
  bo := h.bo.trans (bOnly_set hm hb rfl)
  ex := by
    obtain ⟨te, p, s⟩ := h.ex
    exact ⟨te, p, fun W R H σ ρ fps E w q => s W R H σ _ _ E (w.forget i .non) (PostS.later q (Ext.forget Ext.refl) (bOnly_set hm hb rfl) SameB.refl)⟩
/-! ### small statements -/
theorem ds_pass : DS S J μ (.Pass pos) μ (ret .nx) where
  bo := rfl
  ex := ⟨fun _ => tNext, fun W X c => ps_pass, fun W R H σ ρ fps E w h => h σ R H fps w Ext.refl SameB.refl⟩
theorem ds_brk (h : J.μb = μ := by rfl) (hb : bOnly μ' = bOnly μ := by rfl) : DS S J μ (.Break pos) μ' (ret .brk) where
  bo := hb
  ex := ⟨fun _ => tBreak, fun W X c => ps_break, fun W R H σ ρ fps E w q => q σ R H fps (h ▸ w) Ext.refl SameB.refl⟩
theorem ds_cont (h : J.μc = μ := by rfl) (hb : bOnly μ' = bOnly μ := by rfl) : DS S J μ (.Continue pos) μ' (ret .cont) where
  bo := hb
  ex := ⟨fun _ => tCont, fun W X c => ps_continue, fun W R H σ ρ fps E w q => q σ R H fps (h ▸ w) Ext.refl SameB.refl⟩
/-- name = value -/
theorem ds_set (i : Nat) {x : Str} {m0 : Mo} (he : DE S μ e m μ1 F) (hm : μ1[i]? = some m0 := by rfl) (hb : isB m0 = false := by rfl) (hb2 : isB m = false := by rfl) (hi : S.N[i]? = some x := by rfl) (hx : Loc S.sc x := by first | exact Or.inl rfl | exact Or.inr rfl) (hfn : Fnn S x := by first | exact Or.inl rfl | exact Or.inr rfl)
    (hs : ∀ env : Env, env.scope = S.sc → swapsWith e (some (.Name x pos')) pos.line env = pure false := by intro env he; first | rfl | (cases env; subst he; rfl)) : DS S J μ (.Assign [.Name x pos'] e pos) (μ1.set i m) (bnd F fun d => bnd (setS i d) fun _ => ret .nx) where
  bo := (bOnly_set hm hb hb2).trans he.bo
  ex := by
    obtain ⟨te, p, s⟩ := he.ex
    refine ⟨fun W => tAsg (te W) (gName i), fun W X c => ?_, fun W R H σ ρ fps E w h => ?_⟩
    · have p := p W X c
      have hf := c.fnok hfn
      have hl := loc_of c.sc hx
      have nd := c.nd
      have es := c.sc
      obtain ⟨A, s0, H0, env, outer, stack, ex, fn, pn, xe, rfl⟩ := c.shape
      exact ps_set nd hi hl p (hs _ es) hf
    · refine s W R H σ ρ fps _ w (h.bind fun d ρ1 h v R1 H1 fps1 tf w1 r1 t1 x1 => ?_)
      have hi1 := (List.getElem?_eq_some_iff.mp hm).1
      obtain ⟨m', e', hb'⟩ := bOnly_at he.bo hm hb
      exact h _ R1 H1 _ (w1.store hi1 r1 t1) x1.store (sameB_set e' hb')
/-- an expression whose value is dropped -/
theorem ds_expr (he : DE S μ e m μ1 F) (hs : ∀ env, swapsWith e none pos.line env = pure false := by intro _; rfl) : DS S J μ (.Expr e pos) μ1 (bnd F fun _ => ret .nx) where
  bo := he.bo
  ex := by
    obtain ⟨te, p, s⟩ := he.ex
    refine ⟨fun W => tDrop (te W), fun W X c => ps_expr (p W X c) (hs _), fun W R H σ ρ fps E w h => ?_⟩
    exact s W R H σ ρ fps _ w (h.bind fun d ρ1 h v R1 H1 fps1 tf w1 r1 t1 x1 => h σ R1 H1 fps1 w1 x1.drop SameB.refl)
/-- the lent slots alone -/
theorem Wd.bonly {κ : Kit} {R H : Hp} {ρ : List D} {σ : St} {fps : Fps} (w : Wd κ R μ ρ σ H fps) : Wd κ R (bOnly μ) ρ σ H (fun i => if (μ[i]?).any isB then fps i else []) where
  sub := w.sub
  len1 := by rw [w.len1]; simp [bOnly]
  len2 := by rw [w.len2]; simp [bOnly]
  rep := fun i m d h1 h2 => by
    simp only [bOnly, List.getElem?_map, Option.map_eq_some_iff] at h1
    obtain ⟨m', e1, e2⟩ := h1
    have r := w.rep i m' d e1 h2
    rw [e1]
    simp only [Option.any_some]
    split at e2
    · rename_i hb
      subst e2
      rw [if_pos hb]; exact r
    · rename_i hb
      subst e2
      rw [if_neg hb]
      unfold SlotR; rw [if_pos rfl]
  out := fun i hi => by
    simp only [bOnly, List.length_map] at hi
    rw [w.out i hi]; simp
  dis1 := fun i a ha => by
    split at ha
    · exact w.dis1 i a ha
    · cases ha
  dis2 := fun i j a ha hb => by
    split at ha
    · split at hb
      · exact w.dis2 i j a ha hb
      · cases hb
    · cases ha
  nd := fun i => by
    split
    · exact w.nd i
    · exact .nil
  tab := w.tab
  tab1 := w.tab1
  tab2 := fun p hp i hi => by
    split at hi
    · exact w.tab2 p hp i hi
    · cases hi
theorem fps_bonly {fps : Fps} {i : Nat} {a : Addr} (h : a ∈ (fun i => if (μ[i]?).any isB then fps i else []) i) : a ∈ fps i := by
  simp only at h
  split at h
  · exact h
  · cases h
theorem Tmp.less {κ : Kit} {R : Hp} {fps fps' : Fps} {tf : List Addr} (t : Tmp κ R fps tf) (h : ∀ i a, a ∈ fps' i → a ∈ fps i) : Tmp κ R fps' tf := ⟨t.nd, fun a ha => ⟨(t.dis a ha).1, fun i z => (t.dis a ha).2.1 i (h i a z), (t.dis a ha).2.2⟩⟩
theorem ds_ret (he : DE S μ e m μ1 F) (hr : J.mr = m := by rfl) (hb : bOnly μ' = bOnly μ := by rfl) : DS S J μ (.Return (some e) pos) μ' (bnd F fun d => ret (.ret d)) where
  bo := hb
  ex := by
    obtain ⟨te, p, s⟩ := he.ex
    refine ⟨fun W => tRet (te W), fun W X c => ps_ret (p W X c), fun W R H σ ρ fps E w h => ?_⟩
    refine s W R H σ ρ fps _ w (h.bind fun d ρ1 h v R1 H1 fps1 tf w1 r1 t1 x1 => ?_)
    exact h v σ R1 H1 _ tf (he.bo ▸ w1.bonly) (hr ▸ r1) (t1.less fun i a ha => fps_bonly ha) (x1.slots fun i a ha => ⟨i, fps_bonly ha⟩) SameB.refl
theorem ds_retN (hr : J.mr = .S := by rfl) (hb : bOnly μ' = bOnly μ := by rfl) : DS S J μ (.Return none pos) μ' (ret (.ret .non)) where
  bo := hb
  ex := ⟨fun _ => tRetN, fun W X c => ps_retN, fun W R H σ ρ fps E w h => h .non σ R H _ [] w.bonly (hr ▸ ⟨rfl, rep_non⟩) Tmp.nil (Ext.refl.slots fun i a ha => ⟨i, fps_bonly ha⟩) SameB.refl⟩
theorem ds_if {T : M Bool} (ht : DT S μ c T) (ha : DB S J μ a μ' Ga) (hb : DB S J μ b μ' Gb) : DS S J μ (.If c a b pos) μ' (bnd T fun k => if k then Ga else Gb) where
  bo := ha.bo
  ex := by
    obtain ⟨tt, pt, st⟩ := ht.ex
    obtain ⟨ta, pa, sa⟩ := ha.ex
    obtain ⟨tb, pb, sb⟩ := hb.ex
    refine ⟨fun W => tIfS (tt W) (ta W) (tb W), fun W X c => ps_if (pt W X c) (pa W X c) (pb W X c), fun W R H σ ρ fps E w h => ?_⟩
    refine st W R H σ ρ fps _ w (h.bindT fun k ρ1 h R1 H1 fps1 w1 x1 => ?_)
    cases k with
    | true => exact sa W R1 H1 σ ρ1 fps1 E w1 (PostS.later h x1 rfl SameB.refl)
    | false => exact sb W R1 H1 σ ρ1 fps1 E w1 (PostS.later h x1 rfl SameB.refl)
/-! ### while -/
def whileR (T : M Bool) (B : M Fl) : Nat → List D → Option (Out Fl)
  | 0, _ => none
  | n + 1, ρ => match T ρ with
    | .ok false ρ' => some (.ok .nx ρ')
    | .ok true ρ' => match B ρ' with
      | .ok .nx ρ2 => whileR T B n ρ2
      | .ok .cont ρ2 => whileR T B n ρ2
      | .ok .brk ρ2 => some (.ok .nx ρ2)
      | .ok (.ret d) ρ2 => some (.ok (.ret d) ρ2)
      | .err c ρ2 => some (.err c ρ2)
      | .stuck => some .stuck
    | .err c ρ' => some (.err c ρ')
    | .stuck => some .stuck
theorem whileR_up {T : M Bool} {B : M Fl} : ∀ {n : Nat} {ρ : List D} {o : Out Fl}, whileR T B n ρ = some o → whileR T B (n + 1) ρ = some o
  | 0, ρ, o, h => by cases h
  | n + 1, ρ, o, h => by
    unfold whileR at h ⊢
    cases e : T ρ with
    | ok b ρ' =>
      rw [e] at h
      cases b with
      | false => exact h
      | true =>
        simp only at h ⊢
        cases e2 : B ρ' with
        | ok f ρ2 =>
          rw [e2] at h
          cases f with
          | nx => exact whileR_up h
          | cont => exact whileR_up h
          | brk => exact h
          | ret d => exact h
        | err c ρ2 => rw [e2] at h; exact h
        | stuck => rw [e2] at h; exact h
    | err c ρ' => rw [e] at h; exact h
    | stuck => rw [e] at h; exact h
theorem whileR_le {T : M Bool} {B : M Fl} {n k : Nat} {ρ : List D} {o : Out Fl} (h : whileR T B n ρ = some o) : whileR T B (n + k) ρ = some o := by
  induction k with
  | zero => exact h
  | succ k ih => exact whileR_up ih
open Classical in
noncomputable def whileM (T : M Bool) (B : M Fl) : M Fl := fun ρ => if h : ∃ o n, whileR T B n ρ = some o then h.choose else .stuck
theorem whileM_eq {T : M Bool} {B : M Fl} {n : Nat} {ρ : List D} {o : Out Fl} (h : whileR T B n ρ = some o) : whileM T B ρ = o := by
  have hx : ∃ o n, whileR T B n ρ = some o := ⟨o, n, h⟩
  unfold whileM
  rw [dif_pos hx]
  obtain ⟨k, hk⟩ := hx.choose_spec
  have h1 := whileR_le (k := k) h
  have h2 := whileR_le (k := n) hk
  rw [Nat.add_comm] at h2
  rw [h1] at h2
  exact (Option.some.inj h2).symm
theorem whileM_ex {T : M Bool} {B : M Fl} {ρ : List D} (h : whileM T B ρ ≠ .stuck) : ∃ n, whileR T B n ρ = some (whileM T B ρ) := by
  unfold whileM at *
  split at h
  · rename_i hx
    rw [dif_pos hx]
    exact hx.choose_spec
  · exact absurd rfl h
theorem PostS.ne {R H : Hp} {σ : St} {fps : Fps} {W : WX} {E : Ends} {o : Out Fl} (h : PostS S J μ μ' R H σ fps W E o) : o ≠ .stuck := by rintro rfl; exact h
theorem ds_while {T : M Bool} {body : List Stmt} (ht : DT S μ c T) (hb : DB S { J with μb := μ, μc := μ } μ body μ G) : DS S J μ (.While c body [] pos) μ (whileM T G) where
  bo := rfl
  ex := by
    obtain ⟨tt, pt, st⟩ := ht.ex
    obtain ⟨tb, pb, sb⟩ := hb.ex
    refine ⟨fun W => tWhile (tt W) (tb W), fun W X c => ps_while c.own (pt W X c) (pb W X c), fun W R H σ ρ fps E w h => ?_⟩
    obtain ⟨n0, hn0⟩ := whileM_ex h.ne
    refine ⟨fun n σ' H' => ∃ R' ρ' fps' o, Wd S.κ R' μ ρ' σ' H' fps' ∧ Ext S.κ R H fps R' H' fps' [] ∧ SameB μ σ σ' ∧ whileR T G n ρ' = some o ∧ PostS S J μ μ R H σ fps W E o, ⟨n0, R, ρ, fps, _, w, Ext.refl, SameB.refl, hn0, h⟩, ?_⟩
    rintro n σ1 H1 ⟨R1, ρ1, fps1, o, w1, x1, s1, e, h⟩
    cases n with
    | zero => cases e
    | succ n =>
      unfold whileR at e
      refine st W R1 H1 σ1 ρ1 fps1 _ w1 ?_
      cases eT : T ρ1 with
      | stuck => rw [eT] at e; cases e; exact h.elim
      | err cc ρ2 => rw [eT] at e; cases e; exact fun R' H' fps' w' y => h σ1 R' H' fps' w' (x1.trans y) s1
      | ok k ρ2 =>
        rw [eT] at e
        intro R2 H2 fps2 w2 x2
        have x2' := x1.trans x2
        cases k with
        | false => cases e; exact h σ1 R2 H2 fps2 w2 x2' s1
        | true =>
          simp only at e
          refine ⟨fun σ' H' => ∃ R' ρ' fps', Wd S.κ R' μ ρ' σ' H' fps' ∧ Ext S.κ R H fps R' H' fps' [] ∧ SameB μ σ σ' ∧ whileR T G n ρ' = some o, fun σ' H' ⟨R', ρ', fps', w', x', s', e'⟩ => ⟨n, Nat.lt_succ_self n, R', ρ', fps', o, w', x', s', e', h⟩, ?_⟩
          refine sb W R2 H2 σ1 ρ2 fps2 _ w2 ?_
          cases eB : G ρ2 with
          | stuck => rw [eB] at e; cases e; exact h.elim
          | err cc ρ3 => rw [eB] at e; cases e; exact fun σ' R' H' fps' w' y s => h σ' R' H' fps' w' (x2'.trans y) (s1.trans s rfl)
          | ok f ρ3 =>
            rw [eB] at e
            cases f with
            | nx => exact fun σ' R' H' fps' w' y s => ⟨R', ρ3, fps', w', x2'.trans y, s1.trans s rfl, e⟩
            | cont => exact fun σ' R' H' fps' w' y s => ⟨R', ρ3, fps', w', x2'.trans y, s1.trans s rfl, e⟩
            | brk => cases e; exact fun σ' R' H' fps' w' y s => h σ' R' H' fps' w' (x2'.trans y) (s1.trans s rfl)
            | ret d => cases e; exact fun v σ' R' H' fps' tf w' r t y s => h v σ' R' H' fps' tf w' r t (x2'.trans y) (s1.trans s rfl)
/-! ### targets -/
abbrev GT := D → List D → Option (List D)
abbrev GTs := List D → List D → Option (List D)
def goT (o : List D → Option (List D)) : M Unit := fun ρ => match o ρ with
  | some ρ' => .ok () ρ'
  | none => .stuck
def PostG (S : Sta) (μ' : List Mo) (R H : Hp) (σ : St) (fps : Fps) (is : List Nat) (Q : St → Hp → Prop) : Option (List D) → Prop
  | some ρ' => ∀ σ' R' H' fps', Wd S.κ R' μ' ρ' σ' H' fps' → Ext S.κ R H fps R' H' fps' [] → (∀ j, j ∉ is → σ'[j]? = σ[j]?) → σ'.length = σ.length → Q σ' H'
  | none => False
structure DG (S : Sta) (μ : List Mo) (tg : Expr) (is : List Nat) (μ' : List Mo) (G : GT) : Prop where
  bo : bOnly μ' = bOnly μ
  nb : ∀ j ∈ is, ∃ m, μ[j]? = some m ∧ isB m = false
  ex : ∃ g : TG, (∀ W X, Conf S W X → PG X tg g) ∧ ∀ R H σ ρ fps d v Q, Wd S.κ R μ ρ σ H fps → Rep S.κ.K S.κ.C R d v → PostG S μ' R H σ fps is Q (G d ρ) → g v σ H Q
structure DGs (S : Sta) (μ : List Mo) (tgs : List Expr) (is : List Nat) (μ' : List Mo) (G : GTs) : Prop where
  bo : bOnly μ' = bOnly μ
  nb : ∀ j ∈ is, ∃ m, μ[j]? = some m ∧ isB m = false
  ex : ∃ g : TGs, (∀ W X, Conf S W X → PGs X tgs g) ∧ ∀ R H σ ρ fps ds vs Q, Wd S.κ R μ ρ σ H fps → Reps S.κ.K S.κ.C R ds vs → PostG S μ' R H σ fps is Q (G ds ρ) → g vs σ H Q
def gN (i : Nat) : GT := fun d ρ => some (ρ.set i d)
def gs0 : GTs := fun ds ρ => match ds with
  | [] => some ρ
  | _ => none
def gsC (G1 : GT) (G2 : GTs) : GTs := fun ds ρ => match ds with
  | d :: r => (G1 d ρ).bind (G2 r)
  | [] => none
def gT (n : Nat) (G : GTs) : GT := fun d ρ => match d with
  | .tup ds => if ds.length = n then G ds ρ else none
  | _ => none
theorem dg_name (i : Nat) {x : Str} {m0 : Mo} (hm : μ[i]? = some m0 := by rfl) (hb : isB m0 = false := by rfl) (hi : S.N[i]? = some x := by rfl) (hx : Loc S.sc x := by first | exact Or.inl rfl | exact Or.inr rfl) (hfn : Fnn S x := by first | exact Or.inl rfl | exact Or.inr rfl) : DG S μ (.Name x pos) [i] (μ.set i .S) (gN i) where
  bo := bOnly_set hm hb rfl
  nb := fun j hj => by
    have : j = i := by simpa using hj
    subst this; exact ⟨m0, hm, hb⟩
  ex := ⟨gName i, fun W X c => by
    have hf := c.fnok hfn
    have hl := loc_of c.sc hx
    have nd := c.nd
    obtain ⟨A, s0, H0, env, outer, stack, ex, fn, pn, xe, rfl⟩ := c.shape
    exact pg_name nd hi hl hf, fun R H σ ρ fps d v Q w r h => by
    have hi1 := (List.getElem?_eq_some_iff.mp hm).1
    exact h _ R H _ (w.store hi1 ⟨rfl, r⟩ Tmp.nil) Ext.refl.store (fun j hj => List.getElem?_set_ne (fun z => hj (by simp [z]))) (by rw [List.length_set])⟩
theorem dgs_nil : DGs S μ [] [] μ gs0 where
  bo := rfl
  nb := fun j hj => nomatch hj
  ex := ⟨gNil, fun W X c => pgs_nil, fun R H σ ρ fps ds vs Q w r h => by
    cases ds with
    | nil => simp only [Reps] at r; exact ⟨r, h σ R H fps w Ext.refl (fun _ _ => rfl) rfl⟩
    | cons _ _ => exact h.elim⟩
theorem dgs_cons {t : Expr} {ts : List Expr} {is js : List Nat} {G1 : GT} {G2 : GTs} (h1 : DG S μ t is μ1 G1) (h2 : DGs S μ1 ts js μ' G2)
    (hs : ∀ env, (assignEach (t :: ts) env).map (·.2) = assign t env :: (assignEach ts env).map (·.2) := by intro _; rfl) : DGs S μ (t :: ts) (is ++ js) μ' (gsC G1 G2) where
  bo := h2.bo.trans h1.bo
  nb := fun j hj => by
    rcases List.mem_append.mp hj with q | q
    · exact h1.nb j q
    · obtain ⟨m, e, hb⟩ := h2.nb j q
      obtain ⟨m', e', hb'⟩ := bOnly_at h1.bo e hb
      exact ⟨m', e', hb'⟩
  ex := by
    obtain ⟨g1, p1, s1⟩ := h1.ex
    obtain ⟨g2, p2, s2⟩ := h2.ex
    refine ⟨gCons g1 g2, fun W X c => pgs_cons (p1 W X c) (p2 W X c) (hs _), fun R H σ ρ fps ds vs Q w r h => ?_⟩
    cases ds with
    | nil => exact h.elim
    | cons d ds =>
      simp only [Reps] at r
      obtain ⟨v, vr, e, rd, rr⟩ := r
      refine ⟨v, vr, e, s1 R H σ ρ fps d v _ w rd ?_⟩
      simp only [gsC] at h
      cases e1 : G1 d ρ with
      | some ρ1 =>
        rw [e1] at h
        intro σ1 R1 H1 fps1 w1 x1 k1 l1
        refine s2 R1 H1 σ1 ρ1 fps1 ds vr _ w1 (rr.mono x1.sub) ?_
        simp only [Option.bind] at h
        cases e2 : G2 ds ρ1 with
        | some ρ2 =>
          rw [e2] at h
          intro σ2 R2 H2 fps2 w2 x2 k2 l2
          exact h σ2 R2 H2 fps2 w2 (x1.trans x2) (fun j hj => by
            rw [List.mem_append, not_or] at hj
            exact (k2 j hj.2).trans (k1 j hj.1)) (l2.trans l1)
        | none => rw [e2] at h; exact h.elim
      | none => rw [e1] at h; exact h.elim
theorem dg_tup {es : List Expr} {k n : Nat} {is : List Nat} {Gs : GTs} (h : DGs S μ es is μ' Gs) (hn : ∀ env, (assignEach es env).length = n := by intro _; rfl) (hst : ∀ env, (assignEach es env).findIdx? (·.1) = none := by intro _; rfl) :
    DG S μ (.Tuple es k pos) is μ' (gT n Gs) where
  bo := h.bo
  nb := h.nb
  ex := by
    obtain ⟨g, p, s⟩ := h.ex
    refine ⟨gTup S.κ.K n g, fun W X c => ?_, fun R H σ ρ fps d v Q w r h => ?_⟩
    · have p := p W X c
      obtain ⟨A, s0, H0, env, outer, stack, ex, fn, pn, xe, rfl⟩ := c.shape
      exact pg_tup rfl p (hn _) (hst _)
    · cases d with
      | tup ds =>
        simp only [Rep] at r
        obtain ⟨a, vs, e, q, r⟩ := r
        simp only [gT] at h
        split at h
        · rename_i hl
          exact ⟨a, vs, e, sqT_mono w.sub q, by rw [← r.length]; exact hl, s R H σ ρ fps ds vs Q w r h⟩
        · exact h.elim
      | _ => exact h.elim
theorem sameB_g {is : List Nat} {σ σ' : St} (nb : ∀ j ∈ is, ∃ m, μ[j]? = some m ∧ isB m = false) (k : ∀ j, j ∉ is → σ'[j]? = σ[j]?) : SameB μ σ σ' := fun i m e => k i fun hi => by
  obtain ⟨m', e', hb⟩ := nb i hi
  rw [e] at e'; cases e'; cases hb
/-- target = value (shared) -/
theorem ds_asg {tg : Expr} {is : List Nat} {Gt : GT} (he : DE S μ e .S μ1 F) (hg : DG S μ1 tg is μ' Gt) (hs : ∀ env, swapsWithSole [tg] e pos.line env = pure false := by intro _; rfl) (hw : ∀ env, swappedStores [tg] e env = pure none := by intro _; rfl)
    (h1 : ∀ env, (assignEach [tg] env).map (·.2) = [assign tg env] := by intro _; rfl) : DS S J μ (.Assign [tg] e pos) μ' (bnd F fun d => bnd (goT (Gt d)) fun _ => ret .nx) where
  bo := hg.bo.trans he.bo
  ex := by
    obtain ⟨te, p, s⟩ := he.ex
    obtain ⟨g, pg, sg⟩ := hg.ex
    refine ⟨fun W => tAsg (te W) g, fun W X c => ps_asg (p W X c) (pg W X c) (hs _) (hw _) (h1 _), fun W R H σ ρ fps E w h => ?_⟩
    refine s W R H σ ρ fps _ w (h.bind fun d ρ1 h v R1 H1 fps1 tf w1 r1 t1 x1 => ?_)
    obtain ⟨et, r1⟩ := r1
    subst et
    refine sg R1 H1 σ ρ1 fps1 d v _ w1 r1 ?_
    unfold bnd goT at h
    cases e1 : Gt d ρ1 with
    | some ρ2 =>
      rw [e1] at h
      intro σ2 R2 H2 fps2 w2 x2 k2 l2
      have sb := sameB_g hg.nb k2
      exact h σ2 R2 H2 fps2 w2 (x1.trans x2) (fun i m e => sb i m (bOnly_eq he.bo e))
    | none => rw [e1] at h; exact h.elim
/-! ### what a loop walks -/
def YOK (κ : Kit) (R' H : Hp) (d : D) (x : V) (H' : Hp) : Prop :=
  (H' = H ∧ Rep κ.K κ.C R' d x) ∨ ∃ p vs es, H p = none ∧ H' = upd H p (.tup vs) ∧ x = .ref p ∧ d = .tup es ∧ Reps κ.K κ.C R' es vs
def ItOK (κ : Kit) (R1 : Hp) (J : It) (ds : List D) : Prop := ∀ i R' H, Sub R1 R' → Sub R' H →
  (∀ d, ds[i]? = some d → J.go i H ∧ ∀ x H', J.yld i H x H' → YOK κ R' H d x H') ∧ (ds.length ≤ i → J.stop i H)
def PostI (S : Sta) (μ μ' : List Mo) (R H : Hp) (σ : St) (fps : Fps) (W : WX) (Q : It → Hp → Prop) : Out (List D) → Prop
  | .ok ds ρ' => ∀ J R' H' fps', Wd S.κ R' μ' ρ' σ H' fps' → Ext S.κ R H fps R' H' fps' [] → ItOK S.κ R' J ds → Q J H'
  | .err c ρ' => ∀ R' H' fps', Wd S.κ R' (bOnly μ) ρ' σ H' fps' → Ext S.κ R H fps R' H' fps' [] → W (S.ec c) none σ H'
  | .stuck => False
structure DI (S : Sta) (μ : List Mo) (tg iter : Expr) (μ' : List Mo) (F : M (List D)) : Prop where
  bo : bOnly μ' = bOnly μ
  ex : ∃ wi : WX → TI, (∀ W X, Conf S W X → PI X tg iter (wi W)) ∧ ∀ W R H σ ρ fps Q, Wd S.κ R μ ρ σ H fps → PostI S μ μ' R H σ fps W Q (F ρ) → wi W σ H Q
theorem PostI.bindS {x : M D} {f : D → M (List D)} {Q : It → Hp → Prop} {Q1 : VK} {R H : Hp} {σ : St} {fps : Fps} {W : WX} {ρ : List D} (h : PostI S μ μ' R H σ fps W Q (bnd x f ρ))
    (k : ∀ d ρ1, PostI S μ μ' R H σ fps W Q (f d ρ1) → ∀ v R' H' fps', Wd S.κ R' μ1 ρ1 σ H' fps' → Rep S.κ.K S.κ.C R' d v → Ext S.κ R H fps R' H' fps' [] → Q1 v H') :
    PostE S μ .S μ1 R H σ fps W Q1 (x ρ) := by
  unfold bnd at h
  cases e : x ρ with
  | ok d ρ1 =>
    rw [e] at h
    intro v R' H' fps' tf w r t x
    obtain ⟨er, r⟩ := r
    subst er
    exact k d ρ1 h v R' H' fps' w r x
  | err c ρ1 => rw [e] at h; exact h
  | stuck => rw [e] at h; exact h
theorem PostI.bindA {x : M (List D)} {f : List D → M (List D)} {Q : It → Hp → Prop} {Q1 : List V → Hp → Prop} {R H : Hp} {σ : St} {fps : Fps} {W : WX} {ρ : List D} (h : PostI S μ μ' R H σ fps W Q (bnd x f ρ))
    (k : ∀ ds ρ1, PostI S μ μ' R H σ fps W Q (f ds ρ1) → ∀ vs R' H' fps', Wd S.κ R' μ1 ρ1 σ H' fps' → Reps S.κ.K S.κ.C R' ds vs → Ext S.κ R H fps R' H' fps' [] → Q1 vs H') :
    PostA S μ μ1 R H σ fps W Q1 (x ρ) := by
  unfold bnd at h
  cases e : x ρ with
  | ok d ρ1 => rw [e] at h; exact k d ρ1 h
  | err c ρ1 => rw [e] at h; exact h
  | stuck => rw [e] at h; exact h
theorem PostI.opt' {R H : Hp} {σ : St} {fps : Fps} {W : WX} {Q : It → Hp → Prop} {ρ : List D} {o : Option (List D)} (h : PostI S μ μ' R H σ fps W Q (opt o ρ)) : ∃ d, o = some d ∧ PostI S μ μ' R H σ fps W Q (.ok d ρ) := by
  cases o with
  | none => exact h.elim
  | some d => exact ⟨d, rfl, h⟩
def lstI : D → Option (List D)
  | .lst ds => some ds
  | _ => none
def tupI : D → Option (List D)
  | .tup ds => some ds
  | _ => none
variable {tg : Expr}
theorem di_list (he : DE S μ e .S μ' F) : DI S μ tg e μ' (bnd F fun x => opt (lstI x)) where
  bo := he.bo
  ex := by
    obtain ⟨te, p, s⟩ := he.ex
    refine ⟨fun W => iList S.κ.K (te W), fun W X c => ?_, fun W R H σ ρ fps Q w h => ?_⟩
    · have p := p W X c
      obtain ⟨A, s0, H0, env, outer, stack, ex, fn, pn, xe, rfl⟩ := c.shape
      exact pi_list p
    · refine s W R H σ ρ fps _ w (h.bindS fun d ρ1 h v R1 H1 fps1 w1 r1 x1 => ?_)
      obtain ⟨ds, e, h⟩ := h.opt'
      cases d <;> simp only [lstI] at e <;> first | (cases e; done) | skip
      cases e
      simp only [Rep] at r1
      obtain ⟨a, vs, rfl, hq, r⟩ := r1
      refine ⟨a, rfl, ⟨vs, SqL.of (w1.sub _ _ hq)⟩, h _ R1 H1 fps1 w1 x1 fun i R' H2 s1 s2 => ⟨fun d hd => ?_, fun hi => ?_⟩⟩
      · obtain ⟨v, hv, rv⟩ := r.get hd
        refine ⟨⟨vs, v, SqL.of (s2 _ _ (s1 _ _ hq)), hv⟩, fun x H' y => .inl ?_⟩
        obtain ⟨e1, e2⟩ := y
        have e3 := e2 vs (SqL.of (s2 _ _ (s1 _ _ hq)))
        rw [hv] at e3; cases e3
        exact ⟨e1, rv.mono s1⟩
      · exact ⟨vs, SqL.of (s2 _ _ (s1 _ _ hq)), by rw [← r.length]; exact hi⟩
theorem di_tup (he : DE S μ e .S μ' F) : DI S μ tg e μ' (bnd F fun x => opt (tupI x)) where
  bo := he.bo
  ex := by
    obtain ⟨te, p, s⟩ := he.ex
    refine ⟨fun W => iTup S.κ.K (te W), fun W X c => ?_, fun W R H σ ρ fps Q w h => ?_⟩
    · have p := p W X c
      obtain ⟨A, s0, H0, env, outer, stack, ex, fn, pn, xe, rfl⟩ := c.shape
      exact pi_tup p
    · refine s W R H σ ρ fps _ w (h.bindS fun d ρ1 h v R1 H1 fps1 w1 r1 x1 => ?_)
      obtain ⟨ds, e, h⟩ := h.opt'
      cases d <;> simp only [tupI] at e <;> first | (cases e; done) | skip
      cases e
      simp only [Rep] at r1
      obtain ⟨a, vs, rfl, hq, r⟩ := r1
      refine ⟨a, rfl, ⟨vs, sqT_mono w1.sub hq⟩, h _ R1 H1 fps1 w1 x1 fun i R' H2 s1 s2 => ⟨fun d hd => ?_, fun hi => ?_⟩⟩
      · obtain ⟨v, hv, rv⟩ := r.get hd
        have hq2 := sqT_mono (s1.trans s2) hq
        refine ⟨⟨vs, v, hq2, hv⟩, fun x H' y => .inl ?_⟩
        obtain ⟨e1, e2⟩ := y
        have e3 := e2 vs hq2
        rw [hv] at e3; cases e3
        exact ⟨e1, rv.mono s1⟩
      · exact ⟨vs, sqT_mono (s1.trans s2) hq, by rw [← r.length]; exact hi⟩
/-- lo, lo + 1, .. -/
def rangeL (lo : Int) (n : Nat) : List D := (List.range n).map fun k => .int (lo + (k : Nat))
theorem range_ok {κ : Kit} {R1 : Hp} {lo : Int} {n : Nat} : ItOK κ R1 (Itr lo n) (rangeL lo n) := fun i R' H s1 s2 => ⟨fun d hd => by
    unfold rangeL at hd
    rw [List.getElem?_map] at hd
    by_cases hi : i < n
    · rw [List.getElem?_range hi] at hd
      cases hd
      exact ⟨hi, fun x H' y => .inl ⟨y.1, by rw [y.2]; exact rep_int⟩⟩
    · rw [List.getElem?_eq_none (by simpa using hi)] at hd
      simp at hd, fun hi => by
    have h : n ≤ i := by simpa [rangeL] using hi
    exact h⟩
def range1I : List D → Option (List D)
  | [.int j] => if j.natAbs < 4611686018427387904 then some (rangeL 0 j.toNat) else none
  | _ => none
def range2I : List D → Option (List D)
  | [.int i, .int j] => if i.natAbs < 4611686018427387904 then (if j.natAbs < 4611686018427387904 then some (rangeL i (j - i).toNat) else none) else none
  | _ => none
theorem di_range1 {a : Expr} {p : Pos} {Fs : M (List D)} (ha : DA S μ [a] μ' Fs) (hm : S.mg "range" = none) (hg : S.sc.names.lookup ("range" : Str) = some .globalImplicit := by rfl) (hs : ∀ env, starEach [a] env = [(false, eval a env)] := by intro _; rfl) :
    DI S μ tg (.Call (.Name "range" p) [a] [] pos) μ' (bnd Fs fun xs => opt (range1I xs)) where
  bo := ha.bo
  ex := by
    obtain ⟨te, p, s⟩ := ha.ex
    refine ⟨fun W => iRng1 (te W), fun W X c => ?_, fun W R H σ ρ fps Q w h => ?_⟩
    · have p := p W X c
      have hg' : Gl X "range" := gl_of c.sc hg
      obtain ⟨A, s0, H0, env, outer, stack, ex, fn, pn, xe, rfl⟩ := c.shape
      exact pi_range1 hg' hm p (hs _)
    · refine s W R H σ ρ fps _ w (h.bindA fun ds ρ1 h vs R1 H1 fps1 w1 r1 x1 => ?_)
      obtain ⟨ds', e, h⟩ := h.opt'
      unfold range1I at e
      split at e
      · split at e
        · rename_i j hz
          cases e
          obtain ⟨v, rfl, r2⟩ := reps1 r1
          simp only [Rep] at r2
          subst r2
          exact ⟨j, rfl, by omega, by omega, h _ R1 H1 fps1 w1 x1 range_ok⟩
        · cases e
      · cases e
theorem di_range2 {a b : Expr} {p : Pos} {Fs : M (List D)} (ha : DA S μ [a, b] μ' Fs) (hm : S.mg "range" = none) (hg : S.sc.names.lookup ("range" : Str) = some .globalImplicit := by rfl) (hs : ∀ env, starEach [a, b] env = [(false, eval a env), (false, eval b env)] := by intro _; rfl)
    (hs2 : ∀ env, starEach [b] env = [(false, eval b env)] := by intro _; rfl) : DI S μ tg (.Call (.Name "range" p) [a, b] [] pos) μ' (bnd Fs fun xs => opt (range2I xs)) where
  bo := ha.bo
  ex := by
    obtain ⟨te, p, s⟩ := ha.ex
    refine ⟨fun W => iRng2 (te W), fun W X c => ?_, fun W R H σ ρ fps Q w h => ?_⟩
    · have p := p W X c
      have hg' : Gl X "range" := gl_of c.sc hg
      obtain ⟨A, s0, H0, env, outer, stack, ex, fn, pn, xe, rfl⟩ := c.shape
      exact pi_range2 hg' hm p (hs _) (hs2 _)
    · refine s W R H σ ρ fps _ w (h.bindA fun ds ρ1 h vs R1 H1 fps1 w1 r1 x1 => ?_)
      obtain ⟨ds', e, h⟩ := h.opt'
      unfold range2I at e
      split at e
      · rename_i i j
        split at e
        · rename_i hz
          split at e
          · rename_i hz2
            cases e
            obtain ⟨v, v', rfl, r2, r3⟩ := reps2 r1
            simp only [Rep] at r2 r3
            subst r2 r3
            exact ⟨i, j, rfl, ⟨by omega, by omega, by omega, by omega⟩, h _ R1 H1 fps1 w1 x1 range_ok⟩
          · cases e
        · cases e
      · cases e
/-- enumerate(xs), zip(xs, ys): each turn a new pair -/
def enumL (ds : List D) : List D := ds.zipIdx.map fun p => .tup [.int (p.2 : Nat), p.1]
def zipL (xs ys : List D) : List D := (xs.zip ys).map fun p => .tup [p.1, p.2]
def enumI : List D → Option (List D)
  | [.lst ds] => some (enumL ds)
  | _ => none
def zipI : List D → Option (List D)
  | [.lst xs, .lst ys] => some (zipL xs ys)
  | _ => none
theorem di_enum {a : Expr} {p tpos : Pos} {elts : List Expr} {kk : Nat} {Fs : M (List D)} (ha : DA S μ [a] μ' Fs) (hm : S.mg "enumerate" = none) (hg : S.sc.names.lookup ("enumerate" : Str) = some .globalImplicit := by rfl) (hs : ∀ env, starEach [a] env = [(false, eval a env)] := by intro _; rfl) :
    DI S μ (.Tuple elts kk tpos) (.Call (.Name "enumerate" p) [a] [] pos) μ' (bnd Fs fun xs => opt (enumI xs)) where
  bo := ha.bo
  ex := by
    obtain ⟨te, p, s⟩ := ha.ex
    refine ⟨fun W => iEnum S.κ.K (te W), fun W X c => ?_, fun W R H σ ρ fps Q w h => ?_⟩
    · have p := p W X c
      have hg' : Gl X "enumerate" := gl_of c.sc hg
      obtain ⟨A, s0, H0, env, outer, stack, ex, fn, pn, xe, rfl⟩ := c.shape
      exact pi_enum hg' hm p (hs _)
    · refine s W R H σ ρ fps _ w (h.bindA fun ds ρ1 h vs R1 H1 fps1 w1 r1 x1 => ?_)
      obtain ⟨ds', e, h⟩ := h.opt'
      unfold enumI at e
      split at e
      · rename_i ds
        cases e
        obtain ⟨v, rfl, r2⟩ := reps1 r1
        simp only [Rep] at r2
        obtain ⟨a, vs, rfl, hq, r⟩ := r2
        refine ⟨a, vs, rfl, SqL.of (w1.sub _ _ hq), h _ R1 H1 fps1 w1 x1 fun i R' H2 s1 s2 => ⟨fun d hd => ?_, fun hi => ?_⟩⟩
        · unfold enumL at hd
          rw [List.getElem?_map, List.getElem?_zipIdx] at hd
          cases e1 : ds[i]? with
          | none => rw [e1] at hd; cases hd
          | some d1 =>
            rw [e1] at hd
            have hd : D.tup [.int ((0 + i : Nat) : Int), d1] = d := by simpa using hd
            obtain ⟨v, hv, rv⟩ := r.get e1
            refine ⟨⟨vs, v, SqL.of (s2 _ _ (s1 _ _ hq)), hv⟩, fun x H' y => .inr ?_⟩
            obtain ⟨T, x', ex, eT, eH, ey⟩ := y
            have e3 := ey vs (SqL.of (s2 _ _ (s1 _ _ hq)))
            rw [hv] at e3; cases e3
            refine ⟨T, _, _, eT, eH, ex, hd.symm, .cons ?_ (.cons (rv.mono s1) .nil)⟩
            rw [Nat.zero_add]; exact rep_int
        · refine ⟨vs, SqL.of (s2 _ _ (s1 _ _ hq)), ?_⟩
          have : ds.length ≤ i := by simpa [enumL] using hi
          rw [← r.length]; exact this
      · cases e
theorem di_zip {a b : Expr} {p tpos : Pos} {elts : List Expr} {kk : Nat} {Fs : M (List D)} (ha : DA S μ [a, b] μ' Fs) (hm : S.mg "zip" = none) (hg : S.sc.names.lookup ("zip" : Str) = some .globalImplicit := by rfl) (hs : ∀ env, starEach [a, b] env = (false, eval a env) :: starEach [b] env := by intro _; rfl)
    (hpl : ∀ env, (backTo pos (starEach [b] env)).any (·.1) = false := by intro _; rfl) : DI S μ (.Tuple elts kk tpos) (.Call (.Name "zip" p) [a, b] [] pos) μ' (bnd Fs fun xs => opt (zipI xs)) where
  bo := ha.bo
  ex := by
    obtain ⟨te, p, s⟩ := ha.ex
    refine ⟨fun W => iZip S.κ.K (te W), fun W X c => ?_, fun W R H σ ρ fps Q w h => ?_⟩
    · have p := p W X c
      have hg' : Gl X "zip" := gl_of c.sc hg
      obtain ⟨A, s0, H0, env, outer, stack, ex, fn, pn, xe, rfl⟩ := c.shape
      exact pi_zip hg' hm p (hs _) (hpl _)
    · refine s W R H σ ρ fps _ w (h.bindA fun ds ρ1 h vs R1 H1 fps1 w1 r1 x1 => ?_)
      obtain ⟨ds', e, h⟩ := h.opt'
      unfold zipI at e
      split at e
      · rename_i xs ys
        cases e
        obtain ⟨v, v', rfl, r2, r3⟩ := reps2 r1
        simp only [Rep] at r2 r3
        obtain ⟨a, va, rfl, hqa, ra⟩ := r2
        obtain ⟨b, vb, rfl, hqb, rb⟩ := r3
        refine ⟨a, b, va, vb, rfl, SqL.of (w1.sub _ _ hqa), SqL.of (w1.sub _ _ hqb), h _ R1 H1 fps1 w1 x1 fun i R' H2 s1 s2 => ⟨fun d hd => ?_, fun hi => ?_⟩⟩
        · unfold zipL at hd
          rw [List.getElem?_map] at hd
          cases e0 : (xs.zip ys)[i]? with
          | none => rw [e0] at hd; cases hd
          | some pr =>
            rw [e0] at hd
            cases hd
            obtain ⟨e1, e2⟩ := List.getElem?_zip_eq_some.mp e0
            obtain ⟨v1, hv1, rv1⟩ := ra.get e1
            obtain ⟨v2, hv2, rv2⟩ := rb.get e2
            refine ⟨⟨va, vb, v1, v2, SqL.of (s2 _ _ (s1 _ _ hqa)), SqL.of (s2 _ _ (s1 _ _ hqb)), hv1, hv2⟩, fun x H' y => .inr ?_⟩
            obtain ⟨T, x', y', ex, eT, eH, ey1, ey2⟩ := y
            have e3 := ey1 va (SqL.of (s2 _ _ (s1 _ _ hqa)))
            have e4 := ey2 vb (SqL.of (s2 _ _ (s1 _ _ hqb)))
            rw [hv1] at e3; rw [hv2] at e4
            cases e3; cases e4
            exact ⟨T, _, _, eT, eH, ex, rfl, .cons (rv1.mono s1) (.cons (rv2.mono s1) .nil)⟩
        · refine ⟨va, vb, SqL.of (s2 _ _ (s1 _ _ hqa)), SqL.of (s2 _ _ (s1 _ _ hqb)), ?_⟩
          have hi : min xs.length ys.length ≤ i := by simpa [zipL] using hi
          rw [← ra.length, ← rb.length]
          omega
      · cases e
/-! ### for -/
def loopM (G : GT) (B : M Fl) : List D → M Fl
  | [] => ret .nx
  | d :: ds => fun ρ => match (bnd (goT (G d)) fun _ => B) ρ with
    | .ok .nx ρ' => loopM G B ds ρ'
    | .ok .cont ρ' => loopM G B ds ρ'
    | .ok .brk ρ' => .ok .nx ρ'
    | .ok (.ret v) ρ' => .ok (.ret v) ρ'
    | .err c ρ' => .err c ρ'
    | .stuck => .stuck
theorem yield_wd {κ : Kit} {R1 R' H H' : Hp} {ρ : List D} {σ : St} {fps : Fps} {d : D} {x : V} (w : Wd κ R' μ ρ σ H fps) (y : YOK κ R' H d x H') : ∃ R2, Wd κ R2 μ ρ σ H' fps ∧ Ext κ R' H fps R2 H' fps [] ∧ Rep κ.K κ.C R2 d x := by
  rcases y with ⟨rfl, r⟩ | ⟨p, vs, es, hp, rfl, rfl, rfl, r⟩
  · exact ⟨R', w, Ext.refl, r⟩
  · exact ⟨upd R' p (.tup vs), w.newS hp, Ext.newS w.sub hp, rep_tup (SqT.of upd_same) (r.mono (Sub.new (w.sub.free hp)))⟩
theorem ds_for {iter : Expr} {body : List Stmt} {is : List Nat} {Gt : GT} {Fi : M (List D)} {μb : List Mo} (hi : DI S μ tg iter μ1 Fi) (hg : DG S μ1 tg is μb Gt) (hb : DB S { J with μb := μ1, μc := μ1 } μb body μ1 G)
    (hs : ∀ env x, foldedSetIterable iter env x = pure x := by intro _ _; rfl) : DS S J μ (.For tg iter body [] pos) μ1 (bnd Fi fun ds => loopM Gt G ds) where
  bo := hi.bo
  ex := by
    obtain ⟨wi, p, s⟩ := hi.ex
    obtain ⟨g, pg, sg⟩ := hg.ex
    obtain ⟨tb, pb, sb⟩ := hb.ex
    refine ⟨fun W => tFor (wi W) g (tb W), fun W X c => ?_, fun W R H σ ρ fps E w h => ?_⟩
    · have p := p W X c
      have pg := pg W X c
      have pb := pb W X c
      have own := c.own
      obtain ⟨A, s0, H0, env, outer, stack, ex, fn, pn, xe, rfl⟩ := c.shape
      exact ps_for own rfl p pg pb (hs _)
    · refine s W R H σ ρ fps _ w ?_
      unfold bnd at h
      cases eF : Fi ρ with
      | stuck => rw [eF] at h; exact h.elim
      | err c ρ' => rw [eF] at h; exact fun R' H' fps' w' y => h σ R' H' fps' w' y SameB.refl
      | ok ds ρ0 =>
        rw [eF] at h
        intro It0 R0 H0 fps0 w0 x0 ok0
        refine ⟨fun i m σ' H' => m = ds.length - i ∧ i ≤ ds.length ∧ ∃ R' ρ' fps', Wd S.κ R' μ1 ρ' σ' H' fps' ∧ Sub R0 R' ∧ Ext S.κ R H fps R' H' fps' [] ∧ SameB μ σ σ' ∧ PostS S J μ μ1 R H σ fps W E (loopM Gt G (ds.drop i) ρ'), ⟨ds.length, rfl, Nat.zero_le _, R0, ρ0, fps0, w0, Sub.refl _, x0, SameB.refl, h⟩, ?_⟩
        rintro i m σ1 H1 ⟨rfl, hil, R1, ρ1, fps1, w1, sub1, x1, s1, h⟩
        obtain ⟨hgo, hstop⟩ := ok0 i R1 H1 sub1 w1.sub
        by_cases hlt : i < ds.length
        · have ed : ds[i]? = some ds[i] := List.getElem?_eq_getElem hlt
          obtain ⟨go, yl⟩ := hgo _ ed
          refine .inr ⟨go, fun σ' H' => ∃ R' ρ' fps', Wd S.κ R' μ1 ρ' σ' H' fps' ∧ Sub R0 R' ∧ Ext S.κ R H fps R' H' fps' [] ∧ SameB μ σ σ' ∧ PostS S J μ μ1 R H σ fps W E (loopM Gt G (ds.drop (i + 1)) ρ'),
            fun σ' H' ⟨R', ρ', fps', a, b, c, d, e⟩ => ⟨ds.length - (i + 1), by omega, rfl, hlt, R', ρ', fps', a, b, c, d, e⟩, fun x H' y => ?_⟩
          obtain ⟨R2, w2, x2, r2⟩ := yield_wd (R1 := R1) w1 (yl x H' y)
          have x2' := x1.trans x2
          rw [List.drop_eq_getElem_cons hlt] at h
          simp only [loopM] at h
          refine sg R2 H' σ1 ρ1 fps1 ds[i] x _ w2 r2 ?_
          cases eG : Gt ds[i] ρ1 with
          | none => simp only [bnd, goT, eG] at h; exact h.elim
          | some ρ2 =>
            simp only [bnd, goT, eG] at h
            intro σ3 R3 H3 fps3 w3 x3 k3 l3
            have x3' := x2'.trans x3
            have nb1 : SameB μ σ1 σ3 := fun j m e => sameB_g hg.nb k3 j m (bOnly_eq hi.bo e)
            have s3 : SameB μ σ σ3 := fun j m e => (nb1 j m e).trans (s1 j m e)
            refine sb W R3 H3 σ3 ρ2 fps3 _ w3 ?_
            have bb : bOnly μb = bOnly μ := hg.bo.trans hi.bo
            cases eB : G ρ2 with
            | stuck => rw [eB] at h; exact h.elim
            | err c ρ3 => rw [eB] at h; exact fun σ' R' H' fps' w' y s => h σ' R' H' fps' (bb ▸ w') (x3'.trans y) (s3.trans s bb)
            | ok f ρ3 =>
              rw [eB] at h
              cases f with
              | nx => exact fun σ' R' H' fps' w' y s => ⟨R', ρ3, fps', w', sub1.trans (x2.sub.trans (x3.sub.trans y.sub)), x3'.trans y, s3.trans s bb, h⟩
              | cont => exact fun σ' R' H' fps' w' y s => ⟨R', ρ3, fps', w', sub1.trans (x2.sub.trans (x3.sub.trans y.sub)), x3'.trans y, s3.trans s bb, h⟩
              | brk => exact fun σ' R' H' fps' w' y s => h σ' R' H' fps' w' (x3'.trans y) (s3.trans s bb)
              | ret d => exact fun v σ' R' H' fps' tf w' r t y s => h v σ' R' H' fps' tf (bb ▸ w') r t (x3'.trans y) (s3.trans s bb)
        · have e0 : i = ds.length := by omega
          subst e0
          rw [List.drop_length] at h
          exact .inl ⟨hstop (Nat.le_refl _), h σ1 R1 H1 fps1 w1 x1 s1⟩
end
end VL

namespace VL
open PySem L2

/-! ### several values, each of its mode -/
def RepMs (κ : Kit) (R H : Hp) : List Mo → List D → List V → List (List Addr) → Prop
  | [], ds, vs, fs => ds = [] ∧ vs = [] ∧ fs = []
  | m :: ms, ds, vs, fs => ∃ d ds' v vs' f fs', ds = d :: ds' ∧ vs = v :: vs' ∧ fs = f :: fs' ∧ RepM κ R H m d v f ∧ RepMs κ R H ms ds' vs' fs'
def PostV (S : Sta) (μ : List Mo) (ms : List Mo) (μ' : List Mo) (R H : Hp) (σ : St) (fps : Fps) (W : WX) (Q : List V → Hp → Prop) : Out (List D) → Prop
  | .ok ds ρ' => ∀ vs R' H' fps' tfs, Wd S.κ R' μ' ρ' σ H' fps' → RepMs S.κ R' H' ms ds vs tfs → Tmp S.κ R' fps' tfs.flatten → Ext S.κ R H fps R' H' fps' tfs.flatten → Q vs H'
  | .err c ρ' => ∀ R' H' fps', Wd S.κ R' (bOnly μ) ρ' σ H' fps' → Ext S.κ R H fps R' H' fps' [] → W (S.ec c) none σ H'
  | .stuck => False
structure DV (S : Sta) (μ : List Mo) (es : List Expr) (ms μ' : List Mo) (F : M (List D)) : Prop where
  bo : bOnly μ' = bOnly μ
  ex : ∃ te : WX → TA, (∀ W X, Conf S W X → PA X es (te W)) ∧ ∀ W R H σ ρ fps Q, Wd S.κ R μ ρ σ H fps → PostV S μ ms μ' R H σ fps W Q (F ρ) → te W σ H Q
section
variable {S : Sta} {J : Jmp} {μ μ1 μ2 μ' : List Mo} {pos pos' : Pos} {a b c e : Expr} {es : List Expr} {F Fa Fb Fi : M D} {Fs : M (List D)} {G Ga Gb : M Fl} {m : Mo} {ms : List Mo}
theorem dv_nil : DV S μ [] [] μ (ret []) where
  bo := rfl
  ex := ⟨fun _ => tNil, fun W X c => pa_nil, fun W R H σ ρ fps Q w h => h [] R H fps [] w ⟨rfl, rfl, rfl⟩ Tmp.nil Ext.refl⟩
theorem dv_cons (he : DE S μ e m μ1 F) (hr : DV S μ1 es ms μ2 Fs) (hs : ∀ env, starEach (e :: es) env = (false, eval e env) :: starEach es env := by intro _; rfl) : DV S μ (e :: es) (m :: ms) μ2 (bnd F fun x => bnd Fs fun xs => ret (x :: xs)) where
  bo := hr.bo.trans he.bo
  ex := by
    obtain ⟨te, pe, se⟩ := he.ex
    obtain ⟨tr, pr, sr⟩ := hr.ex
    refine ⟨fun W => tCons (te W) (tr W), fun W X c => pa_cons (pe W X c) (pr W X c) (hs _), fun W R H σ ρ fps Q w h => ?_⟩
    refine se W R H σ ρ fps _ w ?_
    unfold bnd at h
    cases e1 : F ρ with
    | stuck => rw [e1] at h; exact h.elim
    | err c ρ' => rw [e1] at h; exact h
    | ok d ρ1 =>
      rw [e1] at h
      intro v R1 H1 fps1 tf1 w1 r1 t1 x1
      refine sr W R1 H1 σ ρ1 fps1 _ w1 ?_
      simp only at h
      cases e2 : Fs ρ1 with
      | stuck => rw [e2] at h; exact h.elim
      | err c ρ' => rw [e2] at h; exact fun R' H' fps' w' y => h R' H' fps' (he.bo ▸ w') (x1.drop.trans y)
      | ok ds ρ2 =>
        rw [e2] at h
        intro vs R2 H2 fps2 tfs w2 r2 t2 x2
        obtain ⟨r1', t1', dj⟩ := r1.step t1 x2
        refine h (v :: vs) R2 H2 fps2 (tf1 :: tfs) w2 ⟨d, ds, v, vs, tf1, tfs, rfl, rfl, rfl, r1', r2⟩ ?_ ?_
        · rw [List.flatten_cons]
          refine ⟨List.nodup_append.mpr ⟨t1'.nd, t2.nd, fun a ha b hb z => dj a ha (z ▸ hb)⟩, fun a ha => ?_⟩
          rcases List.mem_append.mp ha with q | q
          · exact t1'.dis a q
          · exact t2.dis a q
        · rw [List.flatten_cons]
          refine ⟨x1.sub.trans x2.sub, fun a o e n f tt => ?_⟩
          obtain ⟨e1, n1, f1, n2⟩ := x1.frm a o e n f tt
          obtain ⟨e2, n3, f2, n4⟩ := x2.frm a o e1 n1 f1 tt
          exact ⟨e2, n3, f2, by rw [List.mem_append]; exact not_or.mpr ⟨n2, n4⟩⟩
theorem RepMs.length {κ : Kit} {R H : Hp} : ∀ {ms : List Mo} {ds : List D} {vs : List V} {tfs : List (List Addr)}, RepMs κ R H ms ds vs tfs → vs.length = ms.length
  | [], _, _, _, h => by obtain ⟨_, rfl, _⟩ := h; rfl
  | m :: ms, _, _, _, h => by
    obtain ⟨d, ds', v, vs', f, fs', rfl, rfl, rfl, _, rr⟩ := h
    simp [RepMs.length rr]
theorem RepMs.mono {κ : Kit} {R R' H H' : Hp} (s : Sub R R') : ∀ {ms : List Mo} {ds : List D} {vs : List V} {tfs : List (List Addr)}, (∀ a ∈ tfs.flatten, ∀ o, NT o → H a = some o → H' a = some o) → RepMs κ R H ms ds vs tfs → RepMs κ R' H' ms ds vs tfs
  | [], _, _, _, _, h => h
  | m :: ms, _, _, _, k, h => by
    obtain ⟨d, ds', v, vs', f, fs', rfl, rfl, rfl, rm, rr⟩ := h
    refine ⟨d, ds', v, vs', f, fs', rfl, rfl, rfl, RepM.mono s m d v f (fun a ha => k a (by rw [List.flatten_cons]; exact List.mem_append_left _ ha)) rm, RepMs.mono s (fun a ha => k a (by rw [List.flatten_cons]; exact List.mem_append_right _ ha)) rr⟩
def sets {α : Type} : List Nat → List α → List α → List α
  | i :: is, x :: xs, l => sets is xs (l.set i x)
  | _, _, l => l
theorem Wd.stores {κ : Kit} {R H : Hp} : ∀ {is : List Nat} {ms : List Mo} {ds : List D} {vs : List V} {tfs : List (List Addr)} {μ : List Mo} {ρ : List D} {σ : St} {fps : Fps}, Wd κ R μ ρ σ H fps → RepMs κ R H ms ds vs tfs → Tmp κ R fps tfs.flatten → is.length = ms.length → (∀ i ∈ is, i < μ.length) →
    ∃ fps', Wd κ R (sets is ms μ) (sets is ds ρ) (sets is (vs.map some) σ) H fps' ∧ ∀ i a, a ∈ fps' i → a ∈ fps i ∨ a ∈ tfs.flatten
  | [], [], ds, vs, tfs, μ, ρ, σ, fps, w, r, t, hl, hi => ⟨fps, by simp only [sets]; exact w, fun i a h => .inl h⟩
  | i :: is, m :: ms, ds, vs, tfs, μ, ρ, σ, fps, w, r, t, hl, hi => by
    obtain ⟨d, ds', v, vs', f, fs', rfl, rfl, rfl, rm, rr⟩ := r
    rw [List.flatten_cons] at t
    have nd := List.nodup_append.mp t.nd
    have t1 : Tmp κ R fps f := ⟨nd.1, fun a ha => t.dis a (List.mem_append_left _ ha)⟩
    have w1 := w.store (hi i List.mem_cons_self) rm t1
    have t2 : Tmp κ R (fset fps i f) fs'.flatten := ⟨nd.2.1, fun a ha => by
      obtain ⟨a1, a2, a3⟩ := t.dis a (List.mem_append_right _ ha)
      refine ⟨a1, fun j hj => ?_, a3⟩
      by_cases hji : j = i
      · subst hji; rw [fset_same] at hj; exact nd.2.2 a hj a ha rfl
      · rw [fset_ne hji] at hj; exact a2 j hj⟩
    obtain ⟨fps', w2, h2⟩ := Wd.stores (is := is) w1 rr t2 (by simpa using hl) (fun j hj => by rw [List.length_set]; exact hi j (List.mem_cons_of_mem _ hj))
    refine ⟨fps', by simp only [sets, List.map_cons]; exact w2, fun j a h => ?_⟩
    rw [List.flatten_cons, List.mem_append]
    rcases h2 j a h with q | q
    · by_cases hji : j = i
      · subst hji; rw [fset_same] at q; exact .inr (.inl q)
      · rw [fset_ne hji] at q; exact .inl q
    · exact .inr (.inr q)
  | [], _ :: _, _, _, _, _, _, _, _, _, _, _, hl, _ => by cases hl
  | _ :: _, [], _, _, _, _, _, _, _, _, _, _, hl, _ => by cases hl
theorem Ext.stores {κ : Kit} {R H R' H' : Hp} {fps fps' fps2 : Fps} {tf : List Addr} (x : Ext κ R H fps R' H' fps' tf) (h : ∀ i a, a ∈ fps2 i → a ∈ fps' i ∨ a ∈ tf) : Ext κ R H fps R' H' fps2 [] :=
  ⟨x.sub, fun a o e n f tt => let ⟨e1, n1, f1, n2⟩ := x.frm a o e n f tt; ⟨e1, n1, fun i q => (h i a q).elim (f1 i) n2, by simp⟩⟩
theorem bOnly_sets : ∀ {is : List Nat} {ms μ : List Mo}, (∀ i ∈ is, ∃ m0, μ[i]? = some m0 ∧ isB m0 = false) → (∀ m ∈ ms, isB m = false) → bOnly (sets is ms μ) = bOnly μ
  | [], _, _, _, _ => by simp only [sets]
  | _ :: _, [], _, _, _ => by simp only [sets]
  | i :: is, m :: ms, μ, h, hm => by
    show bOnly (sets is ms (μ.set i m)) = bOnly μ
    obtain ⟨m0, e, hb⟩ := h i List.mem_cons_self
    have hm0 := hm m List.mem_cons_self
    rw [bOnly_sets (is := is) (ms := ms) ?_ (fun m' h' => hm m' (List.mem_cons_of_mem _ h'))]
    · exact bOnly_set e hb hm0
    · intro j hj
      by_cases hji : j = i
      · subst hji
        exact ⟨m, List.getElem?_set_self (List.getElem?_eq_some_iff.mp e).1, hm0⟩
      · rw [List.getElem?_set_ne (Ne.symm hji)]
        exact h j (List.mem_cons_of_mem _ hj)
theorem sameB_sets : ∀ {is : List Nat} {vs : List (Option V)} {σ : St}, (∀ i ∈ is, ∃ m0, μ[i]? = some m0 ∧ isB m0 = false) → SameB μ σ (sets is vs σ)
  | [], _, σ, _ => by simp only [sets]; exact SameB.refl
  | _ :: _, [], σ, _ => by simp only [sets]; exact SameB.refl
  | i :: is, v :: vs, σ, h => by
    show SameB μ σ (sets is vs (σ.set i v))
    obtain ⟨m0, e, hb⟩ := h i List.mem_cons_self
    exact (sameB_set e hb).trans (sameB_sets (is := is) (vs := vs) fun j hj => h j (List.mem_cons_of_mem _ hj)) rfl
/-- what the slots of a parallel store ask -/
def freeB (μ : List Mo) (is : List Nat) : Bool := is.all fun i => match μ[i]? with
  | some m => !isB m
  | none => false
theorem freeB_of {is : List Nat} (h : freeB μ is = true) : ∀ i ∈ is, ∃ m0, μ[i]? = some m0 ∧ isB m0 = false := fun i hi => by
  have := List.all_eq_true.mp h i hi
  cases e : μ[i]? with
  | none => rw [e] at this; cases this
  | some m => rw [e] at this; exact ⟨m, rfl, by simpa using this⟩
theorem multi_sound {is : List Nat} {ρ : List D} {σ : St} {R H : Hp} {fps : Fps} {W : WX} {E : Ends} {μ0 : List Mo} (h : PostS S J μ0 (sets is ms μ1) R H σ fps W E ((bnd Fs fun xs => fun ρ => Out.ok Fl.nx (sets is xs ρ)) ρ)) (hbo : bOnly μ1 = bOnly μ0) (hf : freeB μ1 is = true) (hl : is.length = ms.length) {k : List V → Hp → Prop}
    (hk : ∀ vs H', (∀ u, E.nx (sets is (vs.map some) σ) u → E.nx (sets is (vs.map some) σ) u) → vs.length = ms.length → E.nx (sets is (vs.map some) σ) H' → k vs H') : PostV S μ0 ms μ1 R H σ fps W k (Fs ρ) := by
  unfold bnd at h
  cases e1 : Fs ρ with
  | stuck => rw [e1] at h; exact h.elim
  | err c ρ' => rw [e1] at h; exact fun R' H' fps' w y => h σ R' H' fps' w y SameB.refl
  | ok ds ρ1 =>
    rw [e1] at h
    intro vs R1 H1 fps1 tfs w1 r1 t1 x1
    have fb := freeB_of hf
    obtain ⟨fps2, w2, h2⟩ := w1.stores r1 t1 hl (fun i hi => let ⟨m0, e, _⟩ := fb i hi; (List.getElem?_eq_some_iff.mp e).1)
    have len : vs.length = ms.length := r1.length
    refine hk vs H1 (fun _ q => q) len (h _ R1 H1 fps2 w2 (x1.stores h2) fun i m e => ?_)
    exact sameB_sets fb i m (bOnly_eq hbo e)
/-- x, y = a, b; x, y, z = a, b, c: plain locals -/
theorem ds_par2 (i j : Nat) {x y : Str} {px py pt pt2 : Pos} {kt k2 : Nat} (ha : DV S μ [a, b] ms μ1 Fs) (hl : ms.length = 2 := by rfl) (hf : freeB μ1 [i, j] = true := by decide) (hmb : ms.all (fun m => !isB m) = true := by decide) (hi : S.N[i]? = some x := by rfl) (hj : S.N[j]? = some y := by rfl) (hij : i ≠ j := by decide)
    (hx : S.sc.names.lookup x = some .local := by rfl) (hy : S.sc.names.lookup y = some .local := by rfl)
    (hw : ∀ env : Env, env.scope = S.sc → swappedStores [.Tuple [.Name x px, .Name y py] kt pt] (.Tuple [a, b] k2 pt2) env = pure (some [x, y]))
    (hs : ∀ env, swapsWithSole [.Tuple [.Name x px, .Name y py] kt pt] (.Tuple [a, b] k2 pt2) pos.line env = pure false := by intro _; rfl) :
    DS S J μ (.Assign [.Tuple [.Name x px, .Name y py] kt pt] (.Tuple [a, b] k2 pt2) pos) (sets [i, j] ms μ1) (bnd Fs fun xs => fun ρ => .ok .nx (sets [i, j] xs ρ)) where
  bo := (bOnly_sets (freeB_of hf) (fun m hm => by simpa using List.all_eq_true.mp hmb m hm)).trans ha.bo
  ex := by
    obtain ⟨ta, p, s⟩ := ha.ex
    refine ⟨fun W => tPar i j (ta W), fun W X c => ?_, fun W R H σ ρ fps E w h => ?_⟩
    · have p := p W X c
      have e := c.sc
      have nd := c.nd
      obtain ⟨A, s0, H0, env, outer, stack, ex, fn, pn, xe, rfl⟩ := c.shape
      exact ps_par rfl nd hi hj hij (by rw [show env.scope = S.sc from e]; exact hx) (by rw [show env.scope = S.sc from e]; exact hy) p (hw _ e) (hs _)
    · refine s W R H σ ρ fps _ w (multi_sound h ha.bo hf (by rw [hl]; rfl) fun vs H' _ len q => ?_)
      rw [hl] at len
      match vs, len with
      | [v, w'], _ => exact ⟨v, w', rfl, q⟩
theorem ds_par3 (i j l : Nat) {x y z : Str} {px py pz pt pt2 : Pos} {kt k2 : Nat} (ha : DV S μ [a, b, c] ms μ1 Fs) (hl : ms.length = 3 := by rfl) (hf : freeB μ1 [i, j, l] = true := by decide) (hmb : ms.all (fun m => !isB m) = true := by decide) (hi : S.N[i]? = some x := by rfl) (hj : S.N[j]? = some y := by rfl) (hll : S.N[l]? = some z := by rfl)
    (hij : i ≠ j := by decide) (hil : i ≠ l := by decide) (hjl : j ≠ l := by decide)
    (hx : S.sc.names.lookup x = some .local := by rfl) (hy : S.sc.names.lookup y = some .local := by rfl) (hz : S.sc.names.lookup z = some .local := by rfl)
    (hw : ∀ env : Env, env.scope = S.sc → swappedStores [.Tuple [.Name x px, .Name y py, .Name z pz] kt pt] (.Tuple [a, b, c] k2 pt2) env = pure (some [x, y, z]))
    (hs : ∀ env, swapsWithSole [.Tuple [.Name x px, .Name y py, .Name z pz] kt pt] (.Tuple [a, b, c] k2 pt2) pos.line env = pure false := by intro _; rfl) :
    DS S J μ (.Assign [.Tuple [.Name x px, .Name y py, .Name z pz] kt pt] (.Tuple [a, b, c] k2 pt2) pos) (sets [i, j, l] ms μ1) (bnd Fs fun xs => fun ρ => .ok .nx (sets [i, j, l] xs ρ)) where
  bo := (bOnly_sets (freeB_of hf) (fun m hm => by simpa using List.all_eq_true.mp hmb m hm)).trans ha.bo
  ex := by
    obtain ⟨ta, p, s⟩ := ha.ex
    refine ⟨fun W => tPar3 i j l (ta W), fun W X c => ?_, fun W R H σ ρ fps E w h => ?_⟩
    · have p := p W X c
      have e := c.sc
      have nd := c.nd
      obtain ⟨A, s0, H0, env, outer, stack, ex, fn, pn, xe, rfl⟩ := c.shape
      exact ps_par3 rfl nd hi hj hll hij hil hjl (by rw [show env.scope = S.sc from e]; exact hx) (by rw [show env.scope = S.sc from e]; exact hy) (by rw [show env.scope = S.sc from e]; exact hz) p (hw _ e) (hs _)
    · refine s W R H σ ρ fps _ w (multi_sound h ha.bo hf (by rw [hl]; rfl) fun vs H' _ len q => ?_)
      rw [hl] at len
      match vs, len with
      | [v, w', u], _ => exact ⟨v, w', u, rfl, q⟩
/-- names that get the items of a tuple, one by one -/
def gNames : List Nat → TGs
  | [] => gNil
  | i :: is => gCons (gName i) (gNames is)
theorem gNames_run : ∀ {is : List Nat} {vs : List V} {σ : St} {H : Hp} {Q : St → Hp → Prop}, vs.length = is.length → Q (sets is (vs.map some) σ) H → gNames is vs σ H Q
  | [], [], σ, H, Q, _, q => ⟨rfl, q⟩
  | i :: is, v :: vs, σ, H, Q, hl, q => ⟨v, vs, rfl, gNames_run (is := is) (by simpa using hl) q⟩
  | [], _ :: _, _, _, _, hl, _ => by cases hl
  | _ :: _, [], _, _, _, hl, _ => by cases hl
inductive Names (S : Sta) : List Expr → List Nat → Prop
  | nil : Names S [] []
  | cons {x : Str} {p : Pos} {i : Nat} {ts : List Expr} {is : List Nat} (hi : S.N[i]? = some x) (hx : Loc S.sc x) (hfn : Fnn S x) (h : Names S ts is) : Names S (.Name x p :: ts) (i :: is)
theorem Names.pgs {W : WX} {X : Cx} (cf : Conf S W X) : ∀ {ts : List Expr} {is : List Nat}, Names S ts is → PGs X ts (gNames is)
  | _, _, .nil => pgs_nil
  | _, _, .cons (x := x) (p := p) (i := i) (ts := ts) hi hx hfn h => by
    have ih := Names.pgs cf h
    have hf := cf.fnok hfn
    have hl := loc_of cf.sc hx
    have nd := cf.nd
    obtain ⟨A, s0, H0, env, outer, stack, ex, fn, pn, xe, rfl⟩ := cf.shape
    exact pgs_cons (pg_name nd hi hl hf) ih (by cases ts <;> rfl)
/-- x, y, .. = a, b, .. where not all are plain locals: through a tuple -/
theorem ds_tup (is : List Nat) {ts : List Expr} {pt pt2 : Pos} {kt k2 : Nat} (ha : DV S μ es ms μ1 Fs) (hn : Names S ts is) (hl : is.length = ms.length := by rfl) (hz : ms.length ≤ sizeLine := by decide) (hf : freeB μ1 is = true := by decide) (hmb : ms.all (fun m => !isB m) = true := by decide)
    (hw : ∀ env : Env, env.scope = S.sc → swappedStores [.Tuple ts kt pt] (.Tuple es k2 pt2) env = pure none)
    (hln : ∀ env, (assignEach ts env).length = is.length := by intro _; rfl) (hst : ∀ env, (assignEach ts env).findIdx? (·.1) = none := by intro _; rfl)
    (hs : ∀ env, swapsWithSole [.Tuple ts kt pt] (.Tuple es k2 pt2) pos.line env = pure false := by intro _; rfl) :
    DS S J μ (.Assign [.Tuple ts kt pt] (.Tuple es k2 pt2) pos) (sets is ms μ1) (bnd Fs fun xs => fun ρ => .ok .nx (sets is xs ρ)) where
  bo := (bOnly_sets (freeB_of hf) (fun m hm => by simpa using List.all_eq_true.mp hmb m hm)).trans ha.bo
  ex := by
    obtain ⟨ta, p, s⟩ := ha.ex
    refine ⟨fun W => tAsg (tTup (ta W)) (gTup S.κ.K is.length (gNames is)), fun W X c => ?_, fun W R H σ ρ fps E w h => ?_⟩
    · have p := p W X c
      have g := hn.pgs c
      have e := c.sc
      obtain ⟨A, s0, H0, env, outer, stack, ex, fn, pn, xe, rfl⟩ := c.shape
      exact ps_asg (pe_tup p) (pg_tup rfl g (hln _) (hst _)) (hs _) (hw _ e) rfl
    · refine s W R H σ ρ fps _ w ?_
      unfold bnd at h
      cases e1 : Fs ρ with
      | stuck => rw [e1] at h; exact h.elim
      | err c ρ' => rw [e1] at h; exact fun R' H' fps' w y => h σ R' H' fps' w y SameB.refl
      | ok ds ρ1 =>
        rw [e1] at h
        intro vs R1 H1 fps1 tfs w1 r1 t1 x1
        have len : vs.length = ms.length := r1.length
        refine ⟨by rw [len]; exact hz, fun q hq => ⟨q, vs, rfl, SqT.of upd_same, by rw [len, hl], gNames_run (by rw [len, hl]) ?_⟩⟩
        -- the tuple at q is nobody's
        have fb := freeB_of hf
        have w1' : Wd S.κ R1 μ1 ρ1 σ (upd H1 q (.tup vs)) fps1 := w1.newO hq
        have r1' : RepMs S.κ R1 (upd H1 q (.tup vs)) ms ds vs tfs := RepMs.mono (Sub.refl _) (fun a _ o _ e => by rw [upd_ne (ne_of_none e hq)]; exact e) r1
        obtain ⟨fps2, w2, h2⟩ := w1'.stores r1' t1 hl (fun i hi => let ⟨m0, e, _⟩ := fb i hi; (List.getElem?_eq_some_iff.mp e).1)
        have x2 : Ext S.κ R H fps R1 (upd H1 q (.tup vs)) fps1 tfs.flatten := ⟨x1.sub, fun a o e n f tt => by
          obtain ⟨e1, n1, f1, n2⟩ := x1.frm a o e n f tt
          exact ⟨by rw [upd_ne (ne_of_none e1 hq)]; exact e1, n1, f1, n2⟩⟩
        exact h _ R1 _ fps2 w2 (x2.stores h2) fun i m e => sameB_sets fb i m (bOnly_eq ha.bo e)
end
end VL

namespace VL
open PySem L2

/-! ### a slot's own list is changed -/
theorem tabs_set {T : List (Addr × Str)} {H : Hp} {a : Addr} {u o : HO} (e : H a = some u) (n1 : ∀ ps, u ≠ .tbl ps) (n2 : ∀ φ, u ≠ .ext φ) (t : LamX.Tabs T H) : LamX.Tabs T (upd H a o) := fun p hp => by
  obtain ⟨ps, h1, h2, h3⟩ := t p hp
  refine ⟨ps, by rw [upd_ne (fun z => n1 ps (by rw [← z, h1] at e; exact (Option.some.inj e).symm))]; exact h1, h2, fun pos cv hc => ?_⟩
  obtain ⟨c, e1, e2⟩ := h3 pos cv hc
  exact ⟨c, e1, by rw [upd_ne (fun z => n2 _ (by rw [← z, e2] at e; exact (Option.some.inj e).symm))]; exact e2⟩
section
variable {μ : List Mo} {κ : Kit} {R H : Hp} {ρ : List D} {σ : St} {fps : Fps}
theorem Wd.setL (w : Wd κ R μ ρ σ H fps) {j : Nat} {m : Mo} {ds ds' : List D} {a : Addr} {vs vs' : List V} (hm : μ[j]? = some m) (ho : m = .O .S ∨ m = .B (.O .S)) (hd : ρ[j]? = some (.lst ds)) (hs : σ[j]? = some (some (.ref a))) (ha : H a = some (.lst vs)) (r' : Reps κ.K κ.C R ds' vs') :
    Wd κ R μ (ρ.set j (.lst ds')) σ (upd H a (.lst vs')) fps ∧ Ext κ R H fps R (upd H a (.lst vs')) fps [] := by
  obtain ⟨v, ev, rm⟩ := w.ownL hm ho hd
  rw [hs] at ev; cases ev
  obtain ⟨a', vs0, ea, ef, eh, r⟩ := repM_OS rm
  cases ea
  have hj := (List.getElem?_eq_some_iff.mp hm).1
  have aj : a ∈ fps j := by rw [ef]; simp
  have nR := w.dis1 j a aj
  have only : ∀ i, a ∈ fps i → i = j := fun i hi => w.dis2 i j a hi aj
  refine ⟨⟨fun b o e => ?_, w.len1, by rw [List.length_set]; exact w.len2, fun i m' d' h1 h2 => ?_, w.out, w.dis1, w.dis2, w.nd, tabs_set ha (fun _ z => nomatch z) (fun _ z => nomatch z) w.tab, w.tab1, w.tab2⟩, ⟨Sub.refl _, fun b o e n f tt => ⟨?_, n, f, by simp⟩⟩⟩
  · have hb : b ≠ a := fun z => by rw [z, nR] at e; cases e
    rw [upd_ne hb]; exact w.sub _ _ e
  · by_cases hij : i = j
    · subst hij
      rw [hm] at h1; cases h1
      rw [List.getElem?_set_self (by rw [w.len2]; exact hj)] at h2
      cases h2
      unfold SlotR
      have hu : m ≠ .U := by rcases ho with z | z <;> (rw [z]; decide)
      rw [if_neg hu]
      refine ⟨_, hs, ?_⟩
      rw [ef]
      rcases ho with z | z
      · subst z; exact repM_OS' upd_same r'
      · subst z; exact repM_OS' upd_same r'
    · rw [List.getElem?_set_ne (Ne.symm hij)] at h2
      exact (w.rep i m' d' h1 h2).mono (Sub.refl _) fun b hb o _ e => by
        have hb' : b ≠ a := by
          intro z; subst z; exact hij (only i hb)
        rw [upd_ne hb']; exact e
  · have hb' : b ≠ a := by
      intro z; subst z; exact f j aj
    rw [upd_ne hb']; exact e
end
section
variable {S : Sta} {J : Jmp} {μ μ1 μ2 μ' : List Mo} {pos pos' tpos apos : Pos} {a b c e ie : Expr} {es : List Expr} {F Fa Fb Fi : M D} {Fs : M (List D)} {G Ga Gb : M Fl} {m : Mo} {ms : List Mo}
def setIx (x i d : D) : Option D := match x, i with
  | .lst ds, .int k => (ixN ds.length k).map fun j => .lst (ds.set j d)
  | _, _ => none
theorem PostS.opt' {α : Type} {R H : Hp} {fps : Fps} {W : WX} {E : Ends} {ρ : List D} {σ : St} {o : Option α} {f : α → M Fl} (h : PostS S J μ μ' R H σ fps W E (bnd (opt o) f ρ)) : ∃ d, o = some d ∧ PostS S J μ μ' R H σ fps W E (f d ρ) := by
  cases o with
  | none => exact h.elim
  | some d => exact ⟨d, rfl, h⟩
theorem PostS.guard' {R H : Hp} {fps : Fps} {W : WX} {E : Ends} {ρ : List D} {σ : St} {b : Bool} {f : M Fl} (h : PostS S J μ μ' R H σ fps W E (VL.guard b f ρ)) : b = true ∧ PostS S J μ μ' R H σ fps W E (f ρ) := by
  cases b with
  | false => exact h.elim
  | true => exact ⟨rfl, h⟩
theorem PostS.var {α : Type} {R H : Hp} {fps : Fps} {W : WX} {E : Ends} {ρ : List D} {σ : St} {j : Nat} {d : D} {f : D → M Fl} (h : PostS S J μ μ' R H σ fps W E (bnd (eVar j) f ρ)) (hd : ρ[j]? = some d) : PostS S J μ μ' R H σ fps W E (f d ρ) := by
  rw [eVar_bnd hd] at h; exact h
/-- x[i] = e, x a name that owns its list (or a lent one) -/
theorem ds_setix (j : Nat) {x : Str} {p : Pos} (he : DE S μ e .S μ1 F) (hi : DE S μ1 ie .S μ2 Fi) (hm : μ2[j]? = some m := by rfl) (hm0 : μ1[j]? = some m := by rfl) (ho : ownS m = true := by decide) (hN : S.N[j]? = some x := by rfl)
    (hv : Vis S.sc x := by first | exact Or.inl rfl | exact Or.inr (Or.inl rfl) | exact Or.inr (Or.inr rfl)) (hd : (x == ("__debug__" : Str)) = false := by decide) (hcd : (x == ("__classdict__" : Str)) = false := by decide)
    (ha : ∀ env v, assign (.Subscript (.Name x p) ie tpos) env v = (do
      let ov ← holding [v] (eval (.Name x p) env)
      let iv ← holding [v, ov] (eval ie env)
      standAt tpos
      holding [v, ov, iv] (setItem ov iv v)
      release [v, ov, iv] []) := by intro _ _; rfl)
    (hs : ∀ env, swapsWithSole [.Subscript (.Name x p) ie tpos] e pos.line env = pure false := by intro _; rfl) (hw : ∀ env, swappedStores [.Subscript (.Name x p) ie tpos] e env = pure none := by intro _; rfl)
    (h1 : ∀ env, (assignEach [.Subscript (.Name x p) ie tpos] env).map (·.2) = [assign (.Subscript (.Name x p) ie tpos) env] := by intro _; rfl) :
    DS S J μ (.Assign [.Subscript (.Name x p) ie tpos] e pos) μ2 (bnd F fun d => bnd Fi fun i => bnd (eVar j) fun x => bnd (opt (setIx x i d)) fun x' => bnd (setS j x') fun _ => ret .nx) where
  bo := hi.bo.trans he.bo
  ex := by
    obtain ⟨te, p1, s1⟩ := he.ex
    obtain ⟨ti, p2, s2⟩ := hi.ex
    refine ⟨fun W => tAsg (te W) (gSub (tVar j) (ti W) rSetL), fun W X c => ?_, fun W R H σ ρ fps E w h => ?_⟩
    · have p1 := p1 W X c
      have p2 := p2 W X c
      have v := vis_of c.sc hv
      obtain ⟨A, s0, H0, env, outer, stack, ex, fn, pn, xe, rfl⟩ := c.shape
      exact ps_asg p1 (pg_sub (pe_var hN v hd hcd) p2 set_list (ha _)) (hs _) (hw _) (h1 _)
    · refine s1 W R H σ ρ fps _ w (h.bind fun d ρ1 h v R1 H1 fps1 tf w1 r1 t1 x1 => ?_)
      obtain ⟨et, r1⟩ := r1
      subst et
      obtain ⟨md, dd, em, ed, _⟩ := w1.slot (List.getElem?_eq_some_iff.mp hm0).1
      obtain ⟨va, eva, rva⟩ := w1.ownL hm0 (ownS_or ho) ed
      refine ⟨va, eva, ?_⟩
      have h' : PostS S J μ1 μ2 R1 H1 σ fps1 W E _ := PostS.later h x1 he.bo SameB.refl
      refine s2 W R1 H1 σ ρ1 fps1 _ w1 (h'.bind fun i ρ2 h vi R2 H2 fps2 tf w2 r2 t2 x2 => ?_)
      obtain ⟨et, r2⟩ := r2
      subst et
      obtain ⟨md2, dd2, em2, ed2, _⟩ := w2.slot (List.getElem?_eq_some_iff.mp hm).1
      rw [eVar_bnd ed2] at h
      obtain ⟨x', ex, h⟩ := h.opt'
      cases dd2 with
      | lst ds =>
        cases i with
        | int k =>
          simp only [setIx] at ex
          cases ek : ixN ds.length k with
          | none => rw [ek] at ex; cases ex
          | some jj =>
            rw [ek] at ex
            cases ex
            obtain ⟨va2, eva2, rva2⟩ := w2.ownL hm (ownS_or ho) ed2
            rw [eva] at eva2; cases eva2
            obtain ⟨aa, vs, rfl, ef, eh, rr⟩ := repM_OS rva2
            simp only [Rep] at r2
            have rr' : Reps S.κ.K S.κ.C R2 (ds.set jj d) (vs.set jj v) := rr.set (r1.mono x2.sub)
            obtain ⟨w3, x3⟩ := w2.setL hm (ownS_or ho) ed2 eva eh rr'
            refine ⟨aa, vs, k, jj, rfl, r2, eh, by rw [← rr.length]; exact ek, ?_⟩
            exact h σ R2 _ fps2 w3 (x2.trans x3) SameB.refl
        | _ => cases ex
      | _ => cases ex
/-! ### methods that change a list -/
def MutL (S : Sta) (id : String) (g : List D → List D → Option (List D)) : Prop :=
  ∃ r : V → List V → Hp → VK → Prop, (∀ W X, Conf S W X → MtR X id r) ∧ ∀ R H ds args ds' a vs ws (Q : VK), Sub R H → H a = some (.lst vs) → Reps S.κ.K S.κ.C R ds vs → Reps S.κ.K S.κ.C R args ws → g ds args = some ds' → (∀ vs', Reps S.κ.K S.κ.C R ds' vs' → Q .non (upd H a (.lst vs'))) → r (.ref a) ws H Q
def mutD (g : List D → List D → Option (List D)) (x : D) (args : List D) : Option D := match x with
  | .lst ds => (g ds args).map D.lst
  | _ => none
theorem ds_mut {id : String} {g : List D → List D → Option (List D)} {name x : Str} {p cpos : Pos} (j : Nat) (hmu : MutL S id g) (slot : Slot "list" name id) (ty : typeOf (.builtin id) = pure (.type "method_descriptor")) (ha : DA S μ (e :: es) μ1 Fs) (hm0 : μ[j]? = some m := by rfl) (hm : μ1[j]? = some m := by rfl) (ho : ownS m = true := by decide) (hN : S.N[j]? = some x := by rfl)
    (hv : Vis S.sc x := by first | exact Or.inl rfl | exact Or.inr (Or.inl rfl) | exact Or.inr (Or.inr rfl)) (hd : (x == ("__debug__" : Str)) = false := by decide) (hcd : (x == ("__classdict__" : Str)) = false := by decide)
    (hs : ∀ env, starEach (e :: es) env = (false, eval e env) :: starEach es env := by intro _; rfl) (hbase : ∀ env, attributeBase (.Name x p) name env (eval (.Name x p) env) = eval (.Name x p) env := by intro _; rfl) (hline : (apos.endLine == cpos.line) = true := by rfl)
    (hfew : ∀ env, ((backTo cpos (starEach (e :: es) env)).all (fun x => !x.1) && (backToKw cpos (keywordEach [] env)).all (fun x => x.1.isSome)
      && decide ((e :: es).length + ([] : List Keyword).length + (if ([] : List Keyword).isEmpty then 0 else 1) < 30)) = true := by intro _; rfl)
    (hplain : ∀ env, (backTo cpos (starEach es env)).any (·.1) = false := by intro _; rfl) (hsw : ∀ env, swapsWith (.Call (.Attribute (.Name x p) name apos) (e :: es) [] cpos) none pos.line env = pure false := by intro _; rfl) :
    DS S J μ (.Expr (.Call (.Attribute (.Name x p) name apos) (e :: es) [] cpos) pos) μ1 (bnd (eVar j) fun x0 => VL.guard (isLst x0) (bnd Fs fun xs => bnd (eVar j) fun x => bnd (opt (mutD g x xs)) fun x' => bnd (setS j x') fun _ => ret .nx)) where
  bo := ha.bo
  ex := by
    obtain ⟨ta, pa, sa⟩ := ha.ex
    obtain ⟨r, pr, sr⟩ := hmu
    refine ⟨fun W => tDrop (tBM S.κ.K "list" r (tVar j) (ta W)), fun W X c => ?_, fun W R H σ ρ fps E w h => ?_⟩
    · have pa := pa W X c
      have pr := pr W X c
      have v := vis_of c.sc hv
      obtain ⟨A, s0, H0, env, outer, stack, ex, fn, pn, xe, rfl⟩ := c.shape
      exact ps_expr (pe_bm PySem.F.plainAttrs_list slot ty pr (pe_var hN v hd hcd) pa (hbase _) (hfew _) hline (hs _) (hplain _)) (hsw _)
    · obtain ⟨md, dd, em, ed, _⟩ := w.slot (List.getElem?_eq_some_iff.mp hm0).1
      obtain ⟨va, eva, rva⟩ := w.ownL hm0 (ownS_or ho) ed
      rw [eVar_bnd ed] at h
      obtain ⟨hl, h⟩ := h.guard'
      -- the receiver stands as a list
      refine ⟨va, eva, ?_, sa W R H σ ρ fps _ w (h.bindA fun xs ρ1 h ws R1 H1 fps1 w1 r1 x1 => ?_)⟩
      · cases dd with
        | lst ds =>
          obtain ⟨aa, vs, rfl, ef, eh, rr⟩ := repM_OS rva
          exact Or.inl ⟨rfl, _, SqL.of eh⟩
        | _ => cases hl
      · obtain ⟨md2, dd2, em2, ed2, _⟩ := w1.slot (List.getElem?_eq_some_iff.mp hm).1
        rw [eVar_bnd ed2] at h
        obtain ⟨x', ex, h⟩ := h.opt'
        cases dd2 <;> simp only [mutD] at ex <;> first | (cases ex; done) | skip
        rename_i ds _
        cases eg : g ds xs with
        | none => rw [eg] at ex; cases ex
        | some ds' =>
          rw [eg] at ex
          cases ex
          obtain ⟨va2, eva2, rva2⟩ := w1.ownL hm (ownS_or ho) ed2
          rw [eva] at eva2; cases eva2
          obtain ⟨aa, vs, rfl, ef, eh, rr⟩ := repM_OS rva2
          refine sr R1 H1 ds xs ds' aa vs ws _ w1.sub eh rr r1 eg fun vs' rr' => ?_
          obtain ⟨w3, x3⟩ := w1.setL hm (ownS_or ho) ed2 eva eh rr'
          exact h σ R1 _ fps1 w3 (x1.trans x3) SameB.refl
end
end VL

namespace VL
open PySem L2

section
variable {S : Sta}
def appL (ds : List D) : List D → Option (List D)
  | [d] => if ds.length < sizeLine then some (ds ++ [d]) else none
  | _ => none
theorem l_append : MutL S "list.append" appL := by
  refine ⟨rAppend, fun W X c => mt_append, fun R H ds args ds' a vs ws Q s ha r ra e q => ?_⟩
  match args, e with
  | [d], e =>
    obtain ⟨v, rfl, rv⟩ := reps1 ra
    simp only [appL] at e
    split at e
    · rename_i hz
      cases e
      exact ⟨a, vs, v, rfl, rfl, ha, by rw [← r.length]; exact hz, q _ (r.append (.cons rv .nil))⟩
    · cases e
def insL (ds : List D) : List D → Option (List D)
  | [.int i, d] => if ds.length < sizeLine ∧ 0 ≤ i ∧ i < 2 ^ 63 then some (ds.take i.toNat ++ [d] ++ ds.drop i.toNat) else none
  | _ => none
theorem l_insert : MutL S "list.insert" insL := by
  refine ⟨_, fun W X c => mt_insert, fun R H ds args ds' a vs ws Q s ha r ra e q => ?_⟩
  unfold insL at e
  split at e
  · rename_i i d
    obtain ⟨v, v', rfl, r1, r2⟩ := reps2 ra
    simp only [Rep] at r1
    subst r1
    split at e
    · rename_i hz
      cases e
      exact ⟨a, vs, i, v', rfl, rfl, ha, by rw [← r.length]; exact hz.1, hz.2.1, hz.2.2, q _ (((r.take _).append (.cons r2 .nil)).append (r.drop _))⟩
    · cases e
  · cases e
def extL (ds : List D) : List D → Option (List D)
  | [.lst es] => if ds.length + es.length ≤ sizeLine then some (ds ++ es) else none
  | _ => none
theorem l_extend : MutL S "list.extend" extL := by
  refine ⟨rExtend, fun W X c => mt_extend, fun R H ds args ds' a vs ws Q s ha r ra e q => ?_⟩
  unfold extL at e
  split at e
  · rename_i es
    obtain ⟨v, rfl, r1⟩ := reps1 ra
    simp only [Rep] at r1
    obtain ⟨b, zs, rfl, hq, r2⟩ := r1
    split at e
    · rename_i hz
      cases e
      exact ⟨a, b, vs, zs, rfl, rfl, ha, s _ _ hq, by rw [← r.length, ← r2.length]; exact hz, q _ (r.append r2)⟩
    · cases e
  · cases e
/-! ### x op= e -/
theorem a_add : Bin2 S (inplaceOp .Add) .S addD := Bin2.sc rAddB (fun W X c => OpR.or' iop_add iop_add_str) fun R H dx dy x y d Q s rx ry e q => addB_sound R H dx dy x y d Q rx ry e q
theorem a_sub : Bin2 S (inplaceOp .Sub) .S subD := bin_I0 (fun _ _ _ => iop_sub) fun _ _ _ _ _ => rep_int
theorem a_mul : Bin2 S (inplaceOp .Mult) .S mulD := bin_I (fun _ _ _ => iop_mul) (fun _ _ h => by simp only [decide_eq_true_eq] at h; exact h) fun _ _ _ _ _ => rep_int
variable {J : Jmp} {μ μ1 μ2 μ' : List Mo} {pos pos' tpos apos : Pos} {a b c e ie : Expr} {es : List Expr} {F Fa Fb Fi : M D} {Fs : M (List D)} {G Ga Gb : M Fl} {m : Mo} {ms : List Mo}
theorem ds_aug (i : Nat) {x : Str} {op : Operator} {g : D → D → Option D} (o : Bin2 S (inplaceOp op) .S g) (he : DE S μ e .S μ F) (hm : μ[i]? = some .S := by rfl) (hi : S.N[i]? = some x := by rfl) (hx : Loc S.sc x := by first | exact Or.inl rfl | exact Or.inr rfl) (hfn : Fnn S x := by first | exact Or.inl rfl | exact Or.inr rfl) :
    DS S J μ (.AugAssign (.Name x pos') op e pos) μ (bnd (eVar i) fun x => bnd F fun y => bnd (opt (g x y)) fun z => bnd (setS i z) fun _ => ret .nx) where
  bo := rfl
  ex := by
    obtain ⟨te, p, s⟩ := he.ex
    obtain ⟨r, pr, sr⟩ := o
    refine ⟨fun W => tAug i (te W) r, fun W X c => ?_, fun W R H σ ρ fps E w h => ?_⟩
    · have p := p W X c
      have pr := pr W X c
      have hf := c.fnok hfn
      have hl := loc_of c.sc hx
      have nd := c.nd
      obtain ⟨A, s0, H0, env, outer, stack, ex, fn, pn, xe, rfl⟩ := c.shape
      exact ps_aug nd hi hl p pr hf
    · have hi1 := (List.getElem?_eq_some_iff.mp hm).1
      obtain ⟨m0, d0, em, ed, _⟩ := w.slot hi1
      obtain ⟨v, ev, rv⟩ := w.get hm ed (by decide)
      obtain ⟨_, rv⟩ := rv
      rw [eVar_bnd ed] at h
      refine ⟨v, ev, s W R H σ ρ fps _ w (h.bind fun dy ρ1 h vy R1 H1 fps1 tf w1 r1 t1 x1 => ?_)⟩
      obtain ⟨et, r1⟩ := r1
      subst et
      obtain ⟨d, e, h⟩ := h.opt'
      refine sr _ _ _ _ _ _ _ _ _ _ _ _ w1 (rv.mono x1.sub) r1 e fun vz R2 H2 tf w2 rz t2 x2 => ?_
      have hs : μ.set i .S = μ := by
        apply List.ext_getElem?
        intro j
        by_cases hj : j = i
        · subst hj; rw [List.getElem?_set_self hi1, hm]
        · rw [List.getElem?_set_ne (Ne.symm hj)]
      have w3 := w2.store hi1 rz t2
      rw [hs] at w3
      exact h _ R2 H2 _ w3 (x1.trans x2).store (sameB_set hm rfl)
theorem get_list {X : Cx} : PGet X (rIxL X.K) := by
  intro pins s σ H x y v u Q I rx ry h
  obtain ⟨p, xs, i, z, rfl, rfl, hq, he, q⟩ := h
  cases rx
  obtain ⟨t, rfl⟩ := ry
  obtain ⟨its, r, pl, hz⟩ := I.list hq
  obtain ⟨j, h1, h2, h3, h4, h5⟩ := atI_get he
  obtain ⟨w, ew, rw'⟩ := r.get h2
  have hl := r.length
  have hn := line63
  have fin : EP X pins σ Q w s := ⟨z, H, I, rw', q⟩
  by_cases h0 : 0 ≤ i
  · have hj : i.toNat = j := by
      rw [seqIndex_of h0 h5] at h1
      exact Option.some.inj h1
    exact wpAny_getItem_list pl.isList h0 (by omega) (by rw [hj]; simpa using ew) fin
  · have hj : (i + (its.toArray.size : Int)).toNat = j := by
      rw [seqIndex_neg (by omega) h4] at h1
      rw [List.size_toArray, ← hl]
      exact Option.some.inj h1
    exact wpAny_getItem_list_neg pl.isList (by omega) (by rw [List.size_toArray] <;> omega) (by omega) (by rw [hj]; simpa using ew) fin
/-- x[i] op= e, x a name that owns its list, the place told by what changes nothing there -/
theorem ds_augix (j : Nat) {x : Str} {p : Pos} {op : Operator} {g : D → D → Option D} (o : Bin2 S (inplaceOp op) .S g) (hi : DE S μ ie .S μ Fi) (he : DE S μ e .S μ F) (hm : μ[j]? = some m := by rfl) (ho : ownS m = true := by decide) (hN : S.N[j]? = some x := by rfl)
    (hv : Vis S.sc x := by first | exact Or.inl rfl | exact Or.inr (Or.inl rfl) | exact Or.inr (Or.inr rfl)) (hd : (x == ("__debug__" : Str)) = false := by decide) (hcd : (x == ("__classdict__" : Str)) = false := by decide)
    (ha : ∀ ov iv new, augStore ie ov iv new = (do holding [new, ov, iv] (setItem ov iv new); release [new, ov, iv] []; pure .next) := by intros; rfl) :
    DS S J μ (.AugAssign (.Subscript (.Name x p) ie tpos) op e pos) μ (bnd Fi fun i => bnd (eVar j) fun x => bnd (opt (ixD x i)) fun old => bnd F fun y => bnd (opt (g old y)) fun z => bnd (eVar j) fun x => bnd (opt (setIx x i z)) fun x' => bnd (setS j x') fun _ => ret .nx) where
  bo := rfl
  ex := by
    obtain ⟨ti, p1, s1⟩ := hi.ex
    obtain ⟨te, p2, s2⟩ := he.ex
    obtain ⟨r, pr, sr⟩ := o
    refine ⟨fun W => tAugS (tVar j) (ti W) (te W) (rIxL S.κ.K) r rSetL, fun W X c => ?_, fun W R H σ ρ fps E w h => ?_⟩
    · have p1 := p1 W X c
      have p2 := p2 W X c
      have pr := pr W X c
      have v := vis_of c.sc hv
      obtain ⟨A, s0, H0, env, outer, stack, ex, fn, pn, xe, rfl⟩ := c.shape
      exact ps_augS (pe_var hN v hd hcd) p1 get_list p2 pr set_list ha
    · have hj := (List.getElem?_eq_some_iff.mp hm).1
      obtain ⟨md, dd, em, ed, _⟩ := w.slot hj
      obtain ⟨va, eva, rva⟩ := w.ownL hm (ownS_or ho) ed
      refine ⟨va, eva, s1 W R H σ ρ fps _ w (h.bind fun i ρ1 h vi R1 H1 fps1 tf w1 r1 t1 x1 => ?_)⟩
      obtain ⟨et, r1⟩ := r1
      subst et
      obtain ⟨md1, dd1, em1, ed1, _⟩ := w1.slot hj
      rw [eVar_bnd ed1] at h
      obtain ⟨old, eo, h3⟩ := h.opt'
      clear h
      obtain ⟨va1, eva1, rva1⟩ := w1.ownL hm (ownS_or ho) ed1
      rw [eva] at eva1; cases eva1
      cases dd1 with
      | lst ds =>
        cases i with
        | int k =>
          simp only [ixD] at eo
          obtain ⟨aa, vs, rfl, ef, eh, rr⟩ := repM_OS rva1
          obtain ⟨vo, hvo, rvo⟩ := reps_at rr eo
          simp only [Rep] at r1
          refine ⟨aa, vs, k, vo, rfl, r1, SqL.of eh, hvo, ?_⟩
          have h' : PostS S J μ μ R1 H1 σ fps1 W E _ := PostS.later h3 x1 rfl SameB.refl
          refine s2 W R1 H1 σ ρ1 fps1 _ w1 (h'.bind fun y ρ2 h vy R2 H2 fps2 tf w2 r2 t2 x2 => ?_)
          obtain ⟨et, r2⟩ := r2
          subst et
          obtain ⟨z, ez, h⟩ := h.opt'
          refine sr _ _ _ _ _ _ _ _ _ _ _ _ w2 (rvo.mono x2.sub) r2 ez fun vz R3 H3 tf w3 rz t3 x3 => ?_
          obtain ⟨et, rz⟩ := rz
          subst et
          obtain ⟨md3, dd3, em3, ed3, _⟩ := w3.slot hj
          rw [eVar_bnd ed3] at h
          obtain ⟨x', ex, h⟩ := h.opt'
          cases dd3 with
          | lst ds3 =>
            simp only [setIx] at ex
            cases ek : ixN ds3.length k with
            | none => rw [ek] at ex; cases ex
            | some jj =>
              rw [ek] at ex
              cases ex
              obtain ⟨va2, eva2, rva2⟩ := w3.ownL hm (ownS_or ho) ed3
              rw [eva] at eva2; cases eva2
              obtain ⟨aa2, vs2, e2, ef2, eh2, rr2⟩ := repM_OS rva2
              cases e2
              have rr' : Reps S.κ.K S.κ.C R3 (ds3.set jj z) (vs2.set jj vz) := rr2.set rz
              obtain ⟨w4, x4⟩ := w3.setL hm (ownS_or ho) ed3 eva eh2 rr'
              refine ⟨aa, vs2, k, jj, rfl, r1, eh2, by rw [← rr2.length]; exact ek, ?_⟩
              exact h σ R3 _ fps2 w4 ((x2.trans x3).trans x4) SameB.refl
          | _ => cases ex
        | _ => cases eo
      | _ => first | exact rva1.elim | (exfalso; revert eo; simp [ixD])
/-! ### comprehensions -/
structure DF (S : Sta) (μ : List Mo) (ifs : List Expr) (F : M Bool) : Prop where
  ex : ∃ te : WX → TT, (∀ W X, Conf S W X → PTs X ifs (te W)) ∧ ∀ W R H σ ρ fps Q, Wd S.κ R μ ρ σ H fps → PostT S μ R H σ fps W Q (F ρ) → te W σ H Q
theorem df_nil : DF S μ [] (ret true) := ⟨fun _ => tYes, fun W X c => pts_nil, fun W R H σ ρ fps Q w h => h R H fps w Ext.refl⟩
theorem df_one {T : M Bool} (h : DT S μ c T) : DF S μ [c] T := ⟨let ⟨te, p, s⟩ := h.ex; ⟨te, fun W X cf => pts_one (p W X cf), s⟩⟩
def noE {α : Type} (x : M α) : M α := fun ρ => match x ρ with
  | .err _ _ => .stuck
  | o => o
def kills (is : List Nat) : M Unit := fun ρ => .ok () (is.foldl (fun ρ i => ρ.set i .non) ρ)
def lcM (G : GT) (T : M Bool) (B : M D) (is : List Nat) : List D → M (List D)
  | [] => ret []
  | d :: ds => bnd (goT (G d)) fun _ => bnd (noE T) fun k => if k then bnd (noE B) fun y => bnd (kills is) fun _ => bnd (lcM G T B is ds) fun ys => ret (y :: ys)
      else bnd (kills is) fun _ => lcM G T B is ds
theorem wipe_out {σ : St} {j : Nat} : ∀ {vs : List Nat}, j ∉ vs → (wipe σ vs)[j]? = σ[j]?
  | [], _ => rfl
  | v :: vs, h => by
    simp only [List.mem_cons, not_or] at h
    show ((wipe σ vs).set v none)[j]? = σ[j]?
    rw [List.getElem?_set_ne (Ne.symm h.1)]
    exact wipe_out h.2
theorem wipe_in {σ : St} {j : Nat} (hj : j < σ.length) : ∀ {vs : List Nat}, j ∈ vs → (wipe σ vs)[j]? = some none
  | [], h => nomatch h
  | v :: vs, h => by
    show ((wipe σ vs).set v none)[j]? = some none
    by_cases e : j = v
    · subst e; rw [List.getElem?_set_self (by rw [wipe_length]; exact hj)]
    · rw [List.getElem?_set_ne (Ne.symm e)]
      exact wipe_in hj ((List.mem_cons.mp h).resolve_left e)
theorem wipe_eq {σ σ' : St} {vs : List Nat} (hl : σ'.length = σ.length) (h : ∀ j, j ∉ vs → σ'[j]? = (wipe σ vs)[j]?) : wipe σ' vs = wipe σ vs := by
  apply List.ext_getElem?
  intro j
  by_cases hj : j ∈ vs
  · by_cases hlt : j < σ.length
    · rw [wipe_in hlt hj, wipe_in (by omega) hj]
    · rw [List.getElem?_eq_none (by rw [wipe_length]; omega), List.getElem?_eq_none (by rw [wipe_length]; omega)]
  · rw [wipe_out hj, h j hj]
theorem Wd.slots {κ : Kit} {R H : Hp} {ρ : List D} {σ σ' : St} {fps : Fps} (w : Wd κ R μ ρ σ H fps) (hl : σ'.length = σ.length) (h : ∀ (i : Nat) m, μ[i]? = some m → m ≠ .U → σ'[i]? = σ[i]?) : Wd κ R μ ρ σ' H fps :=
  ⟨w.sub, by rw [hl]; exact w.len1, w.len2, fun i m d h1 h2 => by
    have r := w.rep i m d h1 h2
    unfold SlotR at *
    by_cases e : m = .U
    · rw [if_pos e] at *; exact r
    · rw [if_neg e] at *; rw [h i m h1 e]; exact r, w.out, w.dis1, w.dis2, w.nd, w.tab, w.tab1, w.tab2⟩
def setU : List Nat → List Mo → List Mo
  | [], μ => μ
  | i :: is, μ => setU is (μ.set i .U)
theorem Wd.kills {κ : Kit} {R H : Hp} {σ : St} : ∀ {is : List Nat} {μ : List Mo} {ρ : List D} {fps : Fps}, Wd κ R μ ρ σ H fps → ∃ fps', Wd κ R (setU is μ) (is.foldl (fun ρ i => ρ.set i .non) ρ) σ H fps' ∧ ∀ i a, a ∈ fps' i → a ∈ fps i
  | [], μ, ρ, fps, w => ⟨fps, w, fun _ _ h => h⟩
  | i :: is, μ, ρ, fps, w => by
    obtain ⟨fps', w2, h2⟩ := Wd.kills (is := is) (w.forget i .non)
    refine ⟨fps', w2, fun j a h => ?_⟩
    have := h2 j a h
    by_cases hj : j = i
    · subst hj; rw [fset_same] at this; cases this
    · rw [fset_ne hj] at this; exact this
/-- a value on the way is changed -/
theorem Wd.tmpSet {κ : Kit} {R H : Hp} {ρ : List D} {σ : St} {fps : Fps} {p : Addr} {vs : List V} {o : HO} (w : Wd κ R μ ρ σ H fps) (t : Tmp κ R fps [p]) (e : H p = some (.lst vs)) : Wd κ R μ ρ σ (upd H p o) fps := by
  obtain ⟨n, f, tt⟩ := t.dis p (by simp)
  refine w.heap (Sub.refl _) (fun a u e1 => ?_) (fun i a ha u _ e1 => ⟨?_, w.dis1 i a ha⟩) (tabs_set e (fun _ z => nomatch z) (fun _ z => nomatch z) w.tab) w.tab1
  · have ne : a ≠ p := by intro z; subst z; rw [n] at e1; cases e1
    rw [upd_ne ne]; exact w.sub _ _ e1
  · have ne : a ≠ p := by intro z; subst z; exact f i ha
    rw [upd_ne ne]; exact e1
def blkS (S : Sta) (scope : Scope) : Sta := { S with sc := relS scope S.sc, top := false, fnn := fun x => scope.names.lookup x == some .cell, lm := none }
abbrev W0 : WX := fun _ _ _ _ => False
theorem Conf.blk {W : WX} {X : Cx} (cf : Conf S W X) {scope : Scope} {s : Shared} {H : Hp} {C : Addr} {cl : List (Str × Addr)} {fp : List Addr} : Conf (blkS S scope) W0 (X.blk s H scope (compEnvC scope cl C X.env) fp) := by
  have e := cf.sc
  have nd := cf.nd
  have room := cf.room
  have gd := cf.gd
  obtain ⟨A, s0, H0, env, outer, stack, ex, fn, pn, xe, rfl⟩ := cf.shape
  refine ⟨⟨A, s, H, _, _, _, _, _, _, _, rfl⟩, ?_, nd, room, fun x h => h, PassesOwn.never, takes_none5, fun h => (nomatch h), gd, fun q c h => (nomatch h)⟩
  show relS scope env.scope = relS scope S.sc
  rw [show env.scope = S.sc from e]
theorem allU {is : List Nat} (h : (is.all fun i => decide (μ[i]? = some .U)) = true) {i : Nat} (hi : i ∈ is) : μ[i]? = some .U := of_decide_eq_true (List.all_eq_true.mp h i hi)
theorem lc_cons {G : GT} {T : M Bool} {B : M D} {is : List Nat} {d : D} {ds : List D} {ρ ρ1 ρ2 : List D} {k : Bool} (e1 : G d ρ = some ρ1) (e2 : T ρ1 = .ok k ρ2) {α : Type} (f : List D → M α) :
    bnd (lcM G T B is (d :: ds)) f ρ = (if k then bnd (noE B) (fun y => bnd (kills is) fun _ => bnd (lcM G T B is ds) fun ys => f (y :: ys)) ρ2 else bnd (kills is) (fun _ => bnd (lcM G T B is ds) f) ρ2) := by
  simp only [lcM, bnd, goT, e1, noE, e2]
  cases k with
  | false => simp only [Bool.false_eq_true, if_false, bnd, kills]
  | true =>
    simp only [if_true, bnd, noE]
    cases B ρ2 with
    | ok y ρ3 =>
      simp only [kills]
      cases lcM G T B is ds (is.foldl (fun ρ i => ρ.set i .non) ρ3) with
      | ok ys ρ4 => rfl
      | err _ _ => rfl
      | stuck => rfl
    | err _ _ => rfl
    | stuck => rfl
theorem lc_stuckG {G : GT} {T : M Bool} {B : M D} {is : List Nat} {d : D} {ds : List D} {ρ : List D} (e1 : G d ρ = none) {α : Type} (f : List D → M α) : bnd (lcM G T B is (d :: ds)) f ρ = .stuck := by simp only [lcM, bnd, goT, e1]
theorem lc_stuckT {G : GT} {T : M Bool} {B : M D} {is : List Nat} {d : D} {ds : List D} {ρ ρ1 : List D} (e1 : G d ρ = some ρ1) (e2 : ∀ k ρ2, T ρ1 ≠ .ok k ρ2) {α : Type} (f : List D → M α) : bnd (lcM G T B is (d :: ds)) f ρ = .stuck := by
  simp only [lcM, bnd, goT, e1, noE]
  cases e : T ρ1 with
  | ok k ρ2 => exact absurd e (e2 k ρ2)
  | err _ _ => rfl
  | stuck => rfl
/-- what a comprehension's reading asks of the loop -/
theorem lc_sound {tg : Expr} {is : List Nat} {μb μe : List Mo} {Gt : GT} {T : M Bool} {B : M D} {scope : Scope}
    (hg : DG (blkS S scope) μ1 tg is μb Gt) {g : TG} (sg : ∀ R H σ ρ fps d v Q, Wd S.κ R μ1 ρ σ H fps → Rep S.κ.K S.κ.C R d v → PostG (blkS S scope) μb R H σ fps is Q (Gt d ρ) → g v σ H Q)
    {tt : TT} (st : ∀ R H σ ρ fps Q, Wd S.κ R μb ρ σ H fps → PostT (blkS S scope) μb R H σ fps W0 Q (T ρ) → tt σ H Q)
    {te : TE} (se : ∀ R H σ ρ fps Q, Wd S.κ R μb ρ σ H fps → PostE (blkS S scope) μb .S μe R H σ fps W0 Q (B ρ) → te σ H Q)
    (hU : (is.all fun i => decide (μ1[i]? = some .U)) = true) (hE : setU is μe = μ1) (hE2 : setU is μb = μ1) (bo1 : bOnly μ1 = bOnly μ)
    {R H : Hp} {σ : St} {fps : Fps} {W : WX} {Q : VK} {It0 : It} {ds : List D} {ρ0 : List D} {R0 H0 : Hp} {fps0 : Fps} {mm : Mo} {f : List D → M D} {μ' : List Mo}
    (w0 : Wd S.κ R0 μ1 ρ0 σ H0 fps0) (x0 : Ext S.κ R H fps R0 H0 fps0 []) (ok0 : ItOK S.κ R0 It0 ds) (hz : ds.length ≤ sizeLine) (h : PostE S μ mm μ' R H σ fps W Q (bnd (lcM Gt T B is ds) f ρ0))
    (p : Addr) (hp : H0 p = none) {Qd : Hp → Prop}
    (fin : ∀ ys vs ρ' R' H' fps', Wd S.κ R' μ1 ρ' σ H' fps' → H' p = some (.lst vs) → Reps S.κ.K S.κ.C R' ys vs → Tmp S.κ R' fps' [p] → Ext S.κ R H fps R' H' fps' [p] → PostE S μ mm μ' R H σ fps W Q (f ys ρ') → Qd H') :
    ∃ Wt : Nat → Nat → Hp → Prop, (∃ m, Wt 0 m (upd H0 p (.lst []))) ∧ ∀ i m H, Wt i m H → (It0.stop i H ∧ Qd H) ∨ (It0.go i H ∧ ∃ Nx : Hp → Prop, (∀ H', Nx H' → ∃ m', m' < m ∧ Wt (i + 1) m' H') ∧ ∀ x H', It0.yld i H x H' → g x (wipe σ is) H' fun σ2 H2 => wipe σ2 is = wipe σ is ∧ tt σ2 H2 fun b H3 =>
      if b = true then te σ2 H3 fun y H4 => ∃ acc, H4 p = some (.lst acc) ∧ acc.length < sizeLine ∧ Nx (upd H4 p (.lst (acc ++ [y]))) else Nx H3) := by
  let Inv' : Nat → Hp → Prop := fun i Hi => i ≤ ds.length ∧ ∃ R' ρ' fps' acc vs, Wd S.κ R' μ1 ρ' σ Hi fps' ∧ Sub R0 R' ∧ Hi p = some (.lst vs) ∧ Reps S.κ.K S.κ.C R' acc vs ∧ acc.length ≤ i ∧ Tmp S.κ R' fps' [p] ∧ Ext S.κ R H fps R' Hi fps' [p] ∧
    PostE S μ mm μ' R H σ fps W Q (bnd (lcM Gt T B is (ds.drop i)) (fun ys => f (acc ++ ys)) ρ')
  refine ⟨fun i m Hi => m = ds.length - i ∧ Inv' i Hi, ⟨ds.length, rfl, Nat.zero_le _, R0, ρ0, fps0, [], [], w0.newO hp, Sub.refl _, upd_same, Reps.nil, Nat.le_refl _, Tmp.new w0 hp, x0.trans (Ext.newO hp), h⟩, ?_⟩
  rintro i m Hi ⟨rfl, hil, R1, ρ1, fps1, acc, vs, w1, sub1, hD, ra, hal, t1, x1, h⟩
  obtain ⟨hgo, hstop⟩ := ok0 i R1 Hi sub1 w1.sub
  by_cases hlt : i < ds.length
  · have ed : ds[i]? = some ds[i] := List.getElem?_eq_getElem hlt
    obtain ⟨go, yl⟩ := hgo _ ed
    refine .inr ⟨go, fun H' => Inv' (i + 1) H', fun H' n => ⟨ds.length - (i + 1), by omega, rfl, n⟩, fun x H' y => ?_⟩
    obtain ⟨R2, w2, x2, r2⟩ := yield_wd (R1 := R1) w1 (yl x H' y)
    rw [List.drop_eq_getElem_cons hlt] at h
    -- the list on the way stays through each step
    have stay : ∀ {Ra Ha : Hp} {fa : Fps} {Rb Hb : Hp} {fb : Fps} {vv : List V}, Ha p = some (.lst vv) → Tmp S.κ Ra fa [p] → Ext S.κ Ra Ha fa Rb Hb fb [] → Hb p = some (.lst vv) ∧ Tmp S.κ Rb fb [p] := fun {Ra Ha fa Rb Hb fb vv} e t x => by
      obtain ⟨n, f, tt⟩ := t.dis p (by simp)
      obtain ⟨e1, n1, f1, _⟩ := x.frm p _ e n f (fun _ z => nomatch z)
      exact ⟨e1, by simp, fun a ha => by
        have : a = p := by simpa using ha
        subst this; exact ⟨n1, f1, tt⟩⟩
    have glue : ∀ {Ra Ha : Hp} {fa : Fps} {Rb Hb : Hp} {fb : Fps}, Ext S.κ R H fps Ra Ha fa [p] → Ext S.κ Ra Ha fa Rb Hb fb [] → Ext S.κ R H fps Rb Hb fb [p] := fun a b => ⟨a.sub.trans b.sub, fun u o e n f tt => by
      obtain ⟨e1, n1, f1, n2⟩ := a.frm u o e n f tt
      obtain ⟨e2, n3, f2, _⟩ := b.frm u o e1 n1 f1 tt
      exact ⟨e2, n3, f2, n2⟩⟩
    obtain ⟨hD2, t2⟩ := stay hD t1 x2
    have x2' := glue x1 x2
    have w2' : Wd S.κ R2 μ1 ρ1 (wipe σ is) H' fps1 := w2.slots (wipe_length _ _) fun j m e hu => wipe_out fun hj => hu (by rw [allU hU hj] at e; exact (Option.some.inj e).symm)
    refine sg R2 H' (wipe σ is) ρ1 fps1 ds[i] x _ w2' r2 ?_
    cases eG : Gt ds[i] ρ1 with
    | none => rw [lc_stuckG eG] at h; exact h.elim
    | some ρ2 =>
      intro σ3 R3 H3 fps3 w3 x3 k3 l3
      refine ⟨wipe_eq (by rw [l3, wipe_length]) k3, ?_⟩
      obtain ⟨hD3, t3⟩ := stay hD2 t2 x3
      have x3' := glue x2' x3
      -- behind the turn: the block's own names are forgotten
      have back : ∀ {μx : List Mo} {Rz Hz : Hp} {fz : Fps} {ρz : List D}, setU is μx = μ1 → Wd S.κ Rz μx ρz σ3 Hz fz → ∃ fz', Wd S.κ Rz μ1 (is.foldl (fun ρ i => ρ.set i .non) ρz) σ Hz fz' ∧ ∀ i a, a ∈ fz' i → a ∈ fz i := fun {μx Rz Hz fz ρz} eu wz => by
        obtain ⟨fz', wz', hz'⟩ := wz.kills (is := is)
        rw [eu] at wz'
        refine ⟨fz', wz'.slots (by rw [l3, wipe_length]) (fun j m e hu => ?_), hz'⟩
        have hj : j ∉ is := fun hj => hu (by rw [allU hU hj] at e; exact (Option.some.inj e).symm)
        rw [k3 j hj, wipe_out hj]
      refine st R3 H3 σ3 ρ2 fps3 _ w3 ?_
      cases eT : T ρ2 with
      | err c ρz => rw [lc_stuckT eG (fun k ρ2 z => by rw [eT] at z; cases z)] at h; exact h.elim
      | stuck => rw [lc_stuckT eG (fun k ρ2 z => by rw [eT] at z; cases z)] at h; exact h.elim
      | ok k ρ3 =>
        rw [lc_cons eG eT] at h
        intro R4 H4 fps4 w4 x4
        obtain ⟨hD4, t4⟩ := stay hD3 t3 x4
        have x4' := glue x3' x4
        cases k with
        | false =>
          show Inv' (i + 1) H4
          obtain ⟨fz, wz, hz'⟩ := back hE2 w4
          simp only [Bool.false_eq_true, if_false] at h
          refine ⟨hlt, R4, _, fz, acc, vs, wz, sub1.trans (x2.sub.trans (x3.sub.trans x4.sub)), hD4, ra.mono (x2.sub.trans (x3.sub.trans x4.sub)), by omega, t4.less hz', x4'.slots fun j a ha => ⟨j, hz' j a ha⟩, h⟩
        | true =>
          simp only [if_true] at h ⊢
          refine se R4 H4 σ3 ρ3 fps4 _ w4 ?_
          cases eB : B ρ3 with
          | err c ρz => simp only [bnd, noE, eB] at h; exact h.elim
          | stuck => simp only [bnd, noE, eB] at h; exact h.elim
          | ok yd ρ4 =>
            intro yv R5 H5 fps5 tf w5 r5 t5' x5
            obtain ⟨et, r5⟩ := r5
            subst et
            obtain ⟨hD5, t5⟩ := stay hD4 t4 x5
            have x5' := glue x4' x5
            obtain ⟨fz, wz, hz'⟩ := back hE w5
            have hlen := ra.length
            refine ⟨vs, hD5, by rw [← hlen]; omega, ?_⟩
            show Inv' (i + 1) (upd H5 p (.lst (vs ++ [yv])))
            have tz := t5.less hz'
            have subs := x2.sub.trans (x3.sub.trans (x4.sub.trans x5.sub))
            refine ⟨hlt, R5, _, fz, acc ++ [yd], vs ++ [yv], wz.tmpSet tz hD5, sub1.trans subs, upd_same, (ra.mono subs).append (.cons r5 .nil), by rw [List.length_append, List.length_singleton]; omega, tz, ?_, ?_⟩
            · refine ⟨x5'.sub, fun u o e n f tt => ?_⟩
              obtain ⟨e1, n1, f1, n2⟩ := x5'.frm u o e n f tt
              have ne : u ≠ p := by simpa using n2
              exact ⟨by rw [upd_ne ne]; exact e1, n1, fun j q => f1 j (hz' j u q), n2⟩
            · have e1 : (fun ys => f (acc ++ [yd] ++ ys)) = fun ys => f (acc ++ yd :: ys) := by
                funext ys; rw [List.append_assoc]; rfl
              rw [e1]
              simp only [bnd, noE, eB, kills] at h
              exact h
  · have e0 : i = ds.length := by omega
    subst e0
    rw [List.drop_length] at h
    refine .inl ⟨hstop (Nat.le_refl _), fin acc vs ρ1 R1 Hi fps1 w1 hD ra t1 x1 ?_⟩
    simpa only [lcM, bnd, ret, List.append_nil] using h
/-- [elt for tg in iter if ..] -/
theorem de_lc {tg elt iter : Expr} {ifs : List Expr} {scope : Scope} {is : List Nat} {own : List (Str × Nat)} {μb μe : List Mo} {Gt : GT} {Fi : M (List D)} {T : M Bool} {B : M D} (hi : DI S μ tg iter μ1 Fi) (hg : DG (blkS S scope) μ1 tg is μb Gt) (ht : DF (blkS S scope) μb ifs T) (he : DE (blkS S scope) μb elt .S μe B)
    (hown : own.map (·.2) = is := by rfl) (hbk : blkC S.N S.sc scope own = true := by kernel_rfl) (hU : (is.all fun i => decide (μ1[i]? = some .U)) = true := by decide) (hE : setU is μe = μ1 := by rfl) (hE2 : setU is μb = μ1 := by rfl)
    (hs : ∀ env x, foldedSetIterable iter env x = pure x := by intro _ _; rfl) :
    DE S μ (.ListComp elt [⟨tg, iter, ifs, 0⟩] scope pos) (.O .S) μ1 (bnd Fi fun ds => VL.guard (decide (ds.length ≤ sizeLine)) (bnd (lcM Gt T B is ds) fun ys => ret (.lst ys))) where
  bo := hi.bo
  ex := by
    obtain ⟨wi, pi, si⟩ := hi.ex
    obtain ⟨g, pg, sg⟩ := hg.ex
    obtain ⟨tt, pt, st⟩ := ht.ex
    obtain ⟨te, pe, se⟩ := he.ex
    refine ⟨fun W => tLc (wi W) g (tt W0) (te W0) (own.map (·.2)), fun W X c => ?_, fun W R H σ ρ fps Q w h => ?_⟩
    · have pi := pi W X c
      have nd := c.nd
      have e := c.sc
      have pg := fun s H C cl fp => pg W0 _ (c.blk (scope := scope) (s := s) (H := H) (C := C) (cl := cl) (fp := fp))
      have pt := fun s H C cl fp => pt W0 _ (c.blk (scope := scope) (s := s) (H := H) (C := C) (cl := cl) (fp := fp))
      have pe := fun s H C cl fp => pe W0 _ (c.blk (scope := scope) (s := s) (H := H) (C := C) (cl := cl) (fp := fp))
      obtain ⟨A, s0, H0, env, outer, stack, ex, fn, pn, xe, rfl⟩ := c.shape
      exact pe_lc rfl nd pi (by rw [show env.scope = S.sc from e]; exact blkOk_by hbk) pg pt pe (hs _)
    · refine si W R H σ ρ fps _ w ?_
      unfold bnd at h
      cases eF : Fi ρ with
      | stuck => rw [eF] at h; exact h.elim
      | err c ρ' => rw [eF] at h; exact h
      | ok ds ρ0 =>
        rw [eF] at h
        intro It0 R0 H0 fps0 w0 x0 ok0 p hp
        obtain ⟨hz, h⟩ := PostE.guard' h
        have hz := of_decide_eq_true hz
        rw [hown]
        exact lc_sound hg sg (fun R H σ ρ fps Q => st W0 R H σ ρ fps Q) (fun R H σ ρ fps Q => se W0 R H σ ρ fps Q) hU hE hE2 hi.bo w0 x0 ok0 hz h p hp fun ys vs ρ' R' H' fps' w' e' r' t' x' h' => h' _ R' H' fps' [p] w' (repM_OS' e' r') t' x'
end
end VL

namespace VL
open PySem L2

/-! ### a def's promise -/
structure FnV (P : Program) (w : World) (K : PySem.W.Frag) (mg : Str → Option Value) (base : Heap) (k : Nat) (gd : Bool) (f : Addr) (fd : FuncData) (ps : List Str) (sp : Sp) : Prop where
  len : ∀ vs H Q E, sp vs H Q E → vs.length = ps.length
  run : ∀ (A : Around) (outer : List Env) (s : Shared) (H : Hp) (args : Args) (us : List Value) (vs : List V) (Q : VK) (E : XK), Room k A → (gd = true → A.guards = some []) → Env0 P w K mg base A outer s H → BindsTo s fd args (ps.zip us) → Vals vs us → sp vs H Q E →
    codeAny (model P w) A (.call (.ref f) args) (CR (L2.CX P w) outer P w H s Q E) s
theorem FnV.mono {P : Program} {w : World} {K : PySem.W.Frag} {mg : Str → Option Value} {base : Heap} {j k : Nat} {gd : Bool} {f : Addr} {fd : FuncData} {ps : List Str} {sp : Sp} (F : FnV P w K mg base j gd f fd ps sp) (h : j ≤ k) :
    FnV P w K mg base k gd f fd ps sp := ⟨F.len, fun A outer s H args us vs Q E hr => F.run A outer s H args us vs Q E (hr.mono h)⟩
def PostF (κ : Kit) (ec : Str → Value) (pm : List Mo) (mr : Mo) (R H : Hp) (σ : St) (fps : Fps) (Q : VK) (E : XK) : Out D → Prop
  | .ok d ρ' => ∀ v R' H' fps' tf, Wd κ R' (bOnly pm) ρ' σ H' fps' → RepM κ R' H' mr d v tf → Tmp κ R' fps' tf → Ext κ R H fps R' H' fps' tf → Q v H'
  | .err c ρ' => ∀ R' H' fps', Wd κ R' (bOnly pm) ρ' σ H' fps' → Ext κ R H fps R' H' fps' [] → E (ec c) none H'
  | .stuck => False
def spOf (κ : Kit) (ec : Str → Value) (pm : List Mo) (mr : Mo) (F : List D → Out D) : Sp := fun vs H Q E => ∃ R ds fps, Wd κ R pm ds (vs.map some) H fps ∧ PostF κ ec pm mr R H (vs.map some) fps Q E (F ds)
/-- a def by its body: n parameters, N names in all -/
def funF (nx : Bool) (N n : Nat) (G : M Fl) : List D → Out D := fun ds => match G (ds ++ List.replicate (N - n) .non) with
  | .ok .nx ρ' => if nx then .ok .non (ρ'.take n) else .stuck
  | .ok (.ret d) ρ' => .ok d (ρ'.take n)
  | .ok _ _ => .stuck
  | .err c ρ' => .err c (ρ'.take n)
  | .stuck => .stuck
theorem get_app_rep {α : Type} {l : List α} {j i : Nat} {x y : α} (h : (l ++ List.replicate j x)[i]? = some y) : l[i]? = some y ∨ (l.length ≤ i ∧ y = x) := by
  by_cases hi : i < l.length
  · rw [List.getElem?_append_left hi] at h; exact .inl h
  · rw [List.getElem?_append_right (by omega), List.getElem?_replicate] at h
    split at h
    · cases h; exact .inr ⟨by omega, rfl⟩
    · cases h
theorem Wd.ext0 {κ : Kit} {R H : Hp} {pm : List Mo} {ds : List D} {σ : St} {fps : Fps} (w : Wd κ R pm ds σ H fps) (j : Nat) : Wd κ R (pm ++ List.replicate j .U) (ds ++ List.replicate j .non) (σ ++ List.replicate j none) H fps where
  sub := w.sub
  len1 := by simp [w.len1]
  len2 := by simp [w.len2]
  rep := fun i m d h1 h2 => by
    rcases get_app_rep h1 with h1 | ⟨hi, rfl⟩
    · have hi := (List.getElem?_eq_some_iff.mp h1).1
      rw [List.getElem?_append_left (by rw [w.len2]; exact hi)] at h2
      rw [List.getElem?_append_left (by rw [w.len1]; exact hi)]
      exact w.rep i m d h1 h2
    · unfold SlotR; rw [if_pos rfl]; exact w.out i hi
  out := fun i hi => w.out i (by simp at hi; omega)
  dis1 := w.dis1
  dis2 := w.dis2
  nd := w.nd
  tab := w.tab
  tab1 := w.tab1
  tab2 := w.tab2
theorem Wd.back {κ : Kit} {R H : Hp} {pm : List Mo} {ρ' : List D} {σ σ' : St} {fps : Fps} {j : Nat} (w : Wd κ R (bOnly (pm ++ List.replicate j .U)) ρ' σ' H fps) (hl : σ.length = pm.length) (sb : SameB (pm ++ List.replicate j .U) (σ ++ List.replicate j none) σ') : Wd κ R (bOnly pm) (ρ'.take pm.length) σ H fps where
  sub := w.sub
  len1 := by simp [hl, bOnly]
  len2 := by
    have := w.len2
    simp [bOnly] at this ⊢
    omega
  rep := fun i m d h1 h2 => by
    have hi : i < pm.length := by have := (List.getElem?_eq_some_iff.mp h1).1; simpa [bOnly] using this
    have h1' : (bOnly (pm ++ List.replicate j .U))[i]? = some m := by
      simp only [bOnly, List.map_append] at h1 ⊢
      rw [List.getElem?_append_left (by simpa using hi)]; exact h1
    rw [List.getElem?_take_of_lt hi] at h2
    have r := w.rep i m d h1' h2
    unfold SlotR at *
    by_cases hu : m = .U
    · rw [if_pos hu] at *; exact r
    · rw [if_neg hu] at *
      obtain ⟨v, e, r⟩ := r
      refine ⟨v, ?_, r⟩
      have hB : ∃ m', m = .B m' := by
        simp only [bOnly, List.getElem?_map, Option.map_eq_some_iff] at h1
        obtain ⟨x, e, h⟩ := h1
        split at h
        · rename_i hb
          subst h
          cases x <;> simp only [isB] at hb <;> first | (cases hb; done) | skip
          exact ⟨_, rfl⟩
        · exact (hu h.symm).elim
      obtain ⟨m', rfl⟩ := hB
      have e1 := sb i m' (bOnly_B h1')
      rw [List.getElem?_append_left (by omega)] at e1
      rw [← e1]; exact e
  out := fun i hi => by
    simp only [bOnly, List.length_map] at hi
    by_cases h2 : i < pm.length + j
    · have hlt : i < (bOnly (pm ++ List.replicate j .U)).length := by simpa [bOnly] using h2
      obtain ⟨m, d, e1, e2, r⟩ := w.slot hlt
      have : m = .U := by
        simp only [bOnly, List.map_append, List.map_replicate] at e1
        rw [List.getElem?_append_right (by simpa using hi), List.getElem?_replicate] at e1
        split at e1
        · cases e1; rfl
        · cases e1
      unfold SlotR at r
      rw [if_pos this] at r
      exact r
    · exact w.out i (by simp [bOnly]; omega)
  dis1 := w.dis1
  dis2 := w.dis2
  nd := w.nd
  tab := w.tab
  tab1 := w.tab1
  tab2 := w.tab2
/-- THE RULE: a def by its body -/
theorem fnV_of {S : Sta} {f : Addr} {name qual : Str} {params : Arguments} {body : List Stmt} {scope : Scope} {dV kV doc pmv cdv ct oc : Value} {an od : Option Addr} {osl : Array (Option Value)} {ps : List Str} {pm : List Mo} {mr : Mo} {μ' : List Mo} {G : M Fl} {nx : Bool} {j : Nat}
    (lk : S.κ.K.lookup f = some ⟨oc, od, .func (PySem.W.fnOf name qual params body scope dV kV doc pmv an cdv ct), osl⟩) (hcd : PySem.W.codeIn S.κ.K cdv qual = true) (Sc : FnScope S.N ps scope) (hsc : S.sc = scope) (hN : S.N.length = pm.length + j) (hps : pm.length = ps.length)
    (hlm : ∀ q c, S.lm = some (q, c) → qual ++ ".<locals>." = q ∧ cdv = .ref c) (hnx : nx = true → mr = .S) (hB : DB S ⟨mr, [], []⟩ (pm ++ List.replicate j .U) body μ' G) :
    FnV S.prog S.w S.κ.K S.mg S.base (S.k + 1) S.gd f (PySem.W.fnOf name qual params body scope dV kV doc pmv an cdv ct) ps (spOf S.κ S.ec pm mr (funF nx S.N.length pm.length G)) := by
  have len : ∀ vs H Q E, spOf S.κ S.ec pm mr (funF nx S.N.length pm.length G) vs H Q E → vs.length = ps.length := fun vs H Q E ⟨R, ds, fps, w, _⟩ => by
    have := w.len1; simpa [hps] using this
  refine ⟨len, fun A outer s H args us vs Q E hr hg e0 hb r hsp => ?_⟩
  have hl := len _ _ _ _ hsp
  refine LamX.run_ofS (N := S.N) lk hcd Sc hr e0 hb r hl fun hr' => ?_
  obtain ⟨tb, pb, sb⟩ := hB.ex
  have cf : Conf S (fun cls d _ H => E cls d H) (cxOf (L2.CX S.prog S.w) S.prog S.w S.κ.K S.mg S.base S.N qual scope f cdv A outer s H E) :=
    ⟨⟨_, _, _, _, _, _, _, _, _, _, rfl⟩, hsc.symm, Sc.nd, hr', fun _ _ => rfl, passes_of rfl, takes_of rfl rfl rfl rfl, fun _ => ⟨rfl, rfl⟩, hg, hlm⟩
  refine ⟨_, pb _ _ cf, ?_⟩
  obtain ⟨R, ds, fps, w, h⟩ := hsp
  have ej : S.N.length - vs.length = j := by rw [hN, hl, hps]; omega
  have ej2 : S.N.length - pm.length = j := by omega
  have w0 := w.ext0 j
  have hσ : (vs.map some).length = pm.length := w.len1
  unfold L2.start
  rw [ej]
  refine sb _ R H _ _ fps _ w0 ?_
  have bo := hB.bo
  unfold funF at h
  rw [ej2] at h
  cases eG : G (ds ++ List.replicate j .non) with
  | stuck => rw [eG] at h; exact h.elim
  | err c ρ' => rw [eG] at h; exact fun σ' R' H' fps' w' x sm => h R' H' fps' (w'.back hσ sm) x
  | ok f ρ' =>
    rw [eG] at h
    cases f with
    | nx =>
      simp only at h
      split at h
      · rename_i hh
        have e := hnx hh
        subst e
        intro σ' R' H' fps' w' x sm
        refine h .non R' H' _ [] ((bo ▸ w'.bonly).back hσ sm) ⟨rfl, rep_non⟩ Tmp.nil (x.slots fun i a ha => ⟨i, fps_bonly ha⟩)
      · exact h.elim
    | brk => exact h.elim
    | cont => exact h.elim
    | ret d => exact fun v σ' R' H' fps' tf w' rv t x sm => h v R' H' fps' tf (w'.back hσ sm) rv t x

/-! ### the call of a def -/
inductive ArgK where
  | val | lend (j : Nat) | q (j : Nat)
  deriving DecidableEq
def ArgK.slot : ArgK → Option Nat
  | .val => none
  | .lend j => some j
  | .q j => some j
structure ArgsR (κ : Kit) (R : Hp) (σ : St) (ks : List ArgK) (ds : List D) (vs : List V) : Prop where
  l1 : ds.length = ks.length
  l2 : vs.length = ks.length
  val : ∀ (i : Nat) d v, ks[i]? = some ArgK.val → ds[i]? = some d → vs[i]? = some v → Rep κ.K κ.C R d v
  slot : ∀ (i j : Nat) v, (ks[i]?.bind ArgK.slot) = some j → vs[i]? = some v → σ[j]? = some (some v)
def PostL (S : Sta) (μ : List Mo) (ks : List ArgK) (μ' : List Mo) (R H : Hp) (σ : St) (fps : Fps) (W : WX) (Q : List V → Hp → Prop) : Out (List D) → Prop
  | .ok ds ρ' => ∀ vs R' H' fps', Wd S.κ R' μ' ρ' σ H' fps' → ArgsR S.κ R' σ ks ds vs → Ext S.κ R H fps R' H' fps' [] → Q vs H'
  | .err c ρ' => ∀ R' H' fps', Wd S.κ R' (bOnly μ) ρ' σ H' fps' → Ext S.κ R H fps R' H' fps' [] → W (S.ec c) none σ H'
  | .stuck => False
structure DL (S : Sta) (μ : List Mo) (es : List Expr) (ks : List ArgK) (μ' : List Mo) (F : M (List D)) : Prop where
  bo : bOnly μ' = bOnly μ
  ex : ∃ te : WX → TA, (∀ W X, Conf S W X → PA X es (te W)) ∧ ∀ W R H σ ρ fps Q, Wd S.κ R μ ρ σ H fps → PostL S μ ks μ' R H σ fps W Q (F ρ) → te W σ H Q
section
variable {S : Sta} {J : Jmp} {μ μ1 μ2 μ' : List Mo} {pos p : Pos} {e : Expr} {es : List Expr} {F : M D} {Fs : M (List D)} {m : Mo} {ks : List ArgK}
theorem ArgsR.nil {κ : Kit} {R : Hp} {σ : St} : ArgsR κ R σ [] [] [] := ⟨rfl, rfl, fun i d v h => by simp at h, fun i j v h => by simp at h⟩
theorem ArgsR.cons {κ : Kit} {R : Hp} {σ : St} {k : ArgK} {d : D} {v : V} {ds : List D} {vs : List V} (h1 : k = ArgK.val → Rep κ.K κ.C R d v) (h2 : ∀ j, k.slot = some j → σ[j]? = some (some v)) (t : ArgsR κ R σ ks ds vs) : ArgsR κ R σ (k :: ks) (d :: ds) (v :: vs) := by
  refine ⟨by simp [t.l1], by simp [t.l2], fun i d' v' a b c => ?_, fun i j v' a b => ?_⟩
  · cases i with
    | zero => simp at a b c; subst b c; exact h1 a
    | succ i => simp at a b c; exact t.val i d' v' a b c
  · cases i with
    | zero => simp at a b; subst b; exact h2 j a
    | succ i => simp at b; exact t.slot i j v' (by simpa using a) b
theorem dl_nil : DL S μ [] [] μ (ret []) where
  bo := rfl
  ex := ⟨fun _ => tNil, fun W X c => pa_nil, fun W R H σ ρ fps Q w h => h [] R H fps w ArgsR.nil Ext.refl⟩
theorem PostL.tail {k : ArgK} {d : D} {v : V} {R H R1 H1 : Hp} {σ : St} {fps fps1 : Fps} {W : WX} {Q : List V → Hp → Prop} {ρ1 : List D} (h : PostL S μ (k :: ks) μ' R H σ fps W Q ((bnd Fs fun xs => ret (d :: xs)) ρ1)) (x1 : Ext S.κ R H fps R1 H1 fps1 []) (b : bOnly μ1 = bOnly μ)
    (h1 : ∀ R', Sub R1 R' → k = ArgK.val → Rep S.κ.K S.κ.C R' d v) (h2 : ∀ j, k.slot = some j → σ[j]? = some (some v)) : PostL S μ1 ks μ' R1 H1 σ fps1 W (fun vs H' => Q (v :: vs) H') (Fs ρ1) := by
  unfold bnd at h
  cases e : Fs ρ1 with
  | stuck => rw [e] at h; exact h.elim
  | err c ρ' => rw [e] at h; exact fun R' H' fps' w' y => h R' H' fps' (b ▸ w') (x1.trans y)
  | ok ds ρ' => rw [e] at h; exact fun vs R' H' fps' w' r y => h (v :: vs) R' H' fps' w' (ArgsR.cons (h1 R' y.sub) h2 r) (x1.trans y)
theorem dl_val (he : DE S μ e .S μ1 F) (hr : DL S μ1 es ks μ2 Fs) (hs : ∀ env, starEach (e :: es) env = (false, eval e env) :: starEach es env := by intro _; rfl) : DL S μ (e :: es) (.val :: ks) μ2 (bnd F fun x => bnd Fs fun xs => ret (x :: xs)) where
  bo := hr.bo.trans he.bo
  ex := by
    obtain ⟨te, pe, se⟩ := he.ex
    obtain ⟨tr, pr, sr⟩ := hr.ex
    refine ⟨fun W => tCons (te W) (tr W), fun W X c => pa_cons (pe W X c) (pr W X c) (hs _), fun W R H σ ρ fps Q w h => ?_⟩
    refine se W R H σ ρ fps _ w ?_
    unfold bnd at h
    cases e1 : F ρ with
    | stuck => rw [e1] at h; exact h.elim
    | err c ρ' => rw [e1] at h; exact h
    | ok d ρ1 =>
      rw [e1] at h
      intro v R1 H1 fps1 tf1 w1 r1 t1 x1
      obtain ⟨et, r1⟩ := r1
      subst et
      exact sr W R1 H1 σ ρ1 fps1 _ w1 (PostL.tail h x1 he.bo (fun R' s _ => r1.mono s) fun j z => nomatch z)
theorem dl_slot {k : ArgK} (j : Nat) {x : Str} (hk : k.slot = some j) (hm : μ[j]? = some m) (hu : m ≠ .U) (hN : S.N[j]? = some x) (hv : Vis S.sc x) (hr : DL S μ es ks μ2 Fs) (hs : ∀ env, starEach (.Name x p :: es) env = (false, eval (.Name x p) env) :: starEach es env)
    (hd : (x == ("__debug__" : Str)) = false) (hcd : (x == ("__classdict__" : Str)) = false) : DL S μ (.Name x p :: es) (k :: ks) μ2 (bnd Fs fun xs => ret (.non :: xs)) where
  bo := hr.bo
  ex := by
    obtain ⟨tr, pr, sr⟩ := hr.ex
    refine ⟨fun W => tCons (tVar j) (tr W), fun W X c => ?_, fun W R H σ ρ fps Q w h => ?_⟩
    · have pr := pr W X c
      have hv' := vis_of c.sc hv
      obtain ⟨A, s0, H0, env, outer, stack, ex, fn, pn, xe, rfl⟩ := c.shape
      exact pa_cons (pe_var hN hv' hd hcd) pr (hs _)
    · have hj := (List.getElem?_eq_some_iff.mp hm).1
      obtain ⟨m0, d0, em, ed, _⟩ := w.slot hj
      obtain ⟨v, ev, rv⟩ := w.get hm ed hu
      refine ⟨v, ev, sr W R H σ ρ fps _ w (PostL.tail h Ext.refl rfl (fun R' s z => ?_) fun j' z => ?_)⟩
      · subst z; cases hk
      · rw [hk] at z; cases z; exact ev
theorem dl_lend (j : Nat) {x : Str} (hr : DL S μ es ks μ2 Fs) (hm : μ[j]? = some m := by rfl) (hu : m ≠ .U := by decide) (hN : S.N[j]? = some x := by rfl) (hv : Vis S.sc x := by first | exact Or.inl rfl | exact Or.inr (Or.inl rfl) | exact Or.inr (Or.inr rfl))
    (hs : ∀ env, starEach (.Name x p :: es) env = (false, eval (.Name x p) env) :: starEach es env := by intro _; rfl) (hd : (x == ("__debug__" : Str)) = false := by decide) (hcd : (x == ("__classdict__" : Str)) = false := by decide) : DL S μ (.Name x p :: es) (.lend j :: ks) μ2 (bnd Fs fun xs => ret (.non :: xs)) :=
  dl_slot j rfl hm hu hN hv hr hs hd hcd
theorem dl_q (j : Nat) {x : Str} (hr : DL S μ es ks μ2 Fs) (hm : μ[j]? = some m := by rfl) (hu : m ≠ .U := by decide) (hN : S.N[j]? = some x := by rfl) (hv : Vis S.sc x := by first | exact Or.inl rfl | exact Or.inr (Or.inl rfl) | exact Or.inr (Or.inr rfl))
    (hs : ∀ env, starEach (.Name x p :: es) env = (false, eval (.Name x p) env) :: starEach es env := by intro _; rfl) (hd : (x == ("__debug__" : Str)) = false := by decide) (hcd : (x == ("__classdict__" : Str)) = false := by decide) : DL S μ (.Name x p :: es) (.q j :: ks) μ2 (bnd Fs fun xs => ret (.non :: xs)) :=
  dl_slot j rfl hm hu hN hv hr hs hd hcd
end
/-- the callee's data, the caller's data behind it -/
def fillK : List ArgK → List D → List D → List D
  | .val :: ks, d :: ds, ρ => d :: fillK ks ds ρ
  | .lend j :: ks, _ :: ds, ρ => ρ.getD j .non :: fillK ks ds ρ
  | .q j :: ks, _ :: ds, ρ => ρ.getD j .non :: fillK ks ds ρ
  | _, _, _ => []
def backK : List ArgK → List D → List D → List D
  | .lend j :: ks, d :: ds, ρ => backK ks ds (ρ.set j d)
  | _ :: ks, _ :: ds, ρ => backK ks ds ρ
  | _, _, ρ => ρ
def lends : List ArgK → List Nat
  | [] => []
  | .lend j :: ks => j :: lends ks
  | _ :: ks => lends ks
def argOk1 (μ : List Mo) (k : ArgK) (m : Mo) : Bool := match k with
  | .val => decide (m = .S)
  | .q j => decide (m = .Q) && decide (μ[j]? = some .Q)
  | .lend j => match m with
    | .B m' => decide (μ[j]? = some m') && !decide (m' = .U) || decide (μ[j]? = some (.B m'))
    | _ => false
def argOk (μ : List Mo) : List ArgK → List Mo → Bool
  | [], [] => true
  | k :: ks, m :: ms => argOk1 μ k m && argOk μ ks ms
  | _, _ => false
theorem argOk_len {μ : List Mo} : ∀ {ks : List ArgK} {pm : List Mo}, argOk μ ks pm = true → pm.length = ks.length
  | [], [], _ => rfl
  | k :: ks, m :: ms, h => by
    simp only [argOk, Bool.and_eq_true] at h
    simp [argOk_len h.2]
  | [], _ :: _, h => nomatch h
  | _ :: _, [], h => nomatch h
theorem argOk_at {μ : List Mo} : ∀ {ks : List ArgK} {pm : List Mo} {i : Nat} {k : ArgK} {m : Mo}, argOk μ ks pm = true → ks[i]? = some k → pm[i]? = some m → argOk1 μ k m = true
  | [], _, _, _, _, _, h, _ => by simp at h
  | _ :: _, [], _, _, _, _, _, h => by simp at h
  | k :: ks, m :: ms, 0, k', m', h, e1, e2 => by
    simp only [argOk, Bool.and_eq_true] at h
    simp at e1 e2; subst e1 e2; exact h.1
  | k :: ks, m :: ms, i + 1, k', m', h, e1, e2 => by
    simp only [argOk, Bool.and_eq_true] at h
    exact argOk_at h.2 (by simpa using e1) (by simpa using e2)
theorem fillK_len : ∀ {ks : List ArgK} {ds ρ : List D}, ds.length = ks.length → (fillK ks ds ρ).length = ks.length
  | [], ds, ρ, _ => by simp [fillK]
  | .val :: ks, [], ρ, h => by cases h
  | .lend j :: ks, [], ρ, h => by cases h
  | .q j :: ks, [], ρ, h => by cases h
  | .val :: ks, d :: ds, ρ, h => by simp [fillK, fillK_len (ks := ks) (ds := ds) (ρ := ρ) (by simpa using h)]
  | .lend j :: ks, d :: ds, ρ, h => by simp [fillK, fillK_len (ks := ks) (ds := ds) (ρ := ρ) (by simpa using h)]
  | .q j :: ks, d :: ds, ρ, h => by simp [fillK, fillK_len (ks := ks) (ds := ds) (ρ := ρ) (by simpa using h)]
theorem fillK_val : ∀ {ks : List ArgK} {ds ρ : List D} {i : Nat}, ds.length = ks.length → ks[i]? = some ArgK.val → (fillK ks ds ρ)[i]? = ds[i]?
  | [], ds, ρ, i, _, h => by simp at h
  | k :: ks, [], ρ, i, h, _ => by cases h
  | k :: ks, d :: ds, ρ, 0, h, e => by simp at e; subst e; simp [fillK]
  | k :: ks, d :: ds, ρ, i + 1, h, e => by
    have ih := fillK_val (ks := ks) (ds := ds) (ρ := ρ) (i := i) (by simpa using h) (by simpa using e)
    cases k <;> simpa [fillK] using ih
theorem fillK_slot : ∀ {ks : List ArgK} {ds ρ : List D} {i j : Nat}, ds.length = ks.length → (ks[i]?.bind ArgK.slot) = some j → (fillK ks ds ρ)[i]? = some (ρ.getD j .non)
  | [], ds, ρ, i, j, _, h => by simp at h
  | k :: ks, [], ρ, i, j, h, _ => by cases h
  | k :: ks, d :: ds, ρ, 0, j, h, e => by
    cases k <;> simp [ArgK.slot] at e <;> subst e <;> simp [fillK]
  | k :: ks, d :: ds, ρ, i + 1, j, h, e => by
    have ih := fillK_slot (ks := ks) (ds := ds) (ρ := ρ) (i := i) (j := j) (by simpa using h) (by simpa using e)
    cases k <;> simpa [fillK] using ih
theorem mem_lends : ∀ {ks : List ArgK} {i j : Nat}, ks[i]? = some (ArgK.lend j) → j ∈ lends ks
  | [], i, j, h => by simp at h
  | k :: ks, 0, j, h => by simp at h; subst h; simp [lends]
  | k :: ks, i + 1, j, h => by
    have := mem_lends (ks := ks) (i := i) (j := j) (by simpa using h)
    cases k <;> simp [lends, this]
theorem lends_mem : ∀ {ks : List ArgK} {j : Nat}, j ∈ lends ks → ∃ i : Nat, ks[i]? = some (ArgK.lend j)
  | [], j, h => by simp [lends] at h
  | k :: ks, j, h => by
    cases k with
    | lend j' =>
      simp only [lends, List.mem_cons] at h
      rcases h with rfl | h
      · exact ⟨0, rfl⟩
      · obtain ⟨i, e⟩ := lends_mem h; exact ⟨i + 1, by simpa using e⟩
    | val => obtain ⟨i, e⟩ := lends_mem (ks := ks) h; exact ⟨i + 1, by simpa using e⟩
    | q j' => obtain ⟨i, e⟩ := lends_mem (ks := ks) h; exact ⟨i + 1, by simpa using e⟩
theorem lends_inj : ∀ {ks : List ArgK} {i i' j : Nat}, (lends ks).Nodup → ks[i]? = some (ArgK.lend j) → ks[i']? = some (ArgK.lend j) → i = i'
  | [], i, i', j, _, h, _ => by simp at h
  | k :: ks, 0, 0, j, _, _, _ => rfl
  | k :: ks, 0, i' + 1, j, n, h, h' => by
    simp at h; subst h
    simp only [lends, List.nodup_cons] at n
    exact (n.1 (mem_lends (by simpa using h'))).elim
  | k :: ks, i + 1, 0, j, n, h, h' => by
    simp at h'; subst h'
    simp only [lends, List.nodup_cons] at n
    exact (n.1 (mem_lends (by simpa using h))).elim
  | k :: ks, i + 1, i' + 1, j, n, h, h' => by
    have n' : (lends ks).Nodup := by
      cases k <;> simp only [lends] at n <;> first | exact n | exact (List.nodup_cons.mp n).2
    have := lends_inj (ks := ks) (i := i) (i' := i') (j := j) n' (by simpa using h) (by simpa using h')
    rw [this]
theorem backK_len : ∀ {ks : List ArgK} {ds ρ : List D}, (backK ks ds ρ).length = ρ.length
  | [], _, ρ => by simp [backK]
  | .val :: ks, [], ρ => by simp [backK]
  | .lend j :: ks, [], ρ => by simp [backK]
  | .q j :: ks, [], ρ => by simp [backK]
  | .val :: ks, d :: ds, ρ => by simp [backK, backK_len (ks := ks)]
  | .lend j :: ks, d :: ds, ρ => by simp [backK, backK_len (ks := ks)]
  | .q j :: ks, d :: ds, ρ => by simp [backK, backK_len (ks := ks)]
theorem backK_other : ∀ {ks : List ArgK} {ds ρ : List D} {j : Nat}, j ∉ lends ks → (backK ks ds ρ)[j]? = ρ[j]?
  | [], _, ρ, j, _ => by simp [backK]
  | .val :: ks, [], ρ, j, _ => by simp [backK]
  | .lend j :: ks, [], ρ, _, _ => by simp [backK]
  | .q j :: ks, [], ρ, _, _ => by simp [backK]
  | .val :: ks, d :: ds, ρ, j, h => by simp only [backK]; exact backK_other (ks := ks) h
  | .q j' :: ks, d :: ds, ρ, j, h => by simp only [backK]; exact backK_other (ks := ks) h
  | .lend j' :: ks, d :: ds, ρ, j, h => by
    simp only [lends, List.mem_cons, not_or] at h
    simp only [backK]
    rw [backK_other (ks := ks) h.2, List.getElem?_set_ne (Ne.symm h.1)]
theorem backK_lend : ∀ {ks : List ArgK} {ds ρ : List D} {i j : Nat} {d : D}, (lends ks).Nodup → ks[i]? = some (ArgK.lend j) → ds[i]? = some d → j < ρ.length → (backK ks ds ρ)[j]? = some d
  | [], _, ρ, i, j, d, _, h, _, _ => by simp at h
  | k :: ks, [], ρ, i, j, d, _, _, h, _ => by simp at h
  | k :: ks, d0 :: ds, ρ, 0, j, d, n, h, h2, hl => by
    simp at h h2; subst h h2
    simp only [lends, List.nodup_cons] at n
    simp only [backK]
    rw [backK_other n.1, List.getElem?_set_self hl]
  | k :: ks, d0 :: ds, ρ, i + 1, j, d, n, h, h2, hl => by
    have n' : (lends ks).Nodup := by
      cases k <;> simp only [lends] at n <;> first | exact n | exact (List.nodup_cons.mp n).2
    cases k <;> (simp only [backK]; exact backK_lend n' (by simpa using h) (by simpa using h2) (by simpa using hl))
/-- the callee's world -/
def callFps (ks : List ArgK) (fps : Fps) : Fps := fun i => match ks[i]? with
  | some (ArgK.lend j) => fps j
  | _ => []
theorem callFps_in {ks : List ArgK} {fps : Fps} {i : Nat} {a : Addr} (h : a ∈ callFps ks fps i) : ∃ j, ks[i]? = some (ArgK.lend j) ∧ a ∈ fps j := by
  unfold callFps at h
  split at h
  · rename_i j e; exact ⟨j, e, h⟩
  · cases h
theorem callFps_at {ks : List ArgK} {fps : Fps} {i j : Nat} (e : ks[i]? = some (ArgK.lend j)) : callFps ks fps i = fps j := by
  unfold callFps; rw [e]
theorem getD_of {ρ : List D} {j : Nat} {d : D} (h : ρ[j]? = some d) : ρ.getD j .non = d := by simp [List.getD, h]
theorem Wd.call {κ : Kit} {R H : Hp} {μ : List Mo} {ρ ds : List D} {σ : St} {fps : Fps} {ks : List ArgK} {vs : List V} {pm : List Mo} (w : Wd κ R μ ρ σ H fps) (a : ArgsR κ R σ ks ds vs) (ok : argOk μ ks pm = true) (nd : (lends ks).Nodup) :
    Wd κ R pm (fillK ks ds ρ) (vs.map some) H (callFps ks fps) where
  sub := w.sub
  len1 := by simp [a.l2, argOk_len ok]
  len2 := by rw [fillK_len a.l1, argOk_len ok]
  rep := fun i m d h1 h2 => by
    have hi : i < ks.length := by rw [← argOk_len ok]; exact (List.getElem?_eq_some_iff.mp h1).1
    have ek : ks[i]? = some ks[i] := List.getElem?_eq_getElem hi
    have ev : vs[i]? = some (vs[i]'(by rw [a.l2]; exact hi)) := List.getElem?_eq_getElem _
    have o1 := argOk_at ok ek h1
    rw [List.getElem?_map, ev]
    unfold SlotR
    cases hk : ks[i] with
    | val =>
      rw [hk] at ek o1
      simp only [argOk1, decide_eq_true_eq] at o1
      subst o1
      rw [if_neg (by decide)]
      rw [fillK_val a.l1 ek] at h2
      refine ⟨_, rfl, by unfold callFps; rw [ek], a.val i _ _ ek h2 ev⟩
    | q j =>
      rw [hk] at ek o1
      simp only [argOk1, Bool.and_eq_true, decide_eq_true_eq] at o1
      obtain ⟨rfl, hm⟩ := o1
      rw [if_neg (by decide)]
      have es := a.slot i j _ (by rw [ek]; rfl) ev
      rw [fillK_slot (j := j) a.l1 (by rw [ek]; rfl)] at h2
      have hj := (List.getElem?_eq_some_iff.mp hm).1
      obtain ⟨m0, d0, em, ed, _⟩ := w.slot hj
      obtain ⟨v, ev', rv⟩ := w.get hm ed (by decide)
      rw [es] at ev'; cases ev'
      rw [getD_of ed] at h2
      cases h2
      have e0 : callFps ks fps i = [] := by unfold callFps; rw [ek]
      rw [e0]
      refine ⟨_, rfl, ?_⟩
      cases d with
      | lst ds => obtain ⟨_, q⟩ := rv; exact ⟨rfl, q⟩
      | _ => exact rv.elim
    | lend j =>
      rw [hk] at ek o1
      have es := a.slot i j _ (by rw [ek]; rfl) ev
      rw [fillK_slot (j := j) a.l1 (by rw [ek]; rfl)] at h2
      rw [callFps_at ek]
      cases m with
      | B m' =>
        simp only [argOk1, Bool.or_eq_true, Bool.and_eq_true, decide_eq_true_eq, Bool.not_eq_true', decide_eq_false_iff_not] at o1
        rw [if_neg (by intro z; cases z)]
        rcases o1 with ⟨hm, hu⟩ | hm
        · have hj := (List.getElem?_eq_some_iff.mp hm).1
          obtain ⟨m0, d0, em, ed, _⟩ := w.slot hj
          obtain ⟨v, ev', rv⟩ := w.get hm ed hu
          rw [es] at ev'; cases ev'
          rw [getD_of ed] at h2
          cases h2
          exact ⟨_, rfl, rv⟩
        · have hj := (List.getElem?_eq_some_iff.mp hm).1
          obtain ⟨m0, d0, em, ed, _⟩ := w.slot hj
          obtain ⟨v, ev', rv⟩ := w.get hm ed (by intro z; cases z)
          rw [es] at ev'; cases ev'
          rw [getD_of ed] at h2
          cases h2
          exact ⟨_, rfl, rv⟩
      | U => cases o1
      | S => cases o1
      | Q => cases o1
      | O m => cases o1
      | P i m => cases o1
  out := fun i hi => by
    unfold callFps
    rw [List.getElem?_eq_none (by rw [← argOk_len ok]; exact hi)]
  dis1 := fun i x hx => let ⟨j, _, h⟩ := callFps_in hx; w.dis1 j x h
  dis2 := fun i i' x hx hx' => by
    obtain ⟨j, e, h⟩ := callFps_in hx
    obtain ⟨j', e', h'⟩ := callFps_in hx'
    have := w.dis2 j j' x h h'
    subst this
    exact lends_inj nd e e'
  nd := fun i => by
    unfold callFps
    split
    · exact w.nd _
    · exact .nil
  tab := w.tab
  tab1 := w.tab1
  tab2 := fun p hp i hx => let ⟨j, _, h⟩ := callFps_in hx; w.tab2 p hp j h
open Classical in
/-- what the caller owns behind the call -/
noncomputable def retFps (ks : List ArgK) (fps fps2 : Fps) : Fps := fun j => if h : ∃ i : Nat, ks[i]? = some (ArgK.lend j) then fps2 h.choose else fps j
theorem retFps_lend {ks : List ArgK} {fps fps2 : Fps} {i j : Nat} (nd : (lends ks).Nodup) (e : ks[i]? = some (ArgK.lend j)) : retFps ks fps fps2 j = fps2 i := by
  have h : ∃ i : Nat, ks[i]? = some (ArgK.lend j) := ⟨i, e⟩
  unfold retFps
  rw [dif_pos h, lends_inj nd h.choose_spec e]
theorem retFps_other {ks : List ArgK} {fps fps2 : Fps} {j : Nat} (h : j ∉ lends ks) : retFps ks fps fps2 j = fps j := by
  unfold retFps
  rw [dif_neg fun ⟨i, e⟩ => h (mem_lends e)]
theorem retFps_in {ks : List ArgK} {fps fps2 : Fps} {j : Nat} {a : Addr} (nd : (lends ks).Nodup) (h : a ∈ retFps ks fps fps2 j) : (∃ i : Nat, ks[i]? = some (ArgK.lend j) ∧ a ∈ fps2 i) ∨ (j ∉ lends ks ∧ a ∈ fps j) := by
  by_cases hj : j ∈ lends ks
  · obtain ⟨i, e⟩ := lends_mem hj
    rw [retFps_lend nd e] at h
    exact .inl ⟨i, e, h⟩
  · rw [retFps_other hj] at h
    exact .inr ⟨hj, h⟩
theorem Wd.ret {κ : Kit} {R H R' H' : Hp} {μ : List Mo} {ρ ds ds' : List D} {σ : St} {fps fps2 : Fps} {ks : List ArgK} {vs : List V} {pm : List Mo} {tf : List Addr} (w : Wd κ R μ ρ σ H fps) (a : ArgsR κ R σ ks ds vs) (ok : argOk μ ks pm = true) (nd : (lends ks).Nodup)
    (w2 : Wd κ R' (bOnly pm) ds' (vs.map some) H' fps2) (x : Ext κ R H (callFps ks fps) R' H' fps2 tf) :
    Wd κ R' μ (backK ks ds' ρ) σ H' (retFps ks fps fps2) ∧ Ext κ R H fps R' H' (retFps ks fps fps2) tf ∧ (∀ i, ∀ b ∈ tf, i ∉ lends ks → b ∉ fps i) := by
  -- what another slot owns stays
  have stay : ∀ j, j ∉ lends ks → ∀ b ∈ fps j, ∀ o, NT o → H b = some o → H' b = some o ∧ R' b = none ∧ (∀ i, b ∉ fps2 i) ∧ b ∉ tf := fun j hj b hb o no e => by
    refine x.frm b o e (w.dis1 j b hb) (fun i z => ?_) no
    obtain ⟨j', e', h'⟩ := callFps_in z
    have := w.dis2 j j' b hb h'
    subst this
    exact hj (mem_lends e')
  have stay' : ∀ j, j ∉ lends ks → ∀ b ∈ fps j, R' b = none ∧ (∀ i, b ∉ fps2 i) ∧ b ∉ tf := fun j hj b hb => by
    obtain ⟨o, e, no⟩ := w.ex j b hb
    exact (stay j hj b hb o no e).2
  have lenk := argOk_len ok
  refine ⟨⟨w2.sub, w.len1, by rw [backK_len]; exact w.len2, fun j m d h1 h2 => ?_, fun j hj => ?_, fun j b hb => ?_, fun j j' b hb hb' => ?_, fun j => ?_, w2.tab, w2.tab1, fun p hp j hb => ?_⟩, ⟨x.sub, fun b o e n f t => ?_⟩, fun i b hb hi z => (stay' i hi b z).2.2 hb⟩
  · by_cases hj : j ∈ lends ks
    · obtain ⟨i, e⟩ := lends_mem hj
      rw [retFps_lend nd e]
      have hi : i < ks.length := (List.getElem?_eq_some_iff.mp e).1
      have hip : i < pm.length := by omega
      have ep : pm[i]? = some pm[i] := List.getElem?_eq_getElem hip
      have o1 := argOk_at ok e ep
      have hjl := (List.getElem?_eq_some_iff.mp h1).1
      have hid : i < ds'.length := by rw [w2.len2]; simpa [bOnly] using hip
      have ed : ds'[i]? = some ds'[i] := List.getElem?_eq_getElem hid
      rw [backK_lend nd e ed (by rw [w.len2]; exact hjl)] at h2
      cases h2
      have ev : vs[i]? = some (vs[i]'(by rw [a.l2]; exact hi)) := List.getElem?_eq_getElem _
      have es := a.slot i j _ (by rw [e]; rfl) ev
      cases hm : pm[i] with
      | B m' =>
        rw [hm] at ep o1
        have eb : (bOnly pm)[i]? = some (.B m') := by simp [bOnly, ep, isB]
        have r := w2.rep i _ _ eb ed
        unfold SlotR at r
        rw [if_neg (by intro z; cases z), List.getElem?_map, ev] at r
        obtain ⟨v, e3, r⟩ := r
        cases e3
        simp only [argOk1, Bool.or_eq_true, Bool.and_eq_true, decide_eq_true_eq, Bool.not_eq_true', decide_eq_false_iff_not] at o1
        rw [h1] at o1
        unfold SlotR
        rcases o1 with ⟨hm, hu⟩ | hm
        · cases hm
          rw [if_neg hu]
          exact ⟨_, es, r⟩
        · cases hm
          rw [if_neg (by intro z; cases z)]
          exact ⟨_, es, r⟩
      | U => rw [hm] at o1; cases o1
      | S => rw [hm] at o1; cases o1
      | Q => rw [hm] at o1; cases o1
      | O m => rw [hm] at o1; cases o1
      | P i m => rw [hm] at o1; cases o1
    · rw [retFps_other hj]
      rw [backK_other hj] at h2
      exact (w.rep j m d h1 h2).mono x.sub fun b hb o no e => (stay j hj b hb o no e).1
  · by_cases h : j ∈ lends ks
    · exfalso
      obtain ⟨i, e⟩ := lends_mem h
      have hi : i < ks.length := (List.getElem?_eq_some_iff.mp e).1
      have ep : pm[i]? = some (pm[i]'(by omega)) := List.getElem?_eq_getElem _
      have o1 := argOk_at ok e ep
      have en : μ[j]? = none := List.getElem?_eq_none hj
      revert o1
      generalize (pm[i]'(by omega)) = m0
      intro o1
      cases m0 <;> simp [argOk1, en] at o1
    · rw [retFps_other h]; exact w.out j hj
  · rcases retFps_in nd hb with ⟨i, e, h⟩ | ⟨hj, h⟩
    · exact w2.dis1 i b h
    · exact (stay' j hj b h).1
  · rcases retFps_in nd hb with ⟨i, e, h⟩ | ⟨hj, h⟩
    · rcases retFps_in nd hb' with ⟨i', e', h'⟩ | ⟨hj', h'⟩
      · have := w2.dis2 i i' b h h'
        subst this
        rw [e] at e'; cases e'; rfl
      · exact ((stay' j' hj' b h').2.1 i h).elim
    · rcases retFps_in nd hb' with ⟨i', e', h'⟩ | ⟨hj', h'⟩
      · exact ((stay' j hj b h).2.1 i' h').elim
      · exact w.dis2 j j' b h h'
  · by_cases hj : j ∈ lends ks
    · obtain ⟨i, e⟩ := lends_mem hj
      rw [retFps_lend nd e]; exact w2.nd i
    · rw [retFps_other hj]; exact w.nd j
  · rcases retFps_in nd hb with ⟨i, e, h⟩ | ⟨hj, h⟩
    · exact w2.tab2 p hp i h
    · exact w.tab2 p hp j h
  · obtain ⟨e1, n1, f1, n2⟩ := x.frm b o e n (fun i z => let ⟨j, _, h⟩ := callFps_in z; f j h) t
    refine ⟨e1, n1, fun j z => ?_, n2⟩
    rcases retFps_in nd z with ⟨i, _, h⟩ | ⟨_, h⟩
    · exact f1 i h
    · exact f j h
/-- a def that may be called by its name -/
structure CalV (S : Sta) (k : Nat) (x : Str) (pm : List Mo) (mr : Mo) (F : List D → Out D) : Prop where
  ex : ∃ (f : Addr) (fd : FuncData) (ps : List Str), FnV S.prog S.w S.κ.K S.mg S.base k S.gd f fd ps (spOf S.κ S.ec pm mr F) ∧ S.mg x = some (.ref f) ∧ PySem.W.keepIn S.κ.K (.ref f) = true ∧ Binds S.κ.K fd ps []
def callM (ks : List ArgK) (F : List D → Out D) (ds : List D) : M D := fun ρ => match F (fillK ks ds ρ) with
  | .ok d ds' => .ok d (backK ks ds' ρ)
  | .err c ds' => .err c (backK ks ds' ρ)
  | .stuck => .stuck
section
variable {X : Cx} {k : Nat} {gd : Bool} {f : Addr} {fd : FuncData} {ps : List Str} {sp : Sp} {E : St → XK} {x : Str} {p pos : Pos} {e : Expr} {es : List Expr} {t : TA}
theorem run_fnV {pins : List (Addr × Obj)} {σ : St} {H : Hp} {s : Shared} {Q : VK} {us : List Value} {vs : List V} (F : FnV X.prog X.w X.K X.mg X.base k gd f fd ps sp) (hr : Room k X.A) (hg : gd = true → X.A.guards = some []) (hb : Binds X.K fd ps []) (hx : PassesAt (L2.CX X.prog X.w) X σ (E σ))
    (I : Inv X pins σ H s) (r : Vals vs us) (h : sp vs H Q (E σ)) : wpAny (model X.prog X.w) X.A (PySem.call (.ref f) us) (EP X pins σ Q) X.xe s := by
  have hl : us.length = ps.length := by rw [← r.length]; exact F.len _ _ _ _ h
  have b := hb s us I.kIn (by rw [List.append_nil]; exact hl)
  rw [List.append_nil] at b
  refine wpAny_call (codeAny_mono (F.run X.A X.stack s H ⟨us, []⟩ us vs Q (E σ) hr hg I.env0 b r h) fun r s' hq => ?_)
  cases r with
  | error e => exact hx pins H s e s' I hq
  | ok fl =>
    cases fl with
    | ret u => exact I.after hq
    | next => exact False.elim hq
    | brk => exact False.elim hq
    | cont => exact False.elim hq
theorem pe_callV (F : FnV X.prog X.w X.K X.mg X.base k gd f fd ps sp) (hr : Room k X.A) (hgd : gd = true → X.A.guards = some []) (hg : Gl X x) (hm : X.mg x = some (.ref f)) (hk : PySem.W.keepIn X.K (.ref f) = true) (hb : Binds X.K fd ps []) (hx : ∀ σ, PassesAt (L2.CX X.prog X.w) X σ (E σ))
    (ha : PA X (e :: es) t) (hdb : (x == ("__debug__" : Str)) = false := by decide) (he : starEach (e :: es) X.env = (false, eval e X.env) :: starEach es X.env := by rfl) (hpl : (backTo pos (starEach es X.env)).any (·.1) = false := by rfl) :
    PE X (.Call (.Name x p) (e :: es) [] pos) (tCallS sp E t) := by
  refine ⟨fun pins s σ H Q I h => ?_⟩
  refine wpAny_Call_Name_kw (ld_glob I hg hm ?_ hdb)
  refine PySem.W.callWith_K (h₀ := X.base) I.ok.mod.kin hk (thn (ha.run pos pins s σ H _ I h) fun us s1 ⟨vs, H1, I1, r, q⟩ => ⟨I1.kIn, ?_⟩) he hpl
  exact run_fnV F hr hgd hb (hx σ) I1 r q
theorem pe_callV0 (F : FnV X.prog X.w X.K X.mg X.base k gd f fd ps sp) (hr : Room k X.A) (hgd : gd = true → X.A.guards = some []) (hg : Gl X x) (hm : X.mg x = some (.ref f)) (hk : PySem.W.keepIn X.K (.ref f) = true) (hb : Binds X.K fd ps []) (hx : ∀ σ, PassesAt (L2.CX X.prog X.w) X σ (E σ))
    (hdb : (x == ("__debug__" : Str)) = false := by decide) : PE X (.Call (.Name x p) [] [] pos) (tCallS sp E tNil) := by
  refine ⟨fun pins s σ H Q I h => ?_⟩
  refine wpAny_Call_Name_kw (ld_glob I hg hm ?_ hdb)
  exact PySem.W.callWith_K0 I.kIn hk (run_fnV (us := []) F hr hgd hb (hx σ) I .nil h)
end
section
variable {S : Sta} {J : Jmp} {μ μ1 μ2 μ' : List Mo} {pos p : Pos} {e : Expr} {es : List Expr} {Fs : M (List D)} {m : Mo} {ks : List ArgK} {k : Nat} {x : Str} {pm : List Mo} {mr : Mo} {F : List D → Out D}
theorem call_sound {R H R1 H1 : Hp} {σ : St} {ρ1 ds : List D} {fps fps1 : Fps} {W : WX} {Q : VK} {vs : List V} (ok : argOk μ1 ks pm = true) (nd : (lends ks).Nodup) (bo : bOnly μ1 = bOnly μ) (h : PostE S μ mr μ1 R H σ fps W Q (callM ks F ds ρ1))
    (w1 : Wd S.κ R1 μ1 ρ1 σ H1 fps1) (a1 : ArgsR S.κ R1 σ ks ds vs) (x1 : Ext S.κ R H fps R1 H1 fps1 []) : spOf S.κ S.ec pm mr F vs H1 Q (WE W σ) := by
  refine ⟨R1, _, _, w1.call a1 ok nd, ?_⟩
  unfold callM at h
  cases eF : F (fillK ks ds ρ1) with
  | stuck => rw [eF] at h; exact h.elim
  | err c ds' =>
    rw [eF] at h
    intro R' H' fps' w' x'
    obtain ⟨w3, x3, _⟩ := w1.ret a1 ok nd w' x'
    exact h R' H' _ (bo ▸ w3.bonly) ((x1.trans x3).slots fun i a ha => ⟨i, fps_bonly ha⟩)
  | ok d ds' =>
    rw [eF] at h
    intro v R' H' fps' tf w' r' t' x'
    obtain ⟨w3, x3, dj⟩ := w1.ret a1 ok nd w' x'
    refine h v R' H' _ tf w3 r' ⟨t'.nd, fun a ha => ⟨(t'.dis a ha).1, fun i z => ?_, (t'.dis a ha).2.2⟩⟩ (x1.trans x3)
    rcases retFps_in nd z with ⟨i', _, q⟩ | ⟨hi, q⟩
    · exact (t'.dis a ha).2.1 i' q
    · exact dj i a ha hi q
theorem de_call (c : CalV S k x pm mr F) (ha : DL S μ (e :: es) ks μ1 Fs) (hk : k ≤ S.k := by exact Nat.le_of_ble_eq_true rfl) (ok : argOk μ1 ks pm = true := by decide) (nd : (lends ks).Nodup := by decide) (hg : S.sc.names.lookup x = some .globalImplicit := by rfl)
    (hdb : (x == ("__debug__" : Str)) = false := by decide) (he : ∀ env, starEach (e :: es) env = (false, eval e env) :: starEach es env := by intro _; rfl) (hpl : ∀ env, (backTo pos (starEach es env)).any (·.1) = false := by intro _; rfl) :
    DE S μ (.Call (.Name x p) (e :: es) [] pos) mr μ1 (bnd Fs (callM ks F)) where
  bo := ha.bo
  ex := by
    obtain ⟨ta, pa, sa⟩ := ha.ex
    obtain ⟨f, fd, ps, FN, hm, hkp, hb⟩ := c.ex
    refine ⟨fun W => tCallS (spOf S.κ S.ec pm mr F) (WE W) (ta W), fun W X c => ?_, fun W R H σ ρ fps Q w h => ?_⟩
    · have pa := pa W X c
      have hg' : Gl X x := gl_of c.sc hg
      have gd := c.gd
      have room := c.room.mono hk
      have tk := c.tk
      obtain ⟨A, s0, H0, env, outer, stack, ex, fn, pn, xe, rfl⟩ := c.shape
      exact pe_callV FN room gd hg' hm hkp hb (fun σ => passAt tk σ) pa hdb (he _) (hpl _)
    · refine sa W R H σ ρ fps _ w ?_
      unfold bnd at h
      cases eF : Fs ρ with
      | stuck => rw [eF] at h; exact h.elim
      | err c ρ' => rw [eF] at h; exact h
      | ok ds ρ1 =>
        rw [eF] at h
        exact fun vs R1 H1 fps1 w1 a1 x1 => call_sound ok nd ha.bo h w1 a1 x1
theorem de_call0 (c : CalV S k x [] mr F) (hk : k ≤ S.k := by exact Nat.le_of_ble_eq_true rfl) (hg : S.sc.names.lookup x = some .globalImplicit := by rfl) (hdb : (x == ("__debug__" : Str)) = false := by decide) :
    DE S μ (.Call (.Name x p) [] [] pos) mr μ (callM [] F []) where
  bo := rfl
  ex := by
    obtain ⟨f, fd, ps, FN, hm, hkp, hb⟩ := c.ex
    refine ⟨fun W => tCallS (spOf S.κ S.ec [] mr F) (WE W) tNil, fun W X c => ?_, fun W R H σ ρ fps Q w h => ?_⟩
    · have hg' : Gl X x := gl_of c.sc hg
      have gd := c.gd
      have room := c.room.mono hk
      have tk := c.tk
      obtain ⟨A, s0, H0, env, outer, stack, ex, fn, pn, xe, rfl⟩ := c.shape
      exact pe_callV0 FN room gd hg' hm hkp hb (fun σ => passAt tk σ) hdb
    · exact call_sound (ks := []) rfl .nil rfl h w ArgsR.nil Ext.refl
/-! ### raise -/
structure RzV (S : Sta) (x c : Str) : Prop where
  ex : ∃ (C : Addr) (bmB : List Value) (B newId initId : String), ExcBaseFacts B newId initId bmB ∧ PySem.W.excIn S.κ.K C bmB newId = true ∧ S.mg x = some (.ref C) ∧ PySem.W.keepIn S.κ.K (.ref C) = true ∧
    PySem.W.subIn S.κ.K (.ref C) (.type "BaseException") = some true ∧ PySem.W.typeIn S.κ.K (.ref C) = some (.type "type") ∧ S.ec c = .ref C
theorem ds_raise {x c mm : Str} {j : Nat} {p2 pos2 : Pos} (r : RzV S x c) (hg : S.sc.names.lookup x = some .globalImplicit := by rfl) (hb : bOnly μ' = bOnly μ := by rfl) (hdb : (x == ("__debug__" : Str)) = false := by decide) :
    DS S J μ (.Raise (some (.Call (.Name x p) [.Constant (.str mm) j p2] [] pos2)) none pos) μ' (fun ρ => .err c ρ) where
  bo := hb
  ex := by
    obtain ⟨C, bmB, B, newId, initId, F, q, gC, kC, h1, h2, ec⟩ := r.ex
    refine ⟨fun W => fun _ σ H => W (S.ec c) none σ H, fun W X cf => ?_, fun W R H σ ρ fps E w h => ?_⟩
    · have hg' : Gl X x := gl_of cf.sc hg
      have tk := cf.tk
      obtain ⟨A, s0, H0, env, outer, stack, ex, fn, pn, xe, rfl⟩ := cf.shape
      rw [ec]
      exact ps_raise rfl tk (pmk_own F q gC kC (raises_own h1 h2) hg' hdb)
    · exact h σ R H _ w.bonly (Ext.refl.slots fun i a ha => ⟨i, fps_bonly ha⟩) SameB.refl
end
end VL

namespace VL
open PySem L2

section
variable {S : Sta} {J : Jmp} {μ μ1 μ2 μ' : List Mo} {pos p pos' : Pos} {e f tg : Expr} {es : List Expr} {F Fa Fb : M D} {Fs : M (List D)} {m : Mo}
/-! ### the signs of a text -/
def strI : D → Option (List D)
  | .str x => some (x.cps.toList.map fun c => .str ⟨#[c]⟩)
  | _ => none
theorem di_str (he : DE S μ e .S μ' F) : DI S μ tg e μ' (bnd F fun x => opt (strI x)) where
  bo := he.bo
  ex := by
    obtain ⟨te, p, s⟩ := he.ex
    refine ⟨fun W => iStr (te W), fun W X c => pi_str (p W X c), fun W R H σ ρ fps Q w h => ?_⟩
    refine s W R H σ ρ fps _ w (h.bindS fun d ρ1 h v R1 H1 fps1 w1 r1 x1 => ?_)
    obtain ⟨ds, e, h⟩ := h.opt'
    cases d <;> simp only [strI] at e <;> first | (cases e; done) | skip
    cases e
    simp only [Rep] at r1
    refine ⟨_, r1, h _ R1 H1 fps1 w1 x1 fun i R' H2 s1 s2 => ⟨fun d hd => ?_, fun hi => ?_⟩⟩
    · rw [List.getElem?_map, Array.getElem?_toList] at hd
      cases ec : ‹Str›.cps[i]? with
      | none => rw [ec] at hd; cases hd
      | some c =>
        rw [ec] at hd
        cases hd
        refine ⟨(Array.getElem?_eq_some_iff.mp ec).1, fun x H' y => .inl ?_⟩
        obtain ⟨e1, c', e2, e3⟩ := y
        rw [ec] at e2; cases e2
        exact ⟨e1, by rw [e3]; exact rep_str⟩
    · show _ ≤ i
      simpa using hi
/-! ### repr -/
mutual
theorem noDict : ∀ d : D, d.plain = true → d.py.hasDict = false
  | .non, _ => by simp only [D.py, PyData.hasDict]
  | .bl b, _ => by simp only [D.py, PyData.hasDict]
  | .int b, _ => by simp only [D.py, PyData.hasDict]
  | .str b, _ => by simp only [D.py, PyData.hasDict]
  | .tup ds, p => by simp only [D.py, PyData.hasDict]; simp only [D.plain] at p; exact noDicts ds p
  | .lst ds, p => by simp only [D.py, PyData.hasDict]; simp only [D.plain] at p; exact noDicts ds p
  | .dct ds, p => by simp [D.plain] at p
  | .obj c ds, p => by simp [D.plain] at p
theorem noDicts : ∀ ds : List D, D.plains ds = true → PyData.hasDictAll (D.pys ds) = false
  | [], _ => by simp only [D.pys, PyData.hasDictAll]
  | d :: ds, p => by
    simp only [D.plains, Bool.and_eq_true] at p
    simp only [D.pys, PyData.hasDictAll, noDict d p.1, noDicts ds p.2, Bool.or_self]
end
def okRepr (d : D) : Bool := d.plain && d.py.showable && decide (d.py.shown.length ≤ sizeLine) && decide (d.py.depth ≤ 64)
def isBox : D → Bool
  | .tup _ => true
  | .lst _ => true
  | .str _ => true
  | _ => false
def reprD : List D → Option D
  | [d] => if okRepr d && isBox d then some (.str d.py.shown) else none
  | _ => none
theorem f_repr (hgd : S.gd = true := by rfl) : CallD S (.builtin "repr") .S reprD := by
  refine ⟨fun xs H Q => ∃ d x, okRepr d = true ∧ isBox d = true ∧ xs = [x] ∧ Dp S.κ.K H x d.py ∧ Q (.str d.py.shown) H, fun W X c => ?_, fun μ ρ σ R H fps ds vs d Q w rs e q => ?_⟩
  · have hg := c.gd hgd
    have hu := c.u65
    obtain ⟨A, s0, H0, env, outer, stack, ex, fn, pn, xe, rfl⟩ := c.shape
    intro pins s σ H xs us Q I r h
    obtain ⟨d, x, ok, bx, rfl, hd, q⟩ := h
    obtain ⟨u, rfl, ru⟩ := vals1 r
    simp only [okRepr, Bool.and_eq_true, decide_eq_true_eq] at ok
    obtain ⟨⟨⟨pl, sh⟩, sz⟩, dp⟩ := ok
    obtain ⟨as, r1⟩ := Dp.reads I d.py x u hd ru
    have boxed : ∀ a, u = .ref a → wpAny (model S.prog S.w) A (PySem.call (.builtin "repr") [u]) (EP _ pins σ Q) xe s := fun a ea => by
      subst ea
      exact repr_of_reads' r1 sh (PyData.noDict_hsm (noDict d pl)) hg (by show A.units + (d.py.depth + 1) < cLine; have : A.units + 65 < cLine := hu; omega) (fun _ _ h => h) (fun h' u tk hk => ⟨.str d.py.shown, H, I.kept (h' := h') (t' := tk) hk, ⟨u, rfl⟩, q⟩) sz
    cases d with
    | str y =>
      simp only [D.py] at r1 sz q
      cases r1
      simp only [PyData.shown] at sz q
      exact PySem.P.repr_of_str ⟨.str _, H, I.tok _, ⟨_, rfl⟩, q⟩ sz
    | lst ds =>
      have r2 := r1
      simp only [D.py] at r2
      cases r2
      exact boxed _ rfl
    | tup ds =>
      have r2 := r1
      simp only [D.py] at r2
      cases r2
      exact boxed _ rfl
    | _ => cases bx
  · unfold reprD at e
    split at e
    · rename_i d0
      split at e
      · rename_i hc
        simp only [Bool.and_eq_true] at hc
        cases e
        obtain ⟨v, rfl, r1⟩ := reps1 rs
        have pl : d0.plain = true := by have := hc.1; simp only [okRepr, Bool.and_eq_true] at this; exact this.1.1.1
        exact ⟨d0, v, hc.1, hc.2, rfl, rep_dp w.sub d0 v pl r1, q.s w rep_str⟩
      · cases e
    · cases e
/-! ### dicts of ints and texts -/
def keyD : D → Option Key
  | .int i => some (.inl i)
  | .str x => some (.inr x)
  | _ => none
def valD (ks : List (Key × D)) (k : Key) : Option D := (ks.find? fun kv => decide (kv.1 = k)).map (·.2)
def putD (ks : List (Key × D)) (k : Key) (v : D) : List (Key × D) := if (ks.any fun kv => decide (kv.1 = k)) = true then ks.map (fun kv => if kv.1 = k then (kv.1, v) else kv) else ks ++ [(k, v)]
section
variable {K : PySem.W.Frag} {C : CM} {R H : Hp}
theorem key_rep {d : D} {v : V} {k : Key} (h : keyD d = some k) (r : Rep K C R d v) : v = kV k := by
  cases d <;> simp only [keyD] at h <;> first | (cases h; done) | skip
  all_goals (cases h; simp only [Rep] at r; exact r)
theorem RepK.nil : RepK K C R [] [] := by simp only [RepK]
theorem RepK.cons {k : Key} {d : D} {v : V} {ds : List (Key × D)} {vs : List (Key × V)} (h : Rep K C R d v) (t : RepK K C R ds vs) : RepK K C R ((k, d) :: ds) ((k, v) :: vs) := by
  simp only [RepK]; exact ⟨v, vs, rfl, h, t⟩
theorem RepK.length : ∀ {ds : List (Key × D)} {vs : List (Key × V)}, RepK K C R ds vs → ds.length = vs.length
  | [], vs, h => by simp only [RepK] at h; subst h; rfl
  | (k, d) :: ds, vs, h => by
    simp only [RepK] at h
    obtain ⟨v, r, rfl, _, t⟩ := h
    simp [RepK.length t]
theorem RepK.val : ∀ {ds : List (Key × D)} {vs : List (Key × V)} (k : Key), RepK K C R ds vs → (valD ds k = none ∧ valV vs k = none) ∨ ∃ d v, valD ds k = some d ∧ valV vs k = some v ∧ Rep K C R d v
  | [], vs, k, h => by simp only [RepK] at h; subst h; exact .inl ⟨rfl, rfl⟩
  | (k0, d) :: ds, vs, k, h => by
    simp only [RepK] at h
    obtain ⟨v, r, rfl, q, t⟩ := h
    by_cases e : k0 = k
    · exact .inr ⟨d, v, by simp [valD, e], by simp [valV, e], q⟩
    · rcases RepK.val k t with ⟨a, b⟩ | ⟨d', v', a, b, c⟩
      · exact .inl ⟨by simpa [valD, e] using a, by simpa [valV, e] using b⟩
      · exact .inr ⟨d', v', by simpa [valD, e] using a, by simpa [valV, e] using b, c⟩
theorem RepK.any : ∀ {ds : List (Key × D)} {vs : List (Key × V)} (k : Key), RepK K C R ds vs → (ds.any fun kv => decide (kv.1 = k)) = (vs.any fun kv => decide (kv.1 = k))
  | [], vs, k, h => by simp only [RepK] at h; subst h; rfl
  | (k0, d) :: ds, vs, k, h => by
    simp only [RepK] at h
    obtain ⟨v, r, rfl, q, t⟩ := h
    simp only [List.any_cons, RepK.any k t]
theorem RepK.map : ∀ {ds : List (Key × D)} {vs : List (Key × V)} (k : Key) {d : D} {v : V}, RepK K C R ds vs → Rep K C R d v → RepK K C R (ds.map (fun kv => if kv.1 = k then (kv.1, d) else kv)) (vs.map (fun kv => if kv.1 = k then (kv.1, v) else kv))
  | [], vs, k, _, _, h, _ => by simp only [RepK] at h; subst h; exact RepK.nil
  | (k0, d0) :: ds, vs, k, d, v, h, q => by
    simp only [RepK] at h
    obtain ⟨v0, r, rfl, q0, t⟩ := h
    simp only [List.map_cons]
    by_cases e : k0 = k
    · simp only [e, if_true]; exact RepK.cons q (RepK.map k t q)
    · simp only [e, if_false]; exact RepK.cons q0 (RepK.map k t q)
theorem RepK.append : ∀ {ds es : List (Key × D)} {vs ws : List (Key × V)}, RepK K C R ds vs → RepK K C R es ws → RepK K C R (ds ++ es) (vs ++ ws)
  | [], es, vs, ws, h, t => by simp only [RepK] at h; subst h; exact t
  | (k, d) :: ds, es, vs, ws, h, t => by
    simp only [RepK] at h
    obtain ⟨v, r, rfl, q, u⟩ := h
    exact RepK.cons q (RepK.append u t)
theorem RepK.put {ds : List (Key × D)} {vs : List (Key × V)} (k : Key) {d : D} {v : V} (h : RepK K C R ds vs) (q : Rep K C R d v) : RepK K C R (putD ds k d) (putK vs k v) := by
  unfold putD putK
  rw [h.any k]
  split
  · exact h.map k q
  · exact h.append (RepK.cons q RepK.nil)
end
theorem repLK_S {κ : Kit} {R H : Hp} : ∀ {ks : List (Key × D)} {vs : List (Key × V)} {g : List Addr}, RepLK (RepM κ R H .S) ks vs g ↔ g = [] ∧ RepK κ.K κ.C R ks vs
  | [], vs, g => by simp only [RepLK, RepK]; exact And.comm
  | (k, d) :: ks, vs, g => by
    simp only [RepLK, RepK]
    constructor
    · rintro ⟨v, r, f1, f2, rfl, rfl, p, t⟩
      obtain ⟨e1, p⟩ := p
      subst e1
      obtain ⟨e2, t2⟩ := repLK_S.mp t
      subst e2
      exact ⟨rfl, v, r, rfl, p, t2⟩
    · rintro ⟨rfl, v, r, rfl, p, t⟩
      exact ⟨v, r, [], [], rfl, rfl, ⟨rfl, p⟩, repLK_S.mpr ⟨rfl, t⟩⟩
theorem repM_OD {κ : Kit} {R H : Hp} {ks : List (Key × D)} {v : V} {f : List Addr} (h : RepM κ R H (.O .S) (.dct ks) v f) : ∃ a vs, v = .ref a ∧ f = [a] ∧ H a = some (.dK vs) ∧ RepK κ.K κ.C R ks vs := by
  obtain ⟨a, vs, g, e1, e2, e3, t⟩ := h
  obtain ⟨e4, t2⟩ := repLK_S.mp t
  subst e4
  exact ⟨a, vs, e1, e3, e2, t2⟩
theorem repM_OD' {κ : Kit} {R H : Hp} {ks : List (Key × D)} {a : Addr} {vs : List (Key × V)} (h : H a = some (.dK vs)) (r : RepK κ.K κ.C R ks vs) : RepM κ R H (.O .S) (.dct ks) (.ref a) [a] := ⟨a, vs, [], rfl, h, rfl, repLK_S.mpr ⟨rfl, r⟩⟩
/-- a slot's own dict is changed -/
theorem Wd.setD {κ : Kit} {R H : Hp} {ρ : List D} {σ : St} {fps : Fps} (w : Wd κ R μ ρ σ H fps) {j : Nat} {m : Mo} {ks ks' : List (Key × D)} {a : Addr} {vs vs' : List (Key × V)} (hm : μ[j]? = some m) (ho : m = .O .S ∨ m = .B (.O .S)) (hd : ρ[j]? = some (.dct ks)) (hs : σ[j]? = some (some (.ref a))) (ha : H a = some (.dK vs)) (r' : RepK κ.K κ.C R ks' vs') :
    Wd κ R μ (ρ.set j (.dct ks')) σ (upd H a (.dK vs')) fps ∧ Ext κ R H fps R (upd H a (.dK vs')) fps [] := by
  obtain ⟨v, ev, rm⟩ := w.ownL hm ho hd
  rw [hs] at ev; cases ev
  obtain ⟨a', vs0, ea, ef, eh, r⟩ := repM_OD rm
  cases ea
  have hj := (List.getElem?_eq_some_iff.mp hm).1
  have aj : a ∈ fps j := by rw [ef]; simp
  have nR := w.dis1 j a aj
  have only : ∀ i, a ∈ fps i → i = j := fun i hi => w.dis2 i j a hi aj
  refine ⟨⟨fun b o e => ?_, w.len1, by rw [List.length_set]; exact w.len2, fun i m' d' h1 h2 => ?_, w.out, w.dis1, w.dis2, w.nd, tabs_set ha (fun _ z => nomatch z) (fun _ z => nomatch z) w.tab, w.tab1, w.tab2⟩, ⟨Sub.refl _, fun b o e n f tt => ⟨?_, n, f, by simp⟩⟩⟩
  · have hb : b ≠ a := fun z => by rw [z, nR] at e; cases e
    rw [upd_ne hb]; exact w.sub _ _ e
  · by_cases hij : i = j
    · subst hij
      rw [hm] at h1; cases h1
      rw [List.getElem?_set_self (by rw [w.len2]; exact hj)] at h2
      cases h2
      unfold SlotR
      have hu : m ≠ .U := by rcases ho with z | z <;> (rw [z]; decide)
      rw [if_neg hu]
      refine ⟨_, hs, ?_⟩
      rw [ef]
      rcases ho with z | z
      · subst z; exact repM_OD' upd_same r'
      · subst z; exact repM_OD' upd_same r'
    · rw [List.getElem?_set_ne (Ne.symm hij)] at h2
      exact (w.rep i m' d' h1 h2).mono (Sub.refl _) fun b hb o _ e => by
        have hb' : b ≠ a := by
          intro z; subst z; exact hij (only i hb)
        rw [upd_ne hb']; exact e
  · have hb' : b ≠ a := by
      intro z; subst z; exact f j aj
    rw [upd_ne hb']; exact e
theorem de_dnew : DE S μ (.Dict [] [] pos) (.O .S) μ (ret (.dct [])) where
  bo := rfl
  ex := ⟨fun _ => tDNewK, fun W X c => pe_dnewK, fun W R H σ ρ fps Q w h => fun p hp => h _ R _ fps [p] (w.newO hp) (repM_OD' upd_same RepK.nil) (Tmp.new w hp) (Ext.newO hp)⟩
def dctS (j : Nat) : M Unit := fun ρ => match ρ[j]? with
  | some (.dct _) => .ok () ρ
  | _ => .stuck
theorem PostE.dct {R H : Hp} {σ : St} {fps : Fps} {W : WX} {Q : VK} {ρ : List D} {j : Nat} {f : Unit → M D} (h : PostE S μ m μ' R H σ fps W Q (bnd (dctS j) f ρ)) : ∃ ks, ρ[j]? = some (.dct ks) ∧ PostE S μ m μ' R H σ fps W Q (f () ρ) := by
  unfold bnd dctS at h
  split at h
  · rename_i e
    split at e
    · rename_i ks ek
      cases e
      exact ⟨ks, ek, h⟩
    · cases e
  · rename_i e
    split at e <;> cases e
  · exact h.elim
def setdM (j : Nat) (y z : D) : M D := fun ρ => match keyD y, ρ[j]? with
  | some k, some (.dct ks) => if ks.length < sizeLine then (match valD ks k with
    | some v => .ok v ρ
    | none => .ok z (ρ.set j (.dct (putD ks k z)))) else .stuck
  | _, _ => .stuck
/-- x.setdefault(e, f), x a name that owns its dict -/
theorem de_dsetd (j : Nat) {x : Str} {apos : Pos} (he : DE S μ e .S μ1 Fa) (hf : DE S μ1 f .S μ2 Fb) (hm : μ[j]? = some m := by rfl) (hm2 : μ2[j]? = some m := by rfl) (ho : ownS m = true := by decide) (hN : S.N[j]? = some x := by rfl)
    (hv : Vis S.sc x := by first | exact Or.inl rfl | exact Or.inr (Or.inl rfl) | exact Or.inr (Or.inr rfl)) (hd : (x == ("__debug__" : Str)) = false := by decide) (hcd : (x == ("__classdict__" : Str)) = false := by decide)
    (hm2' : ∀ (X : Cx), M2 X (.Name x p) "setdefault" apos e f pos := by intro _; exact ⟨rfl, rfl, rfl, rfl⟩) :
    DE S μ (.Call (.Attribute (.Name x p) "setdefault" apos) [e, f] [] pos) .S μ2 (bnd (dctS j) fun _ => bnd Fa fun y => bnd Fb fun z => setdM j y z) where
  bo := hf.bo.trans he.bo
  ex := by
    obtain ⟨ta, pa, sa⟩ := he.ex
    obtain ⟨tb, pb, sb⟩ := hf.ex
    refine ⟨fun W => tDSetd (tVar j) (ta W) (tb W), fun W X c => ?_, fun W R H σ ρ fps Q w h => ?_⟩
    · have pa := pa W X c
      have pb := pb W X c
      have v := vis_of c.sc hv
      obtain ⟨A, s0, H0, env, outer, stack, ex, fn, pn, xe, rfl⟩ := c.shape
      exact pe_dsetd (pe_var hN v hd hcd) pa pb (hm2' _)
    · obtain ⟨ks0, ed0, h⟩ := h.dct
      obtain ⟨v0, ev0, rm0⟩ := w.ownL hm (ownS_or ho) ed0
      obtain ⟨a, vs0, rfl, _, ea0, _⟩ := repM_OD rm0
      refine ⟨_, ev0, a, rfl, .inl ⟨_, .inl ea0⟩, ?_⟩
      refine sa W R H σ ρ fps _ w (h.bindS fun y ρ1 h vy R1 H1 fps1 w1 r1 x1 => ?_)
      refine sb W R1 H1 σ ρ1 fps1 _ w1 ((h.later x1 he.bo).bindS fun z ρ2 h vz R2 H2 fps2 w2 r2 x2 => ?_)
      unfold setdM at h
      split at h
      · rename_i k ks hk hks
        obtain ⟨v1, ev1, rm1⟩ := w2.ownL hm2 (ownS_or ho) hks
        rw [ev0] at ev1; cases ev1
        obtain ⟨a', vs, ea, _, eh, rk⟩ := repM_OD rm1
        cases ea
        split at h
        · rename_i hl
          refine ⟨vs, k, eh, key_rep hk r1, by rw [← rk.length]; exact hl, fun v hvv => ?_, fun hvv => ?_⟩
          · rcases rk.val k with ⟨h1, h2⟩ | ⟨d, v', h1, h2, h3⟩
            · rw [h2] at hvv; cases hvv
            · rw [h2] at hvv; cases hvv
              rw [h1] at h
              exact h v R2 H2 fps2 [] w2 ⟨rfl, h3⟩ Tmp.nil x2
          · rcases rk.val k with ⟨h1, h2⟩ | ⟨d, v', h1, h2, h3⟩
            · rw [h1] at h
              obtain ⟨w3, x3⟩ := w2.setD hm2 (ownS_or ho) hks ev0 eh (rk.put k r2)
              exact h vz R2 _ fps2 [] w3 ⟨rfl, r2⟩ Tmp.nil (x2.trans x3)
            · rw [h2] at hvv; cases hvv
        · exact h.elim
      · exact h.elim
end
end VL

namespace VL
open PySem L2

/-! ### a lambda without parameters, handed to a def that tries it -/
theorem Wd.extN {κ : Kit} {R H H1 : Hp} {μ : List Mo} {ρ : List D} {σ : St} {fps : Fps} (w : Wd κ R μ ρ σ H fps) (e : LamX.ExtN H H1) (t : LamX.Tabs κ.T H1) : Wd κ R μ ρ σ H1 fps ∧ Ext κ R H fps R H1 fps [] :=
  ⟨w.heap (Sub.refl _) (fun a o h => e a o (w.sub a o h) fun ps z => w.tab1 a ps (z ▸ h)) (fun i a ha o no h => ⟨e a o h no, w.dis1 i a ha⟩) t w.tab1,
    ⟨Sub.refl _, fun a o h n f no => ⟨e a o h no, n, f, by simp⟩⟩⟩
/-- a pair of a text and a value -/
def pairQ (Q : VK) (r : Str) : VK := fun v H' => 2 ≤ sizeLine ∧ ∀ p, H' p = none → Q (.ref p) (upd H' p (.tup [.str r, v]))
/-- the wish of a def that says: try: return (r0, a()) / except h1: return (r1, None) / except h2: return (r2, None) -/
def TRead (K : PySem.W.Frag) (c1 c2 : Value) (r0 r1 r2 : Str) : (XK → Hp → VK → Prop) → Hp → VK → Prop := fun tl H Q =>
  tl (fun cls _ H' => ∃ b, PySem.W.exmOne K cls c1 = some b ∧ (b = true → pairQ Q r1 .non H') ∧
    (b = false → ∃ b2, PySem.W.exmOne K cls c2 = some b2 ∧ (b2 = true → pairQ Q r2 .non H') ∧ (b2 = false → False))) H (pairQ Q r0)
theorem read_gives {X : Cx} {Ng : List Str} {x a h1 h2 q r0 r1 r2 : Str} {sg : Scope} {g : Addr} {c1 c2 : Value} {cdg : Value} {j0 j1 j2 j3 j4 k0 k1 k2 : Nat} {p1 p2 p3 p4 p5 p6 p7 p8 p9 p10 p11 p12 p13 p14 p15 p16 p17 p18 : Pos}
    (hg1 : sg.names.lookup h1 = some .globalImplicit) (hm1 : X.mg h1 = some c1) (hd1 : (h1 == ("__debug__" : Str)) = false) (hg2 : sg.names.lookup h2 = some .globalImplicit) (hm2 : X.mg h2 = some c2) (hd2 : (h2 == ("__debug__" : Str)) = false) (h0 : ∀ f : Addr, (L2.start Ng [V.ref f])[0]? = some (some (V.ref f))) :
    LamX.GivesTo X Ng x sg g cdg [.Try [.Return (some (.Tuple [.Constant (.str r0) j0 p1, .Call (.Name a p2) [] [] p3] k0 p4)) p5]
      [.ExceptHandler (some (.Name h1 p6)) none [.Return (some (.Tuple [.Constant (.str r1) j1 p7, .Constant .none j2 p8] k1 p9)) p10] p11, .ExceptHandler (some (.Name h2 p12)) none [.Return (some (.Tuple [.Constant (.str r2) j3 p13, .Constant .none j4 p14] k2 p15)) p16] p17] [] [] p18] a q (TRead X.K c1 c2 r0 r1 r2) := by
  intro f c' s H Q tl act hc h
  have hgl1 : Gl (cxOf C8.CX0 X.prog X.w X.K X.mg X.base Ng x sg g cdg X.A X.stack s H C8.E0).nox h1 := hg1
  have hgl2 : Gl (cxOf C8.CX0 X.prog X.w X.K X.mg X.base Ng x sg g cdg X.A X.stack s H C8.E0).nox h2 := hg2
  refine ⟨_, pss_one (ps_try_many (X := (cxOf C8.CX0 X.prog X.w X.K X.mg X.base Ng x sg g cdg X.A X.stack s H C8.E0).nox) (Wout := fun _ _ _ _ => False)
      (tb := fun W D σ H => ∃ Ech : XK, (∀ cls d σ' H', Ech cls d H' → W cls d σ' H') ∧ σ[0]? = some (some (.ref f)) ∧ H c' = some (LamX.CodeO c' q) ∧ tl Ech H (pairQ D.rt r0))
      rfl rfl LamX.takes0 (fun W pn xe tk _ => ?_) (.cons ⟨hgl1, hd1, .inl hm1⟩ (fun a oe cls d pn _ _ => pss_one (ps_ret (pe_tup (pa_cons pe_str (pa_cons pe_non pa_nil))))) (.cons ⟨hgl2, hd2, .inl hm2⟩ (fun a oe cls d pn _ _ => pss_one (ps_ret (pe_tup (pa_cons pe_str (pa_cons pe_non pa_nil))))) .nil))), ?_⟩
  · refine ⟨fun pins s' σ H' D I h' => ?_⟩
    obtain ⟨Ech, hW, h1, h2, h3⟩ := h'
    have hp := act W pn xe Ech p2 p3 tk hW
    have hq := pss_one (ps_ret (pos := p5) (pe_tup (pos := p4) (x1 := k0) (pa_cons (pe_str (x := r0) (j := j0) (pos := p1)) (pa_cons hp pa_nil))))
    exact hq.run pins s' σ H' D I ⟨h1, h2, h3⟩
  · exact ⟨_, fun cls d σ' H' ⟨b, e1, e2, e3⟩ => ⟨b, e1, fun hb a _ => e2 hb, fun hb => let ⟨b2, e4, e5, e6⟩ := e3 hb; ⟨b2, e4, fun hb a _ => e5 hb, e6⟩⟩, h0 f, hc, h⟩
def lamS (S : Sta) (scope : Scope) (k : Nat) : Sta := { S with sc := scope, k := k, top := true, gd := false, fnn := fun _ => false, lm := none }
/-- in a lambda's body the maker's own slots are lent -/
def lamMo : Mo → Mo
  | .U => .U
  | .S => .S
  | .Q => .Q
  | .B m => .B m
  | .O m => .B (.O m)
  | .P i m => .B (.P i m)
def mergeE : List Mo → List D → List D → List D
  | m :: μ, d :: ρ, d' :: ρ' => (if isB m then d' else d) :: mergeE μ ρ ρ'
  | _, ρ, _ => ρ
theorem mergeE_self : ∀ {μ : List Mo} {ρ : List D}, mergeE μ ρ ρ = ρ
  | [], ρ => by unfold mergeE; rfl
  | m :: μ, [] => by unfold mergeE; rfl
  | m :: μ, d :: ρ => by
    unfold mergeE
    rw [mergeE_self]
    split <;> rfl
theorem mergeE_len : ∀ {μ : List Mo} {ρ ρ' : List D}, (mergeE μ ρ ρ').length = ρ.length
  | [], ρ, ρ' => by unfold mergeE; rfl
  | m :: μ, [], ρ' => by unfold mergeE; rfl
  | m :: μ, d :: ρ, [] => by unfold mergeE; rfl
  | m :: μ, d :: ρ, d' :: ρ' => by
    unfold mergeE
    simp [mergeE_len (μ := μ)]
theorem mergeE_at : ∀ {μ : List Mo} {ρ ρ' : List D} {i : Nat} {m : Mo}, ρ'.length = ρ.length → μ[i]? = some m → (mergeE μ ρ ρ')[i]? = if isB m then ρ'[i]? else ρ[i]?
  | [], ρ, ρ', i, m, _, h => by simp at h
  | m0 :: μ, [], ρ', i, m, hl, h => by
    have : ρ' = [] := List.length_eq_zero_iff.mp hl
    subst this
    unfold mergeE; simp
  | m0 :: μ, d :: ρ, [], i, m, hl, h => by cases hl
  | m0 :: μ, d :: ρ, d' :: ρ', 0, m, hl, h => by
    simp at h; subst h
    unfold mergeE
    simp only [List.getElem?_cons_zero]
    split <;> rfl
  | m0 :: μ, d :: ρ, d' :: ρ', i + 1, m, hl, h => by
    unfold mergeE
    simp only [List.getElem?_cons_succ]
    exact mergeE_at (by simpa using hl) (by simpa using h)
section
variable {κ : Kit} {R H R' H' : Hp} {μ : List Mo} {ρ ρ' : List D} {σ : St} {fps fps' : Fps}
theorem repM_lam {m : Mo} {d : D} {v : V} {f : List Addr} : RepM κ R H (lamMo m) d v f = RepM κ R H m d v f := by cases m <;> rfl
theorem slotR_lam {m : Mo} {d : D} {x : Option (Option V)} {f : List Addr} : SlotR κ R H (lamMo m) d x f = SlotR κ R H m d x f := by
  cases m <;> (unfold SlotR; simp [lamMo]; try rfl)
theorem Wd.lam (w : Wd κ R μ ρ σ H fps) : Wd κ R (μ.map lamMo) ρ σ H fps :=
  ⟨w.sub, by rw [List.length_map]; exact w.len1, by rw [List.length_map]; exact w.len2, fun i m d h1 h2 => by
    rw [List.getElem?_map, Option.map_eq_some_iff] at h1
    obtain ⟨m0, e, rfl⟩ := h1
    rw [slotR_lam]
    exact w.rep i m0 d e h2, fun i hi => w.out i (by rw [List.length_map] at hi; exact hi), w.dis1, w.dis2, w.nd, w.tab, w.tab1, w.tab2⟩
theorem Wd.unlam (w : Wd κ R (μ.map lamMo) ρ σ H fps) : Wd κ R μ ρ σ H fps :=
  ⟨w.sub, by rw [w.len1, List.length_map], by rw [w.len2, List.length_map], fun i m d h1 h2 => by
    have := w.rep i (lamMo m) d (by rw [List.getElem?_map, h1]; rfl) h2
    rwa [slotR_lam] at this, fun i hi => w.out i (by rw [List.length_map]; exact hi), w.dis1, w.dis2, w.nd, w.tab, w.tab1, w.tab2⟩
def noOwn : Mo → Bool
  | .O _ => false
  | .P _ _ => false
  | _ => true
theorem noOwn_lam {m : Mo} : noOwn (lamMo m) = true := by cases m <;> rfl
/-- behind an exception: what was lent is as it was left, what was shared is as it was -/
theorem Wd.merge (w : Wd κ R μ ρ σ H fps) (hn : ∀ m ∈ μ, noOwn m = true) (w' : Wd κ R' (bOnly μ) ρ' σ H' fps') (s : Sub R R') : Wd κ R' μ (mergeE μ ρ ρ') σ H' fps' where
  sub := w'.sub
  len1 := w.len1
  len2 := by rw [mergeE_len]; exact w.len2
  rep := fun i m d h1 h2 => by
    have hl : ρ'.length = ρ.length := by rw [w'.len2, w.len2]; simp [bOnly]
    rw [mergeE_at hl h1] at h2
    have hi := (List.getElem?_eq_some_iff.mp h1).1
    have eb : (bOnly μ)[i]? = some (if isB m then m else .U) := by simp [bOnly, h1]
    obtain ⟨mb, db, em, ed, rb⟩ := w'.slot (i := i) (by simpa [bOnly] using hi)
    rw [eb] at em; cases em
    cases hb : isB m with
    | true =>
      rw [hb] at h2 rb
      simp only [if_true] at h2 rb
      rw [ed] at h2; cases h2
      exact rb
    | false =>
      rw [hb] at h2 rb
      simp only [Bool.false_eq_true, if_false] at h2 rb
      have f0 : fps' i = [] := by unfold SlotR at rb; rwa [if_pos rfl] at rb
      have r := w.rep i m d h1 h2
      rw [f0]
      have hm := hn m (List.mem_of_getElem? h1)
      unfold SlotR at r ⊢
      cases m with
      | U => rw [if_pos rfl]
      | S =>
        rw [if_neg (by decide)] at *
        obtain ⟨v, e, rf, r⟩ := r
        exact ⟨v, e, rfl, r.mono s⟩
      | Q =>
        rw [if_neg (by decide)] at *
        obtain ⟨v, e, r⟩ := r
        refine ⟨v, e, ?_⟩
        cases d with
        | lst ds =>
          obtain ⟨_, a, vs, e1, e2, t⟩ := r
          exact ⟨rfl, a, vs, e1, sqL_mono s e2, t.mono s⟩
        | _ => exact r.elim
      | B m0 => cases hb
      | O m0 => cases hm
      | P i0 m0 => cases hm
  out := fun i hi => w'.out i (by simpa [bOnly] using hi)
  dis1 := w'.dis1
  dis2 := w'.dis2
  nd := w'.nd
  tab := w'.tab
  tab1 := w'.tab1
  tab2 := w'.tab2
end
/-- the def that gets the lambda -/
structure RdV (S : Sta) (x a : Str) (bg : List Stmt) (sg : Scope) : Prop where
  ex : ∃ (g : Addr) (oc : Value) (od : Option Addr) (pg : Arguments) (dV kV doc pm : Value) (an : Option Addr) (cdv ct : Value) (osl : Array (Option Value)), S.mg x = some (.ref g) ∧ PySem.W.keepIn S.κ.K (.ref g) = true ∧
    S.κ.K.lookup g = some ⟨oc, od, .func (PySem.W.fnOf x x pg bg sg dV kV doc pm an cdv ct), osl⟩ ∧ PySem.W.codeIn S.κ.K cdv x = true ∧ L2.Binds S.κ.K (PySem.W.fnOf x x pg bg sg dV kV doc pm an cdv ct) [a] []
/-- the class that an except clause names, and what it catches -/
structure ExV (S : Sta) (h : Str) (m : Str → Option Bool) : Prop where
  ex : ∃ c, S.mg h = some c ∧ ∀ n b, m n = some b → PySem.W.exmOne S.κ.K (S.ec n) c = some b
/-- the tables of the lambdas that a def makes -/
structure LmV (S : Sta) (q : Str) (c : Addr) : Prop where
  lm : S.lm = some (q, c)
  ex : ∃ P, LamX.TabB S.base S.mg c P ∧ (P, q ++ "<lambda>") ∈ S.κ.T ∧ ∀ p : Addr × Str, p ∈ S.κ.T → p.1 = P → p.2 = q ++ "<lambda>"
def readM (μ : List Mo) (m1 m2 : Str → Option Bool) (r0 r1 r2 : Str) (FB : M D) : M D := fun ρ => match FB ρ with
  | .ok d ρ' => .ok (.tup [.str r0, d]) ρ'
  | .err c ρ' => match m1 c with
    | some true => .ok (.tup [.str r1, .non]) (mergeE (μ.map lamMo) ρ ρ')
    | some false => (match m2 c with
      | some true => .ok (.tup [.str r2, .non]) (mergeE (μ.map lamMo) ρ ρ')
      | _ => .stuck)
    | none => .stuck
  | .stuck => .stuck
section
variable {S : Sta} {μ : List Mo} {x a q h1 h2 r0 r1 r2 : Str} {c : Addr} {sg scope : Scope} {Ng : List Str} {params : Arguments} {body : Expr} {p lpos pos : Pos} {k : Nat} {FB : M D} {m1 m2 : Str → Option Bool} {j0 j1 j2 j3 j4 k0 k1 k2 : Nat} {p1 p2 p3 p4 p5 p6 p7 p8 p9 p10 p11 p12 p13 p14 p15 p16 p17 p18 : Pos}
theorem de_lread (r : RdV S x a [.Try [.Return (some (.Tuple [.Constant (.str r0) j0 p1, .Call (.Name a p2) [] [] p3] k0 p4)) p5]
      [.ExceptHandler (some (.Name h1 p6)) none [.Return (some (.Tuple [.Constant (.str r1) j1 p7, .Constant .none j2 p8] k1 p9)) p10] p11, .ExceptHandler (some (.Name h2 p12)) none [.Return (some (.Tuple [.Constant (.str r2) j3 p13, .Constant .none j4 p14] k2 p15)) p16] p17] [] [] p18] sg)
    (L : LmV S q c) (X1 : ExV S h1 m1) (X2 : ExV S h2 m2)
    (Sg : FnScope Ng [a] sg) (he : DE (lamS S scope k) (μ.map lamMo) body .S (μ.map lamMo) FB) (hk : k + 2 ≤ S.k := by exact Nat.le_of_ble_eq_true rfl) (hL : LamX.lamSB S.sc scope = true := by kernel_rfl) (hNg : Ng[0]? = some a := by rfl) (hva : Vis sg a := by first | exact Or.inl rfl | exact Or.inr (Or.inl rfl))
    (hg1 : sg.names.lookup h1 = some .globalImplicit := by rfl) (hg2 : sg.names.lookup h2 = some .globalImplicit := by rfl) (hg : S.sc.names.lookup x = some .globalImplicit := by rfl)
    (hdef : ∀ env, defaultsOf params env = ([], []) := by intro _; rfl) (hbind : ∀ (q : Str) (cl : List (Str × Addr)) (pm cv ctv : Value), bindArgs (PySem.W.kla_fn "<lambda>" q params body scope cl pm cv ctv) ⟨[], []⟩ = pure [] := by intros; rfl)
    (hd1 : (h1 == ("__debug__" : Str)) = false := by decide) (hd2 : (h2 == ("__debug__" : Str)) = false := by decide) (hdb : (x == ("__debug__" : Str)) = false := by decide) (hd : (a == ("__debug__" : Str)) = false := by decide) (hcd : (a == ("__classdict__" : Str)) = false := by decide) :
    DE S μ (.Call (.Name x p) [.Lambda params body scope lpos] [] pos) .S μ (readM μ m1 m2 r0 r1 r2 FB) where
  bo := rfl
  ex := by
    obtain ⟨te, pe, se⟩ := he.ex
    obtain ⟨g, oc, od, pg, dV, kV, doc, pm, an, cdv, ct, osl, hm, hkp, lk, hcg, hb⟩ := r.ex
    obtain ⟨P, TB, hmT, hu⟩ := L.ex
    obtain ⟨c1, hm1, e1⟩ := X1.ex
    obtain ⟨c2, hm2, e2⟩ := X2.ex
    refine ⟨fun W => LamX.tLam S.κ.T (TRead S.κ.K c1 c2 r0 r1 r2) (fun E => te (fun cls d _ H => E cls d H)), fun W X cf => ?_, fun W R H σ ρ fps Q w h => ?_⟩
    · have hg' : Gl X x := gl_of cf.sc hg
      obtain ⟨q1, q2⟩ := cf.lm _ _ L.lm
      have room := cf.room.mono hk
      have sc := cf.sc
      have nd := cf.nd
      obtain ⟨A, s0, H0, env, outer, stack, ex, fn, pn, xe, rfl⟩ := cf.shape
      have q1 : env.qual = q := q1
      have sc : env.scope = S.sc := sc
      have h0 : ∀ f : Addr, (L2.start Ng [V.ref f])[0]? = some (some (V.ref f)) := fun f => rfl
      refine LamX.pe_lamcall (c := c) (P := P) hg' hm hkp lk hcg hb Sg hNg hva (read_gives hg1 hm1 hd1 hg2 hm2 hd2 h0) TB q2 (by show (P, env.qual ++ "<lambda>") ∈ _; rw [q1]; exact hmT) (by show ∀ p : Addr × Str, p ∈ _ → p.1 = P → p.2 = env.qual ++ "<lambda>"; rw [q1]; exact hu) room
        (by show LamX.LamS env.scope scope; rw [sc]; exact LamX.lamS_by hL) (hdef _) hbind (fun A' outer' s' H' E f c' hr => ?_) hdb hd hcd
      exact pe _ _ ⟨⟨_, _, _, _, _, _, _, _, _, _, rfl⟩, rfl, nd, hr, fun _ z => (nomatch z), passes_of rfl, takes_of rfl rfl rfl rfl, fun _ => ⟨rfl, rfl⟩, fun z => (nomatch z), fun _ _ z => (nomatch z)⟩
    · refine ⟨w.tab, fun H1 eN T1 => ?_⟩
      obtain ⟨w1, x1⟩ := w.extN eN T1
      have z2 : 2 ≤ sizeLine := by decide
      show te _ σ H1 _
      refine se _ R H1 σ ρ fps _ w1.lam ?_
      unfold readM at h
      have fin : ∀ {r : Str} {d : D} {v : V} {ρ' : List D} {R' H' : Hp} {fps' : Fps}, PostE S μ .S μ R H σ fps W Q (.ok (.tup [.str r, d]) ρ') → Wd S.κ R' μ ρ' σ H' fps' → Rep S.κ.K S.κ.C R' d v → Ext S.κ R H1 fps R' H' fps' [] → pairQ Q r v H' := fun {r d v ρ' R' H' fps'} h w' rv x' => by
        refine ⟨z2, fun p hp => ?_⟩
        have s1 : Sub R' (upd R' p (.tup [.str r, v])) := Sub.new (w'.sub.free hp)
        exact h _ _ _ fps' [] (w'.newS hp) ⟨rfl, rep_tup (SqT.of upd_same) (.cons rep_str (.cons (rv.mono s1) .nil))⟩ Tmp.nil ((x1.trans x').trans (Ext.newS w'.sub hp))
      cases eF : FB ρ with
      | stuck => rw [eF] at h; exact h.elim
      | ok d ρ' =>
        rw [eF] at h
        intro v R' H' fps' tf w' rv t x'
        obtain ⟨et, rv⟩ := rv
        subst et
        exact fin h w'.unlam rv x'
      | err n ρ' =>
        rw [eF] at h
        intro R' H' fps' w' x'
        have wm : Wd S.κ R' μ (mergeE (μ.map lamMo) ρ ρ') σ H' fps' := (w1.lam.merge (fun m hm => by obtain ⟨m0, _, rfl⟩ := List.mem_map.mp hm; exact noOwn_lam) w' x'.sub).unlam
        simp only at h
        cases en : m1 n with
        | none => rw [en] at h; exact h.elim
        | some b =>
          rw [en] at h
          refine ⟨b, e1 n b en, fun hb => ?_, fun hb => ?_⟩
          · subst hb; exact fin h wm rep_non x'
          · subst hb
            cases en2 : m2 n with
            | none => simp only [en2] at h; exact h.elim
            | some b2 =>
              simp only [en2] at h
              cases b2 with
              | false => exact h.elim
              | true => exact ⟨true, e2 n true en2, fun _ => fin h wm rep_non x', fun z => nomatch z⟩
end
end VL

namespace VL
open PySem L2

/-! ### what a def of the text is known of -/
structure DefV (S : Sta) (x : Str) (st : Stmt) (ps : List Str) : Prop where
  ex : ∃ (f : Addr) (fd : FuncData), C8.Def S.κ.K S.mg x st f fd ∧ L2.Binds S.κ.K fd ps []
theorem calV_of {S : Sta} {x : Str} {st : Stmt} {ps : List Str} {pm : List Mo} {mr : Mo} {μ' : List Mo} {G : M Fl} {nx : Bool} {j : Nat} (h : DefV S x st ps) (Sc : FnScope S.N ps (C8.fnScope st)) (hsc : S.sc = C8.fnScope st) (hN : S.N.length = pm.length + j) (hps : pm.length = ps.length)
    (hnx : nx = true → mr = .S) (hlm : S.lm = none) (hB : DB S ⟨mr, [], []⟩ (pm ++ List.replicate j .U) (C8.fnBody st) μ' G) : CalV S (S.k + 1) x pm mr (funF nx S.N.length pm.length G) := by
  obtain ⟨f, fd, d, b⟩ := h.ex
  obtain ⟨oc, od, dV, kV, doc, pmv, an, cdv, ct, osl, rfl, lk, hcd⟩ := d.fn.ex
  exact ⟨f, _, ps, fnV_of lk hcd Sc hsc hN hps (fun q c z => by rw [hlm] at z; cases z) hnx hB, d.mgf, d.kp, b⟩
/-- a constant of the module -/
structure GlbV (S : Sta) (x : Str) (d : D) : Prop where
  ex : ∃ (v : V) (u : Value), S.mg x = some u ∧ RelV v u ∧ ∀ K C R, Rep K C R d v
section
variable {S : Sta} {J : Jmp} {μ μ1 μ2 μ' : List Mo} {pos p p1 : Pos} {m : Mo}
theorem de_gl {x : Str} {d : D} (h : GlbV S x d) (hg : S.sc.names.lookup x = some .globalImplicit := by rfl) (hd : (x == ("__debug__" : Str)) = false := by decide) : DE S μ (.Name x pos) .S μ (ret d) := by
  obtain ⟨v, u, hm, r, hr⟩ := h.ex
  exact de_glob hg hm r hr hd
/-! ### facts of the text, told of a def's own still parts -/
structure SameZ (Z S : Sta) : Prop where
  prog : S.prog = Z.prog
  w : S.w = Z.w
  κ : S.κ = Z.κ
  mg : S.mg = Z.mg
  base : S.base = Z.base
  ec : S.ec = Z.ec
theorem CalV.to {Z S : Sta} {k : Nat} {x : Str} {pm : List Mo} {mr : Mo} {F : List D → Out D} (c : CalV Z k x pm mr F) (e : SameZ Z S := by exact ⟨rfl, rfl, rfl, rfl, rfl, rfl⟩) (g : S.gd = Z.gd := by rfl) : CalV S k x pm mr F := by
  obtain ⟨e1, e2, e3, e4, e5, e6⟩ := e
  refine ⟨?_⟩
  rw [e1, e2, e3, e4, e5, e6, g]
  exact c.ex
theorem RzV.to {Z S : Sta} {x n : Str} (c : RzV Z x n) (e : SameZ Z S := by exact ⟨rfl, rfl, rfl, rfl, rfl, rfl⟩) : RzV S x n := by
  obtain ⟨e1, e2, e3, e4, e5, e6⟩ := e
  refine ⟨?_⟩
  rw [e3, e4, e6]
  exact c.ex
theorem GlbV.to {Z S : Sta} {x : Str} {d : D} (c : GlbV Z x d) (e : SameZ Z S := by exact ⟨rfl, rfl, rfl, rfl, rfl, rfl⟩) : GlbV S x d := by
  obtain ⟨e1, e2, e3, e4, e5, e6⟩ := e
  refine ⟨?_⟩
  rw [e4]
  exact c.ex
theorem RdV.to {Z S : Sta} {x a : Str} {bg : List Stmt} {sg : Scope} (c : RdV Z x a bg sg) (e : SameZ Z S := by exact ⟨rfl, rfl, rfl, rfl, rfl, rfl⟩) : RdV S x a bg sg := by
  obtain ⟨e1, e2, e3, e4, e5, e6⟩ := e
  refine ⟨?_⟩
  rw [e3, e4]
  exact c.ex
theorem ExV.to {Z S : Sta} {h : Str} {mm : Str → Option Bool} (c : ExV Z h mm) (e : SameZ Z S := by exact ⟨rfl, rfl, rfl, rfl, rfl, rfl⟩) : ExV S h mm := by
  obtain ⟨e1, e2, e3, e4, e5, e6⟩ := e
  refine ⟨?_⟩
  rw [e3, e4, e6]
  exact c.ex
theorem LmV.to {Z S : Sta} {q : Str} {c : Addr} (l : LmV Z q c) (e : SameZ Z S := by exact ⟨rfl, rfl, rfl, rfl, rfl, rfl⟩) (g : S.lm = Z.lm := by rfl) : LmV S q c := by
  obtain ⟨e1, e2, e3, e4, e5, e6⟩ := e
  refine ⟨by rw [g]; exact l.lm, ?_⟩
  rw [e3, e4, e5]
  exact l.ex
/-! ### the length of a list that a name owns -/
theorem de_lenO (j : Nat) {x : Str} (hmg : S.mg "len" = none) (hm : μ[j]? = some m := by rfl) (hr : readL m = true := by decide) (hN : S.N[j]? = some x := by rfl) (hv : Vis S.sc x := by first | exact Or.inl rfl | exact Or.inr (Or.inl rfl) | exact Or.inr (Or.inr rfl))
    (hg : S.sc.names.lookup ("len" : Str) = some .globalImplicit := by rfl) (hd : (x == ("__debug__" : Str)) = false := by decide) (hcd : (x == ("__classdict__" : Str)) = false := by decide)
    (he : ∀ env, starEach [.Name x p1] env = (false, eval (.Name x p1) env) :: starEach [] env := by intro _; rfl) :
    DE S μ (.Call (.Name "len" p) [.Name x p1] [] pos) .S μ (bnd (eVar j) fun x => VL.guard (isLst x) (opt (lenD [x]))) where
  bo := rfl
  ex := by
    refine ⟨fun W => tCB (fun xs H Q => ∃ x n, xs = [x] ∧ LenV S.κ.K x H n ∧ Q (.int n) H) (tCons (tVar j) tNil), fun W X c => ?_, fun W R H σ ρ fps Q w h => ?_⟩
    · have v := vis_of c.sc hv
      have hg' : Gl X "len" := gl_of c.sc hg
      obtain ⟨A, s0, H0, env, outer, stack, ex, fn, pn, xe, rfl⟩ := c.shape
      exact pe_callB call_len hg' hmg (by decide +kernel) (pa_cons (pe_var hN v hd hcd) pa_nil (he _)) (by decide) (by decide) (he _) (by rfl)
    · obtain ⟨m1, d1, em1, ed1, _⟩ := w.slot (List.getElem?_eq_some_iff.mp hm).1
      rw [eVar_bnd ed1] at h
      obtain ⟨hb, h⟩ := h.guard'
      cases d1 <;> simp only [isLst] at hb <;> first | (cases hb; done) | skip
      obtain ⟨a, vs, ev, hq, r⟩ := w.readL hm hr ed1
      refine ⟨_, ev, V.ref a, vs.length, rfl, ?_, ?_⟩
      · exact .inl ⟨vs, hq, rfl⟩
      · have h2 : PostE S μ .S μ R H σ fps W Q (.ok (.int ((vs.length : Nat) : Int)) ρ) := by
          have e : lenD [.lst ‹List D›] = some (.int ((vs.length : Nat) : Int)) := by simp only [lenD, r.length]
          rw [e] at h
          exact h
        exact h2 _ R H fps [] w ⟨rfl, rep_int⟩ Tmp.nil Ext.refl
/-! ### functions of one, of two arguments -/
def one (g : D → Option D) : List D → Option D
  | [x] => g x
  | _ => none
def two (g : D → D → Option D) : List D → Option D
  | [x, y] => g x y
  | _ => none
theorem CallD.to1 {fv : Value} {f : List D → Option D} {g : D → Option D} (h : CallD S fv m f) (e1 : ∀ x, f [x] = g x) (e0 : ∀ xs, xs.length ≠ 1 → f xs = none) : CallD S fv m (one g) := by
  have : f = one g := by
    funext xs
    match xs with
    | [] => exact e0 _ (by simp)
    | [x] => exact e1 x
    | x :: y :: r => exact e0 _ (by simp)
  rw [← this]; exact h
theorem CallD.to2 {fv : Value} {f : List D → Option D} {g : D → D → Option D} (h : CallD S fv m f) (e1 : ∀ x y, f [x, y] = g x y) (e0 : ∀ xs, xs.length ≠ 2 → f xs = none) : CallD S fv m (two g) := by
  have : f = two g := by
    funext xs
    match xs with
    | [] => exact e0 _ (by simp)
    | [x] => exact e0 _ (by simp)
    | [x, y] => exact e1 x y
    | x :: y :: z :: r => exact e0 _ (by simp)
  rw [← this]; exact h
theorem len1 {xs : List D} (h : xs.length ≠ 1) {g : D → Option D} : one g xs = none := by
  match xs, h with
  | [], _ => rfl
  | [x], h => exact absurd rfl h
  | _ :: _ :: _, _ => rfl
theorem g_abs : CallD S (.builtin "abs") .S (one absD) := f_abs.to1 (fun _ => rfl) fun xs h => by match xs, h with | [], _ => rfl | [x], h => exact absurd rfl h | _ :: _ :: _, _ => rfl
theorem g_int : CallD S (.type "int") .S (one intD) := f_int.to1 (fun _ => rfl) fun xs h => by match xs, h with | [], _ => rfl | [x], h => exact absurd rfl h | _ :: _ :: _, _ => rfl
theorem g_intS : CallD S (.type "int") .S (one intSD) := f_intS.to1 (fun _ => rfl) fun xs h => by match xs, h with | [], _ => rfl | [x], h => exact absurd rfl h | _ :: _ :: _, _ => rfl
theorem g_str : CallD S (.type "str") .S (one strD) := f_str.to1 (fun _ => rfl) fun xs h => by match xs, h with | [], _ => rfl | [x], h => exact absurd rfl h | _ :: _ :: _, _ => rfl
theorem g_bool : CallD S (.type "bool") .S (one boolD) := f_bool.to1 (fun _ => rfl) fun xs h => by match xs, h with | [], _ => rfl | [x], h => exact absurd rfl h | _ :: _ :: _, _ => rfl
theorem g_sum : CallD S (.builtin "sum") .S (one sumD) := f_sum.to1 (fun _ => rfl) fun xs h => by match xs, h with | [], _ => rfl | [x], h => exact absurd rfl h | _ :: _ :: _, _ => rfl
theorem g_all : CallD S (.builtin "all") .S (one allD) := f_all.to1 (fun _ => rfl) fun xs h => by match xs, h with | [], _ => rfl | [x], h => exact absurd rfl h | _ :: _ :: _, _ => rfl
theorem g_any : CallD S (.builtin "any") .S (one anyD) := f_any.to1 (fun _ => rfl) fun xs h => by match xs, h with | [], _ => rfl | [x], h => exact absurd rfl h | _ :: _ :: _, _ => rfl
theorem g_max2 : CallD S (.builtin "max") .S (two max2D) := f_max2.to2 (fun _ _ => rfl) fun xs h => by match xs, h with | [], _ => rfl | [x], _ => rfl | [x, y], h => exact absurd rfl h | _ :: _ :: _ :: _, _ => rfl
theorem g_min2 : CallD S (.builtin "min") .S (two min2D) := f_min2.to2 (fun _ _ => rfl) fun xs h => by match xs, h with | [], _ => rfl | [x], _ => rfl | [x, y], h => exact absurd rfl h | _ :: _ :: _ :: _, _ => rfl
end
section
variable {S : Sta} {J : Jmp} {μ μ1 μ2 μ' : List Mo} {pos pos' spos p p1 : Pos} {m : Mo}
/-- name = [elt for tg in iter if ..], on one line, the name a plain local -/
theorem ds_setLc (i : Nat) {y : Str} {m0 : Mo} {tg elt iter : Expr} {ifs : List Expr} {scope : Scope} {is : List Nat} {own : List (Str × Nat)} {μb μe : List Mo} {Gt : GT} {Fi : M (List D)} {T : M Bool} {B : M D} (hi : DI S μ tg iter μ1 Fi) (hg : DG (blkS S scope) μ1 tg is μb Gt) (ht : DF (blkS S scope) μb ifs T) (he : DE (blkS S scope) μb elt .S μe B)
    (hm : μ1[i]? = some m0 := by rfl) (hb : isB m0 = false := by rfl) (hN : S.N[i]? = some y := by rfl) (hyl : S.sc.names.lookup y = some .local := by rfl) (hkd : S.sc.kind = .function := by rfl) (hln : (pos'.line == pos.line) = true := by rfl) (hany : (scope.names.any fun (n, k) => n == y && (k == .local || k == .cell)) = false := by rfl)
    (hown : own.map (·.2) = is := by rfl) (hbk : blkC S.N S.sc scope own = true := by kernel_rfl) (hU : (is.all fun i => decide (μ1[i]? = some .U)) = true := by decide) (hE : setU is μe = μ1 := by rfl) (hE2 : setU is μb = μ1 := by rfl)
    (hs : ∀ env x, foldedSetIterable iter env x = pure x := by intro _ _; rfl) :
    DS S J μ (.Assign [.Name y pos'] (.ListComp elt [⟨tg, iter, ifs, 0⟩] scope pos) spos) (μ1.set i (.O .S)) (bnd (bnd Fi fun ds => VL.guard (decide (ds.length ≤ sizeLine)) (bnd (lcM Gt T B is ds) fun ys => ret (.lst ys))) fun d => bnd (setS i d) fun _ => ret .nx) where
  bo := (bOnly_set hm hb rfl).trans hi.bo
  ex := by
    have hbo := hi.bo
    obtain ⟨wi, pi, si⟩ := hi.ex
    obtain ⟨g, pg, sg⟩ := hg.ex
    obtain ⟨tt, pt, st⟩ := ht.ex
    obtain ⟨te, pe, se⟩ := he.ex
    refine ⟨fun W => tAsg (tLc (wi W) g (tt W0) (te W0) (own.map (·.2))) (gName i), fun W X c => ?_, fun W R H σ ρ fps E w h => ?_⟩
    · have pi := pi W X c
      have nd := c.nd
      have e := c.sc
      have pg := fun s H C cl fp => pg W0 _ (c.blk (scope := scope) (s := s) (H := H) (C := C) (cl := cl) (fp := fp))
      have pt := fun s H C cl fp => pt W0 _ (c.blk (scope := scope) (s := s) (H := H) (C := C) (cl := cl) (fp := fp))
      have pe := fun s H C cl fp => pe W0 _ (c.blk (scope := scope) (s := s) (H := H) (C := C) (cl := cl) (fp := fp))
      obtain ⟨A, s0, H0, env, outer, stack, ex, fn, pn, xe, rfl⟩ := c.shape
      have e : env.scope = S.sc := e
      exact ps_setLc rfl nd hN (by rw [show env.scope = S.sc from e]; exact hyl) (sw_true (by rw [show env.scope = S.sc from e]; exact hkd) (by rw [show env.scope = S.sc from e]; exact hyl) hln hany) pi (by rw [show env.scope = S.sc from e]; exact blkOk_by hbk) pg pt pe (hs _)
    · -- the list's reading, then the name
      have key : ∀ Q : VK, PostE S μ (.O .S) μ1 R H σ fps W Q ((bnd Fi fun ds => VL.guard (decide (ds.length ≤ sizeLine)) (bnd (lcM Gt T B is ds) fun ys => ret (.lst ys))) ρ) → tLc (wi W) g (tt W0) (te W0) (own.map (·.2)) σ H Q := fun Q h => by
        refine si W R H σ ρ fps _ w ?_
        unfold bnd at h
        cases eF : Fi ρ with
        | stuck => rw [eF] at h; exact h.elim
        | err c ρ' => rw [eF] at h; exact h
        | ok ds ρ0 =>
          rw [eF] at h
          intro It0 R0 H0 fps0 w0 x0 ok0 p hp
          obtain ⟨hz, h⟩ := PostE.guard' h
          have hz := of_decide_eq_true hz
          rw [hown]
          exact lc_sound hg sg (fun R H σ ρ fps Q => st W0 R H σ ρ fps Q) (fun R H σ ρ fps Q => se W0 R H σ ρ fps Q) hU hE hE2 hbo w0 x0 ok0 hz h p hp fun ys vs ρ' R' H' fps' w' e' r' t' x' h' => h' _ R' H' fps' [p] w' (repM_OS' e' r') t' x'
      refine key _ (h.bind fun d ρ1 h v R1 H1 fps1 tf w1 r1 t1 x1 => ?_)
      have hi1 := (List.getElem?_eq_some_iff.mp hm).1
      obtain ⟨m', e', hb'⟩ := bOnly_at hbo hm hb
      exact h _ R1 H1 _ (w1.store hi1 r1 t1) x1.store (sameB_set e' hb')
end
end VL

namespace VL
open PySem L2 PySem.Spec

/-! ### the end: a law's def, called with the script, from the caller of the row -/
section
variable {P : Program} {w : World} {K : PySem.W.Frag} {mg mb : Str → Option Value} {k : Nat} {fa a : Addr} {cs : List (Addr × Addr)} {fd : FuncData} {x : Str} {sp : Sp} {s1 : Shared} {vs : List Value} {ns : List Int}
/-- the empty table of a code object, the script -/
abbrev tabO : Obj := { cls := .none, data := .fields #[] }
abbrev scrO (vs : List Value) : Obj := { cls := .type "list", data := .seq vs.toArray }
/-- what is tracked at the call: the tables, the script where the written part does not hold it -/
def hpL (K : PySem.W.Frag) (cs : List (Addr × Addr)) (a : Addr) (vs : List Value) (ns : List Int) : Hp := fun b =>
  if b ∈ cs.map (·.2) then some (.tbl #[]) else if b = a ∧ (K.lookup a).isNone = true then some (.frz (scrO vs) (.lst (ns.map V.int))) else none
theorem hpL_cases {b : Addr} {u : HO} (h : hpL K cs a vs ns b = some u) : (b ∈ cs.map (·.2) ∧ u = .tbl #[]) ∨ (b = a ∧ K.lookup a = none ∧ u = .frz (scrO vs) (.lst (ns.map V.int))) := by
  unfold hpL at h
  by_cases h1 : b ∈ cs.map (·.2)
  · rw [if_pos h1] at h; cases h; exact .inl ⟨h1, rfl⟩
  · rw [if_neg h1] at h
    by_cases h2 : b = a ∧ (K.lookup a).isNone = true
    · rw [if_pos h2] at h; cases h; exact .inr ⟨h2.1, by simpa using h2.2, rfl⟩
    · rw [if_neg h2] at h; cases h
theorem law_callV (KX : K.In s1.heap) (hns : s1.heap.Ns mainGlobals mg) (hb : s1.heap.Ns builtinsNs mb) (hbb : ∀ x : Str, x ≠ "__name__" → mb x = bootBuiltins x) (hlim : s1.heap.NoLimit) (hg : s1.gens = #[])
    (hT : ∀ p ∈ cs, s1.heap.get? p.2 = some tabO) (nT : ∀ p ∈ cs, K.lookup p.2 = none) (C : ∀ p ∈ cs, PySem.W.CodeHd s1.heap p.1 p.2)
    (hbm : ∃ (bm : Addr) (ob : Obj), mg "__builtins__" = some (.ref bm) ∧ bm ≠ builtinsNs ∧ s1.heap.get? bm = some ob ∧ ob.cls = .type "module" ∧ ob.dict = some builtinsNs ∧ ob.data = .plain)
    (ha : s1.heap.get? a = some (scrO vs)) (hi : PyProof.Rows.IntsAre vs ns) (hl : ns.length ≤ sizeLine) (hr : Room k callerA)
    (F : ∀ base : Heap, K.In base → base.Ns mainGlobals mg → (∀ p ∈ cs, LamX.TabB base mg p.1 p.2) → FnV P w K mg base k true fa fd [x] sp) (hbind : ∀ (s : Shared) (u : Value), BindsTo s fd ⟨[u], []⟩ [(x, u)])
    (hsp : ∀ H : Hp, (∀ p ∈ cs, H p.2 = some (.tbl #[])) → (∀ b o, H b = some o → (∃ p ∈ cs, p.2 = b) ∨ b = a) → SqL K H a (ns.map V.int) → sp [.ref a] H (fun v _ => v = .bl true) fun _ _ _ => False) :
    codeAny (model P w) callerA (.call (.ref fa) ⟨[.ref a], []⟩) (fun r s' => r = .ok (.ret (.bool true)) ∧ OldK s1.heap s'.heap ∧ s'.os = s1.os ∧ PyProof.Rows.AllBare s'.gens) s1 := by
  have rv := vals_ints hi
  have inT : ∀ b, b ∈ cs.map (·.2) → ∃ p ∈ cs, p.2 = b := fun b hb => let ⟨p, hp, e⟩ := List.mem_map.mp hb; ⟨p, hp, e⟩
  have getT : ∀ b, b ∈ cs.map (·.2) → s1.heap.get? b = some tabO := fun b hb => by
    obtain ⟨p, hp, rfl⟩ := inT b hb
    exact hT p hp
  have aT : a ∉ cs.map (·.2) := fun z => by
    have q := getT a z
    rw [ha] at q
    exact absurd (congrArg Obj.data (Option.some.inj q)) (by intro z; cases z)
  generalize hH : hpL K cs a vs ns = H
  have cs1 : ∀ {b u}, H b = some u → (b ∈ cs.map (·.2) ∧ u = .tbl #[]) ∨ (b = a ∧ K.lookup a = none ∧ u = .frz (scrO vs) (.lst (ns.map V.int))) := fun {b u} h => hpL_cases (by rw [hH]; exact h)
  have atT : ∀ b, b ∈ cs.map (·.2) → H b = some (.tbl #[]) := fun b hb => by rw [← hH]; exact if_pos hb
  -- an object that is no table and not the script is not tracked
  have free : ∀ {b : Addr} {o : Obj}, s1.heap.get? b = some o → o ≠ tabO → o ≠ scrO vs → H b = none := fun {b o} e n1 n2 => by
    cases q : H b with
    | none => rfl
    | some u =>
      rcases cs1 q with ⟨h, _⟩ | ⟨rfl, _⟩
      · rw [getT b h] at e; exact (n1 (Option.some.inj e).symm).elim
      · rw [ha] at e; exact (n2 (Option.some.inj e).symm).elim
  have dat : ∀ {b : Addr} {o : Obj}, s1.heap.get? b = some o → o.data ≠ .fields #[] → (∀ l n, o.data ≠ .seq l n) → (hidT s1.heap H).get? b = some o := fun {b o} e n1 n2 =>
    hidT_get e (free e (fun z => n1 (by rw [z])) fun z => by subst z; exact n2 _ _ rfl)
  have nsK : ∀ {b : Addr} {m : Str → Option Value}, s1.heap.Ns b m → (hidT s1.heap H).Ns b m := fun {b m} ⟨o, es, ep, e, d, r⟩ => ⟨o, es, ep, dat e (by rw [d]; intro z; cases z) (fun l n => by rw [d]; intro z; cases z), d, r⟩
  have hKb : K.In (hidT s1.heap H) := fun b o e => hidT_get (KX b o e) (by
    cases q : H b with
    | none => rfl
    | some u =>
      rcases cs1 q with ⟨h, _⟩ | ⟨rfl, h, _⟩
      · obtain ⟨p, hp, rfl⟩ := inT b h
        rw [nT p hp] at e; cases e
      · rw [h] at e; cases e)
  have TB : ∀ p ∈ cs, LamX.TabB (hidT s1.heap H) mg p.1 p.2 := fun p hp => by
    refine ⟨?_, ?_, fun z => ?_⟩
    · obtain ⟨o, us, file, tf, flags, tg, inF, text, tt, e1, r1, r2, r3, rr⟩ := C p hp
      exact ⟨o, us, file, tf, flags, tg, inF, text, tt, dat e1 (by rw [r2]; intro z; cases z; simp at r3) (fun l n => by rw [r2]; intro z; cases z), r1, r2, r3, rr⟩
    · obtain ⟨bm, ob, b1, b2, b3, b4, b5, b6⟩ := hbm
      refine ⟨bm, ob, b1, b2, fun q => ?_, fun q => ?_, dat b3 (by rw [b6]; intro z; cases z) (fun l n => by rw [b6]; intro z; cases z), b4, b5, b6⟩
      · obtain ⟨o, es, ep, e, hd, _⟩ := hns
        rw [q, e] at b3; cases b3
        rw [hd] at b6; cases b6
      · rw [q, hT p hp] at b3; cases b3; cases b6
    · obtain ⟨o, es, ep, e, hd, _⟩ := hns
      rw [z, hT p hp] at e; cases e; cases hd
  have hok : HOk P w H s1.heap := fun b u q => by
    rcases cs1 q with ⟨h, rfl⟩ | ⟨rfl, _, rfl⟩
    · exact getT b h
    · exact ⟨ha, by rw [List.length_map]; exact hl, vs, _, rv, ha⟩
  have hS : SqL K H a (ns.map V.int) := by
    cases e : K.lookup a with
    | none =>
      refine .inl (.inr ⟨scrO vs, ?_⟩)
      rw [← hH]
      unfold hpL
      rw [if_neg aT, if_pos ⟨rfl, by rw [e]; rfl⟩]
    | some o =>
      have := KX a o e
      rw [ha] at this; cases this
      exact .inr ⟨_, vs.toArray, _, e, rfl, rfl, rfl, by rw [List.size_toArray, hi.length]; exact hl, by simpa using rv⟩
  have e0 : Env0 P w K mg (hidT s1.heap H) callerA [] s1 H := ⟨rfl, ⟨hKb, nsK hns, ⟨mb, nsK hb, hbb⟩, let ⟨mc, h1, h2⟩ := hlim; ⟨mc, nsK h1, h2⟩⟩, fun b o e => of_hidT e, Nat.le_of_eq (hidT_size _ _), trivial, fun b hb => (nomatch (show b ∈ ([] : List Addr) from hb)), hok, .of_eq hg⟩
  refine codeAny_mono ((F _ hKb (nsK hns) TB).run callerA [] s1 H ⟨[.ref a], []⟩ [.ref a] [.ref a] _ _ hr (fun _ => rfl) e0 (hbind s1 (.ref a)) (.cons rfl .nil) (hsp H (fun p hp => atT _ (List.mem_map.mpr ⟨p, hp, rfl⟩)) (fun b o q => (cs1 q).elim (fun h => .inl (inT b h.1)) fun h => .inr h.1) hS)) fun r s' h => ?_
  match r, h with
  | .error e, h =>
    obtain ⟨_, _, _, _, _, _, _, _, _, _, _, _, z⟩ := h
    exact z.elim
  | .ok (.ret u), h =>
    obtain ⟨v, H', os, bare, un, hok', r', q⟩ := h
    have q' : v = .bl true := q
    subst q'
    obtain rfl : u = Value.bool true := r'
    -- each old object stands as it was, but for the tables, which have grown
    have old : ∀ b o, s1.heap.get? b = some o → b ∉ cs.map (·.2) → s'.heap.get? b = some o := fun b o e nb => by
      cases q : H b with
      | none => exact un.keep b o e q (fun z => nomatch (show b ∈ ([] : List Addr) from z)) (by simp)
      | some u =>
        rcases cs1 q with ⟨h, _⟩ | ⟨rfl, _, rfl⟩
        · exact (nb h).elim
        · rw [ha] at e; cases e
          exact (hok' b _ (un.frzs b _ _ q)).1
    have grown : ∀ p ∈ cs, ∃ more : Array Value, s'.heap.get? p.2 = some { cls := .none, data := .fields more } := fun p hp => by
      obtain ⟨more, z⟩ := un.tbls p.2 #[] (atT _ (List.mem_map.mpr ⟨p, hp, rfl⟩))
      exact ⟨_, hok' p.2 _ z⟩
    refine ⟨rfl, ⟨fun b o e => ?_, fun b o e => ?_⟩, os, bare⟩
    · by_cases hb : b ∈ cs.map (·.2)
      · obtain ⟨p, hp, rfl⟩ := inT b hb
        obtain ⟨more, hm⟩ := grown p hp
        rw [hT p hp] at e; cases e
        exact .inr (.inl ⟨((C p hp).tab (hT p hp)).isCodeTable, rfl, #[], more, rfl, by rw [Array.empty_append]; exact hm⟩)
      · exact .inl (old b o e hb)
    · by_cases hb : b ∈ cs.map (·.2)
      · obtain ⟨p, hp, rfl⟩ := inT b hb
        obtain ⟨more, hm⟩ := grown p hp
        exact ⟨_, hm⟩
      · exact ⟨o, old b o e hb⟩
  | .ok .next, h => exact False.elim h
  | .ok .brk, h => exact False.elim h
  | .ok .cont, h => exact False.elim h
end
/-- the table of the law's own def: empty at the call -/
def OwnT (K : PySem.W.Frag) (fa : Addr) (h : Heap) : Prop := ∀ (c P : Addr) (o : Obj) (fd : FuncData) (e : Value) (dd : Option Addr) (vs : Array Value) (sl : Array (Option Value)), K.lookup fa = some o → o.data = .func fd → fd.code = .ref c → K.lookup c = some ⟨e, dd, .fields vs, sl⟩ → vs[11]? = some (.ref P) →
  h.get? P = some tabO ∧ PySem.W.CodeHd h c P
/-- what is known of the law's def -/
def LawV (l : PySem.W.OpenLaw) (w : World) (K : PySem.W.Frag) (k n : Nat) (x : Str) (mg : Str → Option Value) (fa : Addr) (h : Heap) : Prop :=
  ∃ (fd : FuncData) (cs : List (Addr × Addr)) (sp : Sp), (∀ p ∈ cs, h.get? p.2 = some tabO) ∧ (∀ p ∈ cs, K.lookup p.2 = none) ∧ (∀ p ∈ cs, PySem.W.CodeHd h p.1 p.2) ∧ (∀ (s : Shared) (u : Value), BindsTo s fd ⟨[u], []⟩ [(x, u)]) ∧
    (∀ (H : Hp) (a : Addr) (ns : List Int), ns.length ≤ n → (∀ z ∈ ns, Builtin.Int.intBits z ≤ 1048576) → (∀ p ∈ cs, H p.2 = some (.tbl #[])) → (∀ b o, H b = some o → (∃ p ∈ cs, p.2 = b) ∨ b = a) → SqL K H a (ns.map V.int) → sp [.ref a] H (fun v _ => v = .bl true) fun _ _ _ => False) ∧
    ∀ base : Heap, K.In base → base.Ns mainGlobals mg → (∀ p ∈ cs, LamX.TabB base mg p.1 p.2) → FnV l.prog w K mg base k true fa fd [x] sp
theorem walk_ofV {l : PySem.W.OpenLaw} {n k : Nat} {q : Program} {loose : List Str} {XP : (Str → Option Value) → Heap → Prop} {YP : World → Heap → Prop} {d : DefRec} {K : Params → PySem.W.Frag} {x : Str}
    (hn : l.most = some n) (hn2 : n ≤ sizeLine) (hdf : d.params.defaults = []) (hr : Room k callerA) (hrec : ((PyProof.Rows.recsOf q).any fun e => e.name == d.name) = true) (hY : ∀ (w : World) (h : Heap), YP w h → (K w.params).In h)
    (F : ∀ (w : World) (mg : Str → Option Value) (fa : Addr) (h : Heap), YP w h → (K w.params).In h → h.Ns mainGlobals mg → mg d.name = some (.ref fa) → OwnT (K w.params) fa h → LawV l w (K w.params) k n x mg fa h) :
    PySem.W.WalkO q loose XP YP l.row.toRowW d [] (fun f vs => PySem.call f vs) := by
  refine Att.attach_callB hn hdf fun w s0 s1 mg mb fa o pm cd doc a vs ns G Y ho hd hcd hmg hobj hints hlen hbits hg => ?_
  have KX := hY w _ Y
  have own : OwnT (K w.params) fa s1.heap := fun c P o1 fd1 e dd vs1 sl k1 k2 k3 k4 k5 => by
    obtain ⟨dL, hm, hn1⟩ := List.any_eq_true.mp hrec
    obtain ⟨a', o', fd', c', P', h1, h2, h3, h4, h5, h6⟩ := G.T.tab dL hm
    rw [beq_iff_eq.mp hn1, hmg] at h1
    cases h1
    rw [KX _ _ k1] at h2; cases h2
    rw [k2] at h3; cases h3
    rw [k3] at h4; cases h4
    have hc := PySem.W.CodeHd.of h5 h6
    obtain ⟨⟨oc, vc, e1, _, e3, e4⟩, hP⟩ := h6
    rw [KX _ _ k4] at e1; cases e1
    cases e3
    rw [k5] at e4; cases e4
    exact ⟨hP, hc⟩
  obtain ⟨fd, cs, sp, hT, nT, C, hb, hsp, hF⟩ := F w mg fa _ Y KX G.T.g hmg own
  exact law_callV KX G.T.g G.T.b G.T.builtins G.T.nolimit hg hT nT C G.T.bmain hobj hints (Nat.le_trans hlen hn2) hr hF hb fun H hH hO hS => hsp H a ns hlen hbits hH hO hS
/-- a def that stands behind the top -/
theorem defV_of {Z : Sta} {x : Str} {st : Stmt} {ps : List Str} {f : Addr} {oc kV dc pmv cd ct : Value} {od an : Option Addr} {sl : Array (Option Value)} (a : Z.mg x = some (.ref f)) (l : Z.κ.K.lookup f = some ⟨oc, od, .func (PySem.W.fnOf x x (C8.fnArgs st) (C8.fnBody st) (C8.fnScope st) .none kV dc pmv an cd ct), sl⟩)
    (c : PySem.W.codeIn Z.κ.K cd x = true) (k : PySem.W.keepIn Z.κ.K (.ref f) = true) (b : ∀ (kV doc pm : Value) (an : Option Addr) (cdv ct : Value) (us : List Value), us.length = ps.length → bindArgs (PySem.W.fnOf x x (C8.fnArgs st) (C8.fnBody st) (C8.fnScope st) .none kV doc pm an cdv ct) ⟨us, []⟩ = pure (ps.zip us)) : DefV Z x st ps :=
  have F : C8.Fun Z.κ.K x x st f (PySem.W.fnOf x x (C8.fnArgs st) (C8.fnBody st) (C8.fnScope st) .none kV dc pmv an cd ct) := ⟨oc, od, .none, kV, dc, pmv, an, cd, ct, sl, rfl, l, c⟩
  ⟨f, _, ⟨F, a, k⟩, F.binds rfl b⟩
theorem rdV_of {Z : Sta} {x a : Str} {st : Stmt} (h : DefV Z x st [a]) : RdV Z x a (C8.fnBody st) (C8.fnScope st) := by
  obtain ⟨f, fd, d, b⟩ := h.ex
  obtain ⟨oc, od, dV, kV, doc, pmv, an, cdv, ct, osl, rfl, lk, hcd⟩ := d.fn.ex
  exact ⟨f, oc, od, _, dV, kV, doc, pmv, an, cdv, ct, osl, d.mgf, d.kp, lk, hcd, b⟩
/-- the law at its script, when its data is known -/
theorem law_sp {κ : Kit} {ec : Str → Value} {F : List D → Out D} {ns : List Int} {H : Hp} {a : Addr} (hF : ∃ ρ, F [.lst (ns.map D.int)] = .ok (.bl true) ρ) (hT : ∀ p ∈ κ.T, H p.1 = some (.tbl #[])) (hS : SqL κ.K H a (ns.map V.int)) :
    spOf κ ec [.Q] .S F [.ref a] H (fun v _ => v = .bl true) fun _ _ _ => False := by
  obtain ⟨ρ, hF⟩ := hF
  refine ⟨fun b => noT (H b), [.lst (ns.map D.int)], fun _ => [], ⟨fun b o e => (noT_some e).1, rfl, rfl, fun i m d h1 h2 => ?_, fun _ _ => rfl, fun i b hb => (nomatch hb), fun i j b hb => (nomatch hb), fun i => .nil, fun p hp => LamX.TabS.nil (hT p hp), fun b ps z => (noT_some z).2 ps rfl, fun p hp i hi => (nomatch hi)⟩, ?_⟩
  · cases i with
    | succ i => simp at h1
    | zero =>
      simp at h1 h2
      subst h1 h2
      unfold SlotR
      rw [if_neg (by decide)]
      refine ⟨.ref a, rfl, rfl, a, ns.map V.int, rfl, ?_, reps_ints ns⟩
      rcases hS with (h | ⟨o, h⟩) | h
      · exact .inl (.inl (by show noT (H a) = _; rw [h]; rfl))
      · exact .inl (.inr ⟨o, by show noT (H a) = _; rw [h]; rfl⟩)
      · exact .inr h
  · rw [hF]
    intro v R' H' fps' tf w r t x
    obtain ⟨_, r⟩ := r
    simp only [Rep] at r
    exact r
end VL

namespace K84
open PySem L2 VL
def top (i : Nat) : Stmt := PySem.Challenge.pw_wholepoll_k84_slips_and_lines_written.main.body.getD i (.Pass ⟨0, 0, 0, 0⟩)
def m1T : Str → Option Bool := fun n => if n == "NoText" then some true else none
def m2T : Str → Option Bool := fun _ => none
/-! used built-ins: ['abs', 'all', 'bool', 'enumerate', 'int', 'isinstance', 'len', 'list', 'range', 'repr', 'sorted', 'str', 'sum', 'tuple']; constants: ['FIGURES', 'MOST_BALLOTS', 'MOST_FIGURES']; raised: ['NoText'] -/
structure Txt (Z : Sta) : Prop where
  b_abs : Z.mg "abs" = none
  b_all : Z.mg "all" = none
  b_bool : Z.mg "bool" = none
  b_enumerate : Z.mg "enumerate" = none
  b_int : Z.mg "int" = none
  b_isinstance : Z.mg "isinstance" = none
  b_len : Z.mg "len" = none
  b_list : Z.mg "list" = none
  b_range : Z.mg "range" = none
  b_repr : Z.mg "repr" = none
  b_sorted : Z.mg "sorted" = none
  b_str : Z.mg "str" = none
  b_sum : Z.mg "sum" = none
  b_tuple : Z.mg "tuple" = none
  g_FIGURES : GlbV Z "FIGURES" (.str "0123456789")
  g_MOST_BALLOTS : GlbV Z "MOST_BALLOTS" (.int 1000000000)
  g_MOST_FIGURES : GlbV Z "MOST_FIGURES" (.int 10)
  z_NoText : RzV Z "NoText" "NoText"
  rd : RdV Z "_law_read" "_law_act" (C8.fnBody (top 32)) (C8.fnScope (top 32))
  x_1 : ExV Z "NoText" m1T
  x_2 : ExV Z "PollError" m2T
theorem sc_read : FnScope ["_law_act"] ["_law_act"] (C8.fnScope (top 32)) := C8.fnScope_by (by decide +kernel)
noncomputable def T1_members : M Bool := (bnd (eVar 0) fun x => bnd (ret (.int 0)) fun y => opt (oB (gtD x y)))
noncomputable def L1_members : M Fl := (seqF (bnd (bnd (bnd (eVar 0) fun x => bnd (ret (.int 1)) fun y => opt (andD x y)) fun x => bnd (ret (.int 1)) fun y => opt (oB (eqD x y))) fun k => if k then (seqF (bnd (eVar 1) fun x0 => VL.guard (isLst x0) (bnd (bnd (eVar 2) fun x => bnd (ret []) fun xs => ret (x :: xs)) fun xs => bnd (eVar 1) fun x => bnd (opt (mutD appL x xs)) fun x' => bnd (setS 1 x') fun _ => ret .nx)) (ret .nx)) else (ret .nx)) (seqF (bnd (bnd (eVar 0) fun x => bnd (ret (.int 1)) fun y => opt (shrD x y)) fun d => bnd (setS 0 d) fun _ => ret .nx) (seqF (bnd (eVar 2) fun x => bnd (ret (.int 1)) fun y => bnd (opt (addD x y)) fun z => bnd (setS 2 z) fun _ => ret .nx) (ret .nx))))
noncomputable def G_members : M Fl := (seqF (bnd (bnd (ret []) fun xs => VL.guard (decide (xs.length ≤ sizeLine)) (ret (.lst xs))) fun d => bnd (setS 1 d) fun _ => ret .nx) (seqF (bnd (ret (.int 0)) fun d => bnd (setS 2 d) fun _ => ret .nx) (seqF (whileM T1_members L1_members) (seqF (bnd (eVar 1) fun d => ret (.ret d)) (ret .nx)))))
noncomputable def F_members : List D → Out D := funF false 3 1 G_members
abbrev S_members (Z : Sta) : Sta := { Z with N := ["mask", "found", "hand"], sc := C8.fnScope (top 1), k := 0, top := true, fnn := fun _ => true, lm := none }
theorem d_members {Z : Sta} (t : Txt Z) : DB (S_members Z) ⟨.S, [], []⟩ [.S, .U, .U] (C8.fnBody (top 1)) [.S, .U, .U] G_members :=
  (db_cons (μ1 := [.S, .O .S, .U]) (ds_set 1 (de_lst da_nil)) (db_cons (μ1 := [.S, .O .S, .S]) (ds_set 2 de_int) (db_cons (μ1 := [.S, .O .S, .S]) (ds_while (dt_cmp c_gt (de_name 0) de_int) (db_cons (μ1 := [.S, .O .S, .S]) (ds_if (μ' := [.S, .O .S, .S]) (dt_cmp c_eq (de_bin b_and (de_name 0) de_int) de_int) (db_cons (μ1 := [.S, .O .S, .S]) (ds_mut 1 l_append PySem.F.slot_list_append PySem.F.type_list_append (da_cons (de_name 2) da_nil)) db_nil) db_nil) (db_cons (μ1 := [.S, .O .S, .S]) (ds_set 0 (de_bin b_shr (de_name 0) de_int)) (db_cons (μ1 := [.S, .O .S, .S]) (ds_aug 2 a_add de_int) db_nil)))) (db_cons (μ1 := [.S, .U, .U]) (ds_share 1 (ds_ret (μ' := [.S, .U, .U]) (de_name 1))) db_nil))))
theorem sc_members : FnScope ["mask", "found", "hand"] ["mask"] (C8.fnScope (top 1)) := C8.fnScope_by (by decide +kernel)
theorem cal_members {Z : Sta} (t : Txt Z) (h : DefV Z "members" (top 1) ["mask"]) : CalV Z 1 "members" [.S] (.S) F_members :=
  ⟨(calV_of (S := S_members Z) ⟨h.ex⟩ sc_members rfl (j := 2) rfl rfl (by decide) rfl (d_members t)).ex⟩
noncomputable def C1_show_slip : M D := (bnd (eVar 1) fun x => bnd (eVar 3) fun y => opt (ixD x y))
noncomputable def C2_show_slip : M D := (bnd (ret (.str "=")) fun x => VL.guard (isStr x) (bnd (bnd (bnd (bnd (bnd (eVar 2) fun x => bnd (ret []) fun xs => ret (x :: xs)) (callM [.val] F_members)) fun x => opt (lstI x)) fun ds => VL.guard (decide (ds.length ≤ sizeLine)) (bnd (lcM (gN 3) (ret true) C1_show_slip [3] ds) fun ys => ret (.lst ys))) fun y => opt (joinD x [y])))
noncomputable def G_show_slip : M Fl := (seqF (bnd (bnd (eVar 0) fun x => bnd (bnd (ret []) fun xs => VL.guard (decide (xs.length ≤ sizeLine)) (ret (.tup xs))) fun y => opt (oB (eqD x y))) fun k => if k then (seqF (bnd (ret (.str "-")) fun d => ret (.ret d)) (ret .nx)) else (ret .nx)) (seqF (bnd (bnd (ret (.str ">")) fun x => VL.guard (isStr x) (bnd (bnd (bnd (eVar 0) fun x => opt (tupI x)) fun ds => VL.guard (decide (ds.length ≤ sizeLine)) (bnd (lcM (gN 2) (ret true) C2_show_slip [2] ds) fun ys => ret (.lst ys))) fun y => opt (joinD x [y]))) fun d => ret (.ret d)) (ret .nx)))
noncomputable def F_show_slip : List D → Out D := funF false 4 2 G_show_slip
abbrev S_show_slip (Z : Sta) : Sta := { Z with N := ["slip", "words", "tier", "hand"], sc := C8.fnScope (top 3), k := 1, top := true, fnn := fun _ => true, lm := none }
theorem d_show_slip {Z : Sta} (t : Txt Z) (c_members : CalV Z 1 "members" [.S] (.S) F_members) : DB (S_show_slip Z) ⟨.S, [], []⟩ [.S, .S, .U, .U] (C8.fnBody (top 3)) [.S, .S, .U, .U] G_show_slip :=
  (db_cons (μ1 := [.S, .S, .U, .U]) (ds_if (μ' := [.S, .S, .U, .U]) (dt_cmp c_eq (de_name 0) (de_tup da_nil)) (db_cons (μ1 := [.S, .S, .U, .U]) (ds_ret (μ' := [.S, .S, .U, .U]) de_str) db_nil) db_nil) (db_cons (μ1 := [.S, .S, .U, .U]) (ds_ret (μ' := [.S, .S, .U, .U]) (de_m1 t_join PySem.F.slot_str_join PySem.F.type_str_join de_str (de_fz (de_lc (own := [("tier", 2)]) (μ1 := [.S, .S, .U, .U]) (μb := [.S, .S, .S, .U]) (μe := [.S, .S, .S, .U]) (di_tup (de_name 0)) (dg_name 2) df_nil (de_m1 t_join PySem.F.slot_str_join PySem.F.type_str_join de_str (de_fz (de_lc (own := [("hand", 3)]) (μ1 := [.S, .S, .S, .U]) (μb := [.S, .S, .S, .S]) (μe := [.S, .S, .S, .S]) (di_list (de_call (ks := [.val]) c_members.to (dl_val (de_name 2) dl_nil))) (dg_name 3) df_nil (de_ix (de_name 1) (de_name 3))))))))) db_nil))
theorem sc_show_slip : FnScope ["slip", "words", "tier", "hand"] ["slip", "words"] (C8.fnScope (top 3)) := C8.fnScope_by (by decide +kernel)
theorem cal_show_slip {Z : Sta} (t : Txt Z) (c_members : CalV Z 1 "members" [.S] (.S) F_members) (h : DefV Z "show_slip" (top 3) ["slip", "words"]) : CalV Z 2 "show_slip" [.S, .S] (.S) F_show_slip :=
  ⟨(calV_of (S := S_show_slip Z) ⟨h.ex⟩ sc_show_slip rfl (j := 2) rfl rfl (by decide) rfl (d_show_slip t c_members)).ex⟩
noncomputable def G_show_line : M Fl := (seqF (bnd (bnd (bnd (bnd (bnd (bnd (eVar 0) fun x => bnd (ret (.int 1)) fun y => opt (ixD x y)) fun x => bnd (ret []) fun xs => ret (x :: xs)) fun xs => opt (one strD xs)) fun x => bnd (ret (.str ":")) fun y => opt (addD x y)) fun x => bnd (bnd (bnd (bnd (eVar 0) fun x => bnd (ret (.int 0)) fun y => opt (ixD x y)) fun x => bnd (bnd (eVar 1) fun x => bnd (ret []) fun xs => ret (x :: xs)) fun xs => ret (x :: xs)) (callM [.val, .val] F_show_slip)) fun y => opt (addD x y)) fun d => ret (.ret d)) (ret .nx))
noncomputable def F_show_line : List D → Out D := funF false 2 2 G_show_line
abbrev S_show_line (Z : Sta) : Sta := { Z with N := ["line", "words"], sc := C8.fnScope (top 4), k := 2, top := true, fnn := fun _ => true, lm := none }
theorem d_show_line {Z : Sta} (t : Txt Z) (c_show_slip : CalV Z 2 "show_slip" [.S, .S] (.S) F_show_slip) : DB (S_show_line Z) ⟨.S, [], []⟩ [.S, .S] (C8.fnBody (top 4)) [.S, .S] G_show_line :=
  (db_cons (μ1 := [.S, .S]) (ds_ret (μ' := [.S, .S]) (de_bin b_add (de_bin b_add (de_callT g_str (da_cons (de_ix (de_name 0) de_int) da_nil) (by exact t.b_str)) de_str) (de_call (ks := [.val, .val]) c_show_slip.to (dl_val (de_ix (de_name 0) de_int) (dl_val (de_name 1) dl_nil))))) db_nil)
theorem sc_show_line : FnScope ["line", "words"] ["line", "words"] (C8.fnScope (top 4)) := C8.fnScope_by (by decide +kernel)
theorem cal_show_line {Z : Sta} (t : Txt Z) (c_show_slip : CalV Z 2 "show_slip" [.S, .S] (.S) F_show_slip) (h : DefV Z "show_line" (top 4) ["line", "words"]) : CalV Z 3 "show_line" [.S, .S] (.S) F_show_line :=
  ⟨(calV_of (S := S_show_line Z) ⟨h.ex⟩ sc_show_line rfl (j := 0) rfl rfl (by decide) rfl (d_show_line t c_show_slip)).ex⟩
noncomputable def G_is_whole : M Fl := (seqF (bnd (bnd (bnd (eVar 0) fun x => opt (isiD "int" x)) fun x => bnd (opt (asB x)) fun k => if k then (bnd (bnd (eVar 0) fun x => opt (isiD "bool" x)) fun x => bnd (opt (asB x)) fun k => ret (.bl (!k))) else ret (.bl false)) fun d => ret (.ret d)) (ret .nx))
noncomputable def F_is_whole : List D → Out D := funF false 1 1 G_is_whole
abbrev S_is_whole (Z : Sta) : Sta := { Z with N := ["thing"], sc := C8.fnScope (top 9), k := 0, top := true, fnn := fun _ => true, lm := none }
theorem d_is_whole {Z : Sta} (t : Txt Z) : DB (S_is_whole Z) ⟨.S, [], []⟩ [.S] (C8.fnBody (top 9)) [.S] G_is_whole :=
  (db_cons (μ1 := [.S]) (ds_ret (μ' := [.S]) (de_and (de_isi (T := "int") (de_name 0) (by decide +kernel) (by exact t.b_isinstance) (by exact t.b_int) (by decide +kernel)) (de_one (de_not (de_isi (T := "bool") (de_name 0) (by decide +kernel) (by exact t.b_isinstance) (by exact t.b_bool) (by decide +kernel)))))) db_nil)
theorem sc_is_whole : FnScope ["thing"] ["thing"] (C8.fnScope (top 9)) := C8.fnScope_by (by decide +kernel)
theorem cal_is_whole {Z : Sta} (t : Txt Z) (h : DefV Z "is_whole" (top 9) ["thing"]) : CalV Z 1 "is_whole" [.S] (.S) F_is_whole :=
  ⟨(calV_of (S := S_is_whole Z) ⟨h.ex⟩ sc_is_whole rfl (j := 0) rfl rfl (by decide) rfl (d_is_whole t)).ex⟩
noncomputable def C1_is_slip : M D := (bnd (bnd (bnd (eVar 3) fun x => bnd (ret []) fun xs => ret (x :: xs)) (callM [.val] F_is_whole)) fun x => bnd (opt (asB x)) fun k => if k then (bnd (ret (.int 0)) fun x => bnd (eVar 3) fun y => bnd (opt (oB (ltD x y))) fun k => if k then bnd (bnd (ret (.int 1)) fun x => bnd (eVar 1) fun y => opt (shlD x y)) fun z => opt (ltD y z) else ret (.bl false)) else ret (.bl false))
noncomputable def L1_is_slip : M Fl := (seqF (bnd (bnd (bnd (eVar 2) fun x => bnd (eVar 3) fun y => opt (andD x y)) fun x => bnd (ret (.int 0)) fun y => opt (oB (neD x y))) fun k => if k then (seqF (bnd (ret (.bl false)) fun d => ret (.ret d)) (ret .nx)) else (ret .nx)) (seqF (bnd (bnd (eVar 2) fun x => bnd (eVar 3) fun y => opt (orD x y)) fun d => bnd (setS 2 d) fun _ => ret .nx) (killF 3 (ret .nx))))
noncomputable def G_is_slip : M Fl := (seqF (bnd (bnd (bnd (bnd (bnd (eVar 0) fun x => opt (isiD "tuple" x)) fun x => opt (asB x)) fun x => ret (!x)) fun x => if x then ret true else (bnd (bnd (bnd (bnd (bnd (bnd (eVar 0) fun x => opt (tupI x)) fun ds => VL.guard (decide (ds.length ≤ sizeLine)) (bnd (lcM (gN 3) (ret true) C1_is_slip [3] ds) fun ys => ret (.lst ys))) fun x => bnd (ret []) fun xs => ret (x :: xs)) fun xs => opt (one allD xs)) fun x => opt (asB x)) fun x => ret (!x))) fun k => if k then (seqF (bnd (ret (.bl false)) fun d => ret (.ret d)) (ret .nx)) else (ret .nx)) (seqF (bnd (ret (.int 0)) fun d => bnd (setS 2 d) fun _ => ret .nx) (seqF (bnd (bnd (eVar 0) fun x => opt (tupI x)) fun ds => loopM (gN 3) L1_is_slip ds) (seqF (bnd (ret (.bl true)) fun d => ret (.ret d)) (ret .nx)))))
noncomputable def F_is_slip : List D → Out D := funF false 4 2 G_is_slip
abbrev S_is_slip (Z : Sta) : Sta := { Z with N := ["thing", "hands", "met", "tier"], sc := C8.fnScope (top 11), k := 1, top := true, fnn := fun _ => true, lm := none }
theorem d_is_slip {Z : Sta} (t : Txt Z) (c_is_whole : CalV Z 1 "is_whole" [.S] (.S) F_is_whole) : DB (S_is_slip Z) ⟨.S, [], []⟩ [.S, .S, .U, .U] (C8.fnBody (top 11)) [.S, .S, .U, .U] G_is_slip :=
  (db_cons (μ1 := [.S, .S, .U, .U]) (ds_if (μ' := [.S, .S, .U, .U]) (dw_pt (dw_or (dt_not (dt_val (de_isi (T := "tuple") (de_name 0) (by decide +kernel) (by exact t.b_isinstance) (by exact t.b_tuple) (by decide +kernel)))) (dw_or1 (dt_not (dt_val (de_callB g_all (da_cons (de_fz (de_lc (own := [("tier", 3)]) (μ1 := [.S, .S, .U, .U]) (μb := [.S, .S, .U, .S]) (μe := [.S, .S, .U, .S]) (di_tup (de_name 0)) (dg_name 3) df_nil (de_and (de_call (ks := [.val]) c_is_whole.to (dl_val (de_name 3) dl_nil)) (de_one (de_chain c_lt c_lt de_int (de_name 3) (de_bin b_shl de_int (de_name 1))))))) da_nil) (by exact t.b_all))))))) (db_cons (μ1 := [.S, .S, .U, .U]) (ds_ret (μ' := [.S, .S, .U, .U]) de_bl) db_nil) db_nil) (db_cons (μ1 := [.S, .S, .S, .U]) (ds_set 2 de_int) (db_cons (μ1 := [.S, .S, .S, .U]) (ds_for (μ1 := [.S, .S, .S, .U]) (μb := [.S, .S, .S, .S]) (di_tup (de_name 0)) (dg_name 3) (db_cons (μ1 := [.S, .S, .S, .S]) (ds_if (μ' := [.S, .S, .S, .S]) (dt_cmp c_ne (de_bin b_and (de_name 2) (de_name 3)) de_int) (db_cons (μ1 := [.S, .S, .S, .S]) (ds_ret (μ' := [.S, .S, .S, .S]) de_bl) db_nil) db_nil) (db_cons (μ1 := [.S, .S, .S, .S]) (ds_set 2 (de_bin b_or (de_name 2) (de_name 3))) (db_kill 3 db_nil)))) (db_cons (μ1 := [.S, .S, .U, .U]) (ds_ret (μ' := [.S, .S, .U, .U]) de_bl) db_nil))))
theorem sc_is_slip : FnScope ["thing", "hands", "met", "tier"] ["thing", "hands"] (C8.fnScope (top 11)) := C8.fnScope_by (by decide +kernel)
theorem cal_is_slip {Z : Sta} (t : Txt Z) (c_is_whole : CalV Z 1 "is_whole" [.S] (.S) F_is_whole) (h : DefV Z "is_slip" (top 11) ["thing", "hands"]) : CalV Z 2 "is_slip" [.S, .S] (.S) F_is_slip :=
  ⟨(calV_of (S := S_is_slip Z) ⟨h.ex⟩ sc_is_slip rfl (j := 2) rfl rfl (by decide) rfl (d_is_slip t c_is_whole)).ex⟩
noncomputable def G_is_line : M Fl := (seqF (bnd (bnd (bnd (bnd (bnd (eVar 0) fun x => opt (isiD "tuple" x)) fun x => opt (asB x)) fun x => ret (!x)) fun x => if x then ret true else (bnd (bnd (bnd (bnd (eVar 0) fun x => bnd (ret []) fun xs => ret (x :: xs)) fun xs => opt (lenD xs)) fun x => bnd (ret (.int 2)) fun y => opt (oB (neD x y))) fun x => if x then ret true else (bnd (bnd (bnd (bnd (bnd (eVar 0) fun x => bnd (ret (.int 0)) fun y => opt (ixD x y)) fun x => bnd (bnd (eVar 1) fun x => bnd (ret []) fun xs => ret (x :: xs)) fun xs => ret (x :: xs)) (callM [.val, .val] F_is_slip)) fun x => opt (asB x)) fun x => ret (!x)))) fun k => if k then (seqF (bnd (ret (.bl false)) fun d => ret (.ret d)) (ret .nx)) else (ret .nx)) (seqF (bnd (bnd (bnd (bnd (bnd (eVar 0) fun x => bnd (ret (.int 1)) fun y => opt (ixD x y)) fun x => bnd (ret []) fun xs => ret (x :: xs)) (callM [.val] F_is_whole)) fun x => bnd (opt (asB x)) fun k => if k then (bnd (bnd (eVar 0) fun x => bnd (ret (.int 1)) fun y => opt (ixD x y)) fun x => bnd (ret (.int 1)) fun y => opt (geD x y)) else ret (.bl false)) fun d => ret (.ret d)) (ret .nx)))
noncomputable def F_is_line : List D → Out D := funF false 2 2 G_is_line
abbrev S_is_line (Z : Sta) : Sta := { Z with N := ["thing", "hands"], sc := C8.fnScope (top 12), k := 2, top := true, fnn := fun _ => true, lm := none }
theorem d_is_line {Z : Sta} (t : Txt Z) (c_is_slip : CalV Z 2 "is_slip" [.S, .S] (.S) F_is_slip) (c_is_whole : CalV Z 1 "is_whole" [.S] (.S) F_is_whole) : DB (S_is_line Z) ⟨.S, [], []⟩ [.S, .S] (C8.fnBody (top 12)) [.S, .S] G_is_line :=
  (db_cons (μ1 := [.S, .S]) (ds_if (μ' := [.S, .S]) (dw_pt (dw_or (dt_not (dt_val (de_isi (T := "tuple") (de_name 0) (by decide +kernel) (by exact t.b_isinstance) (by exact t.b_tuple) (by decide +kernel)))) (dw_or (dt_cmp c_ne (de_callB f_len (da_cons (de_name 0) da_nil) (by exact t.b_len)) de_int) (dw_or1 (dt_not (dt_val (de_call (ks := [.val, .val]) c_is_slip.to (dl_val (de_ix (de_name 0) de_int) (dl_val (de_name 1) dl_nil))))))))) (db_cons (μ1 := [.S, .S]) (ds_ret (μ' := [.S, .S]) de_bl) db_nil) db_nil) (db_cons (μ1 := [.S, .S]) (ds_ret (μ' := [.S, .S]) (de_and (de_call (ks := [.val]) c_is_whole.to (dl_val (de_ix (de_name 0) de_int) dl_nil)) (de_one (de_cmp c_ge (de_ix (de_name 0) de_int) de_int)))) db_nil))
theorem sc_is_line : FnScope ["thing", "hands"] ["thing", "hands"] (C8.fnScope (top 12)) := C8.fnScope_by (by decide +kernel)
theorem cal_is_line {Z : Sta} (t : Txt Z) (c_is_slip : CalV Z 2 "is_slip" [.S, .S] (.S) F_is_slip) (c_is_whole : CalV Z 1 "is_whole" [.S] (.S) F_is_whole) (h : DefV Z "is_line" (top 12) ["thing", "hands"]) : CalV Z 3 "is_line" [.S, .S] (.S) F_is_line :=
  ⟨(calV_of (S := S_is_line Z) ⟨h.ex⟩ sc_is_line rfl (j := 0) rfl rfl (by decide) rfl (d_is_line t c_is_slip c_is_whole)).ex⟩
noncomputable def G_need : M Fl := (seqF (bnd (bnd (bnd (eVar 0) fun x => opt (asB x)) fun x => ret (!x)) fun k => if k then (seqF (fun ρ => .err "NoText" ρ) (ret .nx)) else (ret .nx)) (ret .nx))
noncomputable def F_need : List D → Out D := funF true 1 1 G_need
abbrev S_need (Z : Sta) : Sta := { Z with N := ["truth"], sc := C8.fnScope (top 17), k := 0, top := true, fnn := fun _ => true, lm := none }
theorem d_need {Z : Sta} (t : Txt Z) : DB (S_need Z) ⟨.S, [], []⟩ [.S] (C8.fnBody (top 17)) [.S] G_need :=
  (db_cons (μ1 := [.S]) (ds_if (μ' := [.S]) (dt_not (dt_val (de_name 0))) (db_cons (μ1 := [.S]) (ds_raise (μ' := [.S]) t.z_NoText.to) db_nil) db_nil) db_nil)
theorem sc_need : FnScope ["truth"] ["truth"] (C8.fnScope (top 17)) := C8.fnScope_by (by decide +kernel)
theorem cal_need {Z : Sta} (t : Txt Z) (h : DefV Z "need" (top 17) ["truth"]) : CalV Z 1 "need" [.S] (.S) F_need :=
  ⟨(calV_of (S := S_need Z) ⟨h.ex⟩ sc_need rfl (j := 0) rfl rfl (by decide) rfl (d_need t)).ex⟩
noncomputable def G_need_text : M Fl := (seqF (bnd (bnd (bnd (bnd (eVar 0) fun x => opt (isiD "str" x)) fun x => bnd (ret []) fun xs => ret (x :: xs)) (callM [.val] F_need)) fun _ => ret .nx) (ret .nx))
noncomputable def F_need_text : List D → Out D := funF true 1 1 G_need_text
abbrev S_need_text (Z : Sta) : Sta := { Z with N := ["thing"], sc := C8.fnScope (top 18), k := 1, top := true, fnn := fun _ => true, lm := none }
theorem d_need_text {Z : Sta} (t : Txt Z) (c_need : CalV Z 1 "need" [.S] (.S) F_need) : DB (S_need_text Z) ⟨.S, [], []⟩ [.S] (C8.fnBody (top 18)) [.S] G_need_text :=
  (db_cons (μ1 := [.S]) (ds_expr (de_call (ks := [.val]) c_need.to (dl_val (de_isi (T := "str") (de_name 0) (by decide +kernel) (by exact t.b_isinstance) (by exact t.b_str) (by decide +kernel)) dl_nil))) db_nil)
theorem sc_need_text : FnScope ["thing"] ["thing"] (C8.fnScope (top 18)) := C8.fnScope_by (by decide +kernel)
theorem cal_need_text {Z : Sta} (t : Txt Z) (c_need : CalV Z 1 "need" [.S] (.S) F_need) (h : DefV Z "need_text" (top 18) ["thing"]) : CalV Z 2 "need_text" [.S] (.S) F_need_text :=
  ⟨(calV_of (S := S_need_text Z) ⟨h.ex⟩ sc_need_text rfl (j := 0) rfl rfl (by decide) rfl (d_need_text t c_need)).ex⟩
noncomputable def C1_number_read : M D := (bnd (eVar 1) fun x => bnd (ret (.str "0123456789")) fun y => opt ((inSD false) x y))
noncomputable def G_number_read : M Fl := (seqF (bnd (bnd (bnd (bnd (bnd (ret (.int 1)) fun x => bnd (bnd (bnd (eVar 0) fun x => bnd (ret []) fun xs => ret (x :: xs)) fun xs => opt (lenD xs)) fun y => bnd (opt (oB (leD x y))) fun k => if k then bnd (ret (.int 10)) fun z => opt (leD y z) else ret (.bl false)) fun x => bnd (opt (asB x)) fun k => if k then (bnd (bnd (bnd (bnd (eVar 0) fun x => opt (strI x)) fun ds => VL.guard (decide (ds.length ≤ sizeLine)) (bnd (lcM (gN 1) (ret true) C1_number_read [1] ds) fun ys => ret (.lst ys))) fun x => bnd (ret []) fun xs => ret (x :: xs)) fun xs => opt (one allD xs)) else ret (.bl false)) fun x => bnd (ret []) fun xs => ret (x :: xs)) (callM [.val] F_need)) fun _ => ret .nx) (seqF (bnd (bnd (bnd (bnd (bnd (eVar 0) fun x => bnd (ret (.str "0")) fun y => opt (eqD x y)) fun x => bnd (opt (asB x)) fun k => if k then ret (.bl true) else (bnd (bnd (eVar 0) fun x => bnd (ret (.int 0)) fun y => opt (ixD x y)) fun x => bnd (ret (.str "0")) fun y => opt (neD x y))) fun x => bnd (ret []) fun xs => ret (x :: xs)) (callM [.val] F_need)) fun _ => ret .nx) (seqF (bnd (bnd (bnd (eVar 0) fun x => bnd (ret []) fun xs => ret (x :: xs)) fun xs => opt (one intSD xs)) fun d => ret (.ret d)) (ret .nx))))
noncomputable def F_number_read : List D → Out D := funF false 2 1 G_number_read
abbrev S_number_read (Z : Sta) : Sta := { Z with N := ["text", "sign"], sc := C8.fnScope (top 19), k := 1, top := true, fnn := fun _ => true, lm := none }
theorem d_number_read {Z : Sta} (t : Txt Z) (c_need : CalV Z 1 "need" [.S] (.S) F_need) : DB (S_number_read Z) ⟨.S, [], []⟩ [.S, .U] (C8.fnBody (top 19)) [.S, .U] G_number_read :=
  (db_cons (μ1 := [.S, .U]) (ds_expr (de_call (ks := [.val]) c_need.to (dl_val (de_and (de_chain c_le c_le de_int (de_callB f_len (da_cons (de_name 0) da_nil) (by exact t.b_len)) (de_gl t.g_MOST_FIGURES.to)) (de_one (de_callB g_all (da_cons (de_fz (de_lc (own := [("sign", 1)]) (μ1 := [.S, .U]) (μb := [.S, .S]) (μe := [.S, .S]) (di_str (de_name 0)) (dg_name 1) df_nil (de_cmp c_inS (de_name 1) (de_gl t.g_FIGURES.to)))) da_nil) (by exact t.b_all)))) dl_nil))) (db_cons (μ1 := [.S, .U]) (ds_expr (de_call (ks := [.val]) c_need.to (dl_val (de_or (de_cmp c_eq (de_name 0) de_str) (de_one (de_cmp c_ne (de_ix (de_name 0) de_int) de_str))) dl_nil))) (db_cons (μ1 := [.S, .U]) (ds_ret (μ' := [.S, .U]) (de_callT g_intS (da_cons (de_name 0) da_nil) (by exact t.b_int))) db_nil)))
theorem sc_number_read : FnScope ["text", "sign"] ["text"] (C8.fnScope (top 19)) := C8.fnScope_by (by decide +kernel)
theorem cal_number_read {Z : Sta} (t : Txt Z) (c_need : CalV Z 1 "need" [.S] (.S) F_need) (h : DefV Z "number_read" (top 19) ["text"]) : CalV Z 2 "number_read" [.S] (.S) F_number_read :=
  ⟨(calV_of (S := S_number_read Z) ⟨h.ex⟩ sc_number_read rfl (j := 1) rfl rfl (by decide) rfl (d_number_read t c_need)).ex⟩
noncomputable def L1_slip_read : M Fl := (seqF (bnd (bnd (bnd (bnd (eVar 5) fun x => bnd (eVar 1) fun y => opt ((inB false) x y)) fun x => bnd (ret []) fun xs => ret (x :: xs)) (callM [.val] F_need)) fun _ => ret .nx) (seqF (bnd (bnd (eVar 4) fun x => bnd (bnd (ret (.int 1)) fun x => bnd (bnd (eVar 1) fun x => VL.guard (isLst x) (bnd (bnd (eVar 5) fun x => bnd (ret []) fun xs => ret (x :: xs)) fun ys => opt (indexD x ys))) fun y => opt (shlD x y)) fun y => opt (orD x y)) fun d => bnd (setS 4 d) fun _ => ret .nx) (killF 5 (ret .nx))))
noncomputable def L2_slip_read : M Fl := (seqF (bnd (ret (.int 0)) fun d => bnd (setS 4 d) fun _ => ret .nx) (seqF (bnd (bnd (bnd (eVar 3) fun x => VL.guard (isStr x) (bnd (ret (.str "=")) fun y => opt (splitD x [y]))) fun x => opt (lstI x)) fun ds => loopM (gN 5) L1_slip_read ds) (seqF (bnd (eVar 2) fun x0 => VL.guard (isLst x0) (bnd (bnd (eVar 4) fun x => bnd (ret []) fun xs => ret (x :: xs)) fun xs => bnd (eVar 2) fun x => bnd (opt (mutD appL x xs)) fun x' => bnd (setS 2 x') fun _ => ret .nx)) (killF 3 (killF 4 (ret .nx))))))
noncomputable def G_slip_read : M Fl := (seqF (bnd (bnd (eVar 0) fun x => bnd (ret (.str "-")) fun y => opt (oB (eqD x y))) fun k => if k then (seqF (bnd (bnd (ret []) fun xs => VL.guard (decide (xs.length ≤ sizeLine)) (ret (.tup xs))) fun d => ret (.ret d)) (ret .nx)) else (ret .nx)) (seqF (bnd (bnd (ret []) fun xs => VL.guard (decide (xs.length ≤ sizeLine)) (ret (.lst xs))) fun d => bnd (setS 2 d) fun _ => ret .nx) (seqF (bnd (bnd (bnd (eVar 0) fun x => VL.guard (isStr x) (bnd (ret (.str ">")) fun y => opt (splitD x [y]))) fun x => opt (lstI x)) fun ds => loopM (gN 3) L2_slip_read ds) (seqF (bnd (bnd (bnd (eVar 2) fun x => bnd (ret []) fun xs => ret (x :: xs)) fun xs => opt (tupleD xs)) fun d => ret (.ret d)) (ret .nx)))))
noncomputable def F_slip_read : List D → Out D := funF false 6 2 G_slip_read
abbrev S_slip_read (Z : Sta) : Sta := { Z with N := ["text", "words", "slip", "part", "tier", "word"], sc := C8.fnScope (top 20), k := 1, top := true, fnn := fun _ => true, lm := none }
theorem d_slip_read {Z : Sta} (t : Txt Z) (c_need : CalV Z 1 "need" [.S] (.S) F_need) : DB (S_slip_read Z) ⟨.S, [], []⟩ [.S, .S, .U, .U, .U, .U] (C8.fnBody (top 20)) [.S, .S, .U, .U, .U, .U] G_slip_read :=
  (db_cons (μ1 := [.S, .S, .U, .U, .U, .U]) (ds_if (μ' := [.S, .S, .U, .U, .U, .U]) (dt_cmp c_eq (de_name 0) de_str) (db_cons (μ1 := [.S, .S, .U, .U, .U, .U]) (ds_ret (μ' := [.S, .S, .U, .U, .U, .U]) (de_tup da_nil)) db_nil) db_nil) (db_cons (μ1 := [.S, .S, .O .S, .U, .U, .U]) (ds_set 2 (de_lst da_nil)) (db_cons (μ1 := [.S, .S, .O .S, .U, .U, .U]) (ds_for (μ1 := [.S, .S, .O .S, .U, .U, .U]) (μb := [.S, .S, .O .S, .S, .U, .U]) (di_list (de_fz (de_m1 t_split PySem.F.slot_str_split PySem.F.type_str_split (de_name 0) de_str))) (dg_name 3) (db_cons (μ1 := [.S, .S, .O .S, .S, .S, .U]) (ds_set 4 de_int) (db_cons (μ1 := [.S, .S, .O .S, .S, .S, .U]) (ds_for (μ1 := [.S, .S, .O .S, .S, .S, .U]) (μb := [.S, .S, .O .S, .S, .S, .S]) (di_list (de_fz (de_m1 t_split PySem.F.slot_str_split PySem.F.type_str_split (de_name 3) de_str))) (dg_name 5) (db_cons (μ1 := [.S, .S, .O .S, .S, .S, .S]) (ds_expr (de_call (ks := [.val]) c_need.to (dl_val (de_cmp c_in (de_name 5) (de_name 1)) dl_nil))) (db_cons (μ1 := [.S, .S, .O .S, .S, .S, .S]) (ds_set 4 (de_bin b_or (de_name 4) (de_bin b_shl de_int (de_m1L t_index PySem.F.plainAttrs_list PySem.F.slot_list_index PySem.F.type_list_index (de_name 1) (da_cons (de_name 5) da_nil))))) (db_kill 5 db_nil)))) (db_cons (μ1 := [.S, .S, .O .S, .S, .S, .U]) (ds_mut 2 l_append PySem.F.slot_list_append PySem.F.type_list_append (da_cons (de_name 4) da_nil)) (db_kill 3 (db_kill 4 db_nil)))))) (db_cons (μ1 := [.S, .S, .U, .U, .U, .U]) (ds_share 2 (ds_ret (μ' := [.S, .S, .U, .U, .U, .U]) (de_callT f_tuple (da_cons (de_name 2) da_nil) (by exact t.b_tuple)))) db_nil))))
theorem sc_slip_read : FnScope ["text", "words", "slip", "part", "tier", "word"] ["text", "words"] (C8.fnScope (top 20)) := C8.fnScope_by (by decide +kernel)
theorem cal_slip_read {Z : Sta} (t : Txt Z) (c_need : CalV Z 1 "need" [.S] (.S) F_need) (h : DefV Z "slip_read" (top 20) ["text", "words"]) : CalV Z 2 "slip_read" [.S, .S] (.S) F_slip_read :=
  ⟨(calV_of (S := S_slip_read Z) ⟨h.ex⟩ sc_slip_read rfl (j := 4) rfl rfl (by decide) rfl (d_slip_read t c_need)).ex⟩
noncomputable def G_read_slip : M Fl := (seqF (bnd (bnd (bnd (eVar 0) fun x => bnd (ret []) fun xs => ret (x :: xs)) (callM [.val] F_need_text)) fun _ => ret .nx) (seqF (bnd (bnd (bnd (eVar 0) fun x => bnd (bnd (eVar 1) fun x => bnd (ret []) fun xs => ret (x :: xs)) fun xs => ret (x :: xs)) (callM [.val, .val] F_slip_read)) fun d => bnd (setS 2 d) fun _ => ret .nx) (seqF (bnd (bnd (bnd (bnd (bnd (bnd (eVar 2) fun x => bnd (bnd (bnd (bnd (eVar 1) fun x => bnd (ret []) fun xs => ret (x :: xs)) fun xs => opt (lenD xs)) fun x => bnd (ret []) fun xs => ret (x :: xs)) fun xs => ret (x :: xs)) (callM [.val, .val] F_is_slip)) fun x => bnd (opt (asB x)) fun k => if k then (bnd (bnd (bnd (eVar 2) fun x => bnd (bnd (eVar 1) fun x => bnd (ret []) fun xs => ret (x :: xs)) fun xs => ret (x :: xs)) (callM [.val, .val] F_show_slip)) fun x => bnd (eVar 0) fun y => opt (eqD x y)) else ret (.bl false)) fun x => bnd (ret []) fun xs => ret (x :: xs)) (callM [.val] F_need)) fun _ => ret .nx) (seqF (bnd (eVar 2) fun d => ret (.ret d)) (ret .nx)))))
noncomputable def F_read_slip : List D → Out D := funF false 3 2 G_read_slip
abbrev S_read_slip (Z : Sta) : Sta := { Z with N := ["text", "words", "slip"], sc := C8.fnScope (top 21), k := 2, top := true, fnn := fun _ => true, lm := none }
theorem d_read_slip {Z : Sta} (t : Txt Z) (c_need_text : CalV Z 2 "need_text" [.S] (.S) F_need_text) (c_slip_read : CalV Z 2 "slip_read" [.S, .S] (.S) F_slip_read) (c_need : CalV Z 1 "need" [.S] (.S) F_need) (c_is_slip : CalV Z 2 "is_slip" [.S, .S] (.S) F_is_slip) (c_show_slip : CalV Z 2 "show_slip" [.S, .S] (.S) F_show_slip) : DB (S_read_slip Z) ⟨.S, [], []⟩ [.S, .S, .U] (C8.fnBody (top 21)) [.S, .S, .U] G_read_slip :=
  (db_cons (μ1 := [.S, .S, .U]) (ds_expr (de_call (ks := [.val]) c_need_text.to (dl_val (de_name 0) dl_nil))) (db_cons (μ1 := [.S, .S, .S]) (ds_set 2 (de_call (ks := [.val, .val]) c_slip_read.to (dl_val (de_name 0) (dl_val (de_name 1) dl_nil)))) (db_cons (μ1 := [.S, .S, .S]) (ds_expr (de_call (ks := [.val]) c_need.to (dl_val (de_and (de_call (ks := [.val, .val]) c_is_slip.to (dl_val (de_name 2) (dl_val (de_callB f_len (da_cons (de_name 1) da_nil) (by exact t.b_len)) dl_nil))) (de_one (de_cmp c_eq (de_call (ks := [.val, .val]) c_show_slip.to (dl_val (de_name 2) (dl_val (de_name 1) dl_nil))) (de_name 0)))) dl_nil))) (db_cons (μ1 := [.S, .S, .U]) (ds_ret (μ' := [.S, .S, .U]) (de_name 2)) db_nil))))
theorem sc_read_slip : FnScope ["text", "words", "slip"] ["text", "words"] (C8.fnScope (top 21)) := C8.fnScope_by (by decide +kernel)
theorem cal_read_slip {Z : Sta} (t : Txt Z) (c_need_text : CalV Z 2 "need_text" [.S] (.S) F_need_text) (c_slip_read : CalV Z 2 "slip_read" [.S, .S] (.S) F_slip_read) (c_need : CalV Z 1 "need" [.S] (.S) F_need) (c_is_slip : CalV Z 2 "is_slip" [.S, .S] (.S) F_is_slip) (c_show_slip : CalV Z 2 "show_slip" [.S, .S] (.S) F_show_slip) (h : DefV Z "read_slip" (top 21) ["text", "words"]) : CalV Z 3 "read_slip" [.S, .S] (.S) F_read_slip :=
  ⟨(calV_of (S := S_read_slip Z) ⟨h.ex⟩ sc_read_slip rfl (j := 1) rfl rfl (by decide) rfl (d_read_slip t c_need_text c_slip_read c_need c_is_slip c_show_slip)).ex⟩
noncomputable def G_read_line : M Fl := (seqF (bnd (bnd (bnd (eVar 0) fun x => bnd (ret []) fun xs => ret (x :: xs)) (callM [.val] F_need_text)) fun _ => ret .nx) (seqF (bnd (bnd (eVar 0) fun x => VL.guard (isStr x) (bnd (ret (.str ":")) fun y => opt (partitionD x [y]))) fun d => bnd (goT ((gT 3 (gsC (gN 2) (gsC (gN 3) (gsC (gN 4) gs0)))) d)) fun _ => ret .nx) (seqF (bnd (bnd (bnd (bnd (bnd (eVar 4) fun x => bnd (bnd (eVar 1) fun x => bnd (ret []) fun xs => ret (x :: xs)) fun xs => ret (x :: xs)) (callM [.val, .val] F_read_slip)) fun x => bnd (bnd (bnd (bnd (eVar 2) fun x => bnd (ret []) fun xs => ret (x :: xs)) (callM [.val] F_number_read)) fun x => bnd (ret []) fun xs => ret (x :: xs)) fun xs => ret (x :: xs)) fun xs => VL.guard (decide (xs.length ≤ sizeLine)) (ret (.tup xs))) fun d => bnd (setS 5 d) fun _ => ret .nx) (seqF (bnd (bnd (bnd (bnd (bnd (bnd (eVar 5) fun x => bnd (bnd (bnd (bnd (eVar 1) fun x => bnd (ret []) fun xs => ret (x :: xs)) fun xs => opt (lenD xs)) fun x => bnd (ret []) fun xs => ret (x :: xs)) fun xs => ret (x :: xs)) (callM [.val, .val] F_is_line)) fun x => bnd (opt (asB x)) fun k => if k then (bnd (bnd (bnd (eVar 5) fun x => bnd (ret (.int 1)) fun y => opt (ixD x y)) fun x => bnd (ret (.int 1000000000)) fun y => opt (leD x y)) fun x => bnd (opt (asB x)) fun k => if k then (bnd (bnd (bnd (eVar 5) fun x => bnd (bnd (eVar 1) fun x => bnd (ret []) fun xs => ret (x :: xs)) fun xs => ret (x :: xs)) (callM [.val, .val] F_show_line)) fun x => bnd (eVar 0) fun y => opt (eqD x y)) else ret (.bl false)) else ret (.bl false)) fun x => bnd (ret []) fun xs => ret (x :: xs)) (callM [.val] F_need)) fun _ => ret .nx) (seqF (bnd (eVar 5) fun d => ret (.ret d)) (ret .nx))))))
noncomputable def F_read_line : List D → Out D := funF false 6 2 G_read_line
abbrev S_read_line (Z : Sta) : Sta := { Z with N := ["text", "words", "number", "colon", "rest", "line"], sc := C8.fnScope (top 22), k := 3, top := true, fnn := fun _ => true, lm := none }
theorem d_read_line {Z : Sta} (t : Txt Z) (c_need_text : CalV Z 2 "need_text" [.S] (.S) F_need_text) (c_read_slip : CalV Z 3 "read_slip" [.S, .S] (.S) F_read_slip) (c_number_read : CalV Z 2 "number_read" [.S] (.S) F_number_read) (c_need : CalV Z 1 "need" [.S] (.S) F_need) (c_is_line : CalV Z 3 "is_line" [.S, .S] (.S) F_is_line) (c_show_line : CalV Z 3 "show_line" [.S, .S] (.S) F_show_line) : DB (S_read_line Z) ⟨.S, [], []⟩ [.S, .S, .U, .U, .U, .U] (C8.fnBody (top 22)) [.S, .S, .U, .U, .U, .U] G_read_line :=
  (db_cons (μ1 := [.S, .S, .U, .U, .U, .U]) (ds_expr (de_call (ks := [.val]) c_need_text.to (dl_val (de_name 0) dl_nil))) (db_cons (μ1 := [.S, .S, .S, .S, .S, .U]) (ds_asg (de_m1 t_partition PySem.F.slot_str_partition PySem.F.type_str_partition (de_name 0) de_str) (dg_tup (n := 3) (dgs_cons (dg_name 2) (dgs_cons (dg_name 3) (dgs_cons (dg_name 4) dgs_nil))))) (db_cons (μ1 := [.S, .S, .S, .S, .S, .S]) (ds_set 5 (de_tup (da_cons (de_call (ks := [.val, .val]) c_read_slip.to (dl_val (de_name 4) (dl_val (de_name 1) dl_nil))) (da_cons (de_call (ks := [.val]) c_number_read.to (dl_val (de_name 2) dl_nil)) da_nil)))) (db_cons (μ1 := [.S, .S, .S, .S, .S, .S]) (ds_expr (de_call (ks := [.val]) c_need.to (dl_val (de_and (de_call (ks := [.val, .val]) c_is_line.to (dl_val (de_name 5) (dl_val (de_callB f_len (da_cons (de_name 1) da_nil) (by exact t.b_len)) dl_nil))) (de_and (de_cmp c_le (de_ix (de_name 5) de_int) (de_gl t.g_MOST_BALLOTS.to)) (de_one (de_cmp c_eq (de_call (ks := [.val, .val]) c_show_line.to (dl_val (de_name 5) (dl_val (de_name 1) dl_nil))) (de_name 0))))) dl_nil))) (db_cons (μ1 := [.S, .S, .U, .U, .U, .U]) (ds_ret (μ' := [.S, .S, .U, .U, .U, .U]) (de_name 5)) db_nil)))))
theorem sc_read_line : FnScope ["text", "words", "number", "colon", "rest", "line"] ["text", "words"] (C8.fnScope (top 22)) := C8.fnScope_by (by decide +kernel)
theorem cal_read_line {Z : Sta} (t : Txt Z) (c_need_text : CalV Z 2 "need_text" [.S] (.S) F_need_text) (c_read_slip : CalV Z 3 "read_slip" [.S, .S] (.S) F_read_slip) (c_number_read : CalV Z 2 "number_read" [.S] (.S) F_number_read) (c_need : CalV Z 1 "need" [.S] (.S) F_need) (c_is_line : CalV Z 3 "is_line" [.S, .S] (.S) F_is_line) (c_show_line : CalV Z 3 "show_line" [.S, .S] (.S) F_show_line) (h : DefV Z "read_line" (top 22) ["text", "words"]) : CalV Z 4 "read_line" [.S, .S] (.S) F_read_line :=
  ⟨(calV_of (S := S_read_line Z) ⟨h.ex⟩ sc_read_line rfl (j := 4) rfl rfl (by decide) rfl (d_read_line t c_need_text c_read_slip c_number_read c_need c_is_line c_show_line)).ex⟩
noncomputable def C1__law_bag : M D := (bnd (bnd (eVar 1) fun x => bnd (ret []) fun xs => ret (x :: xs)) fun xs => opt (one absD xs))
noncomputable def G__law_bag : M Fl := (seqF (bnd (bnd (bnd (ret (.int 0)) fun x => bnd (bnd (ret (.int 1234567891)) fun x => bnd (bnd (ret (.int 0)) fun x => bnd (bnd (bnd (bnd (bnd (ret none) fun l => bnd (bnd (ret (.int 63)) fun x => opt (asI x)) fun h => bnd (eVar 0) fun x => opt (slLD x l h)) fun x => opt (lstI x)) fun ds => VL.guard (decide (ds.length ≤ sizeLine)) (bnd (lcM (gN 1) (ret true) C1__law_bag [1] ds) fun ys => ret (.lst ys))) fun x => bnd (ret []) fun xs => ret (x :: xs)) fun xs => ret (x :: xs)) fun xs => ret (x :: xs)) fun xs => ret (x :: xs)) fun xs => VL.guard (decide (xs.length ≤ sizeLine)) (ret (.lst xs))) fun d => ret (.ret d)) (ret .nx))
noncomputable def F__law_bag : List D → Out D := funF false 2 1 G__law_bag
abbrev S__law_bag (Z : Sta) : Sta := { Z with N := ["_law_script", "_law_cell"], sc := C8.fnScope (top 24), k := 0, top := true, fnn := fun _ => true, lm := none }
theorem d__law_bag {Z : Sta} (t : Txt Z) : DB (S__law_bag Z) ⟨.O .S, [], []⟩ [.Q, .U] (C8.fnBody (top 24)) [.Q, .U] G__law_bag :=
  (db_cons (μ1 := [.Q, .U]) (ds_ret (μ' := [.Q, .U]) (de_lst (da_cons de_int (da_cons de_int (da_cons de_int (da_cons (de_fz (de_lc (own := [("_law_cell", 1)]) (μ1 := [.Q, .U]) (μb := [.Q, .S]) (μe := [.Q, .S]) (di_list (de_fz (de_slO 0 (hl := do_none) (hh := (do_some de_int))))) (dg_name 1) df_nil (de_callB g_abs (da_cons (de_name 1) da_nil) (by exact t.b_abs)))) da_nil)))))) db_nil)
theorem sc__law_bag : FnScope ["_law_script", "_law_cell"] ["_law_script"] (C8.fnScope (top 24)) := C8.fnScope_by (by decide +kernel)
theorem cal__law_bag {Z : Sta} (t : Txt Z) (h : DefV Z "_law_bag" (top 24) ["_law_script"]) : CalV Z 1 "_law_bag" [.Q] (.O .S) F__law_bag :=
  ⟨(calV_of (S := S__law_bag Z) ⟨h.ex⟩ sc__law_bag rfl (j := 1) rfl rfl (by decide) rfl (d__law_bag t)).ex⟩
noncomputable def G__law_take : M Fl := (seqF (bnd (bnd (bnd (ret (.int 3)) fun y => bnd (eVar 0) fun x => opt (ixD x y)) fun x => bnd (bnd (bnd (bnd (ret []) fun xs => VL.guard (decide (xs.length ≤ sizeLine)) (ret (.lst xs))) fun x => bnd (bnd (bnd (bnd (ret (.int 1)) fun x => bnd (ret []) fun xs => ret (x :: xs)) fun xs => VL.guard (decide (xs.length ≤ sizeLine)) (ret (.lst xs))) fun x => bnd (ret []) fun xs => ret (x :: xs)) fun xs => ret (x :: xs)) fun xs => VL.guard (decide (xs.length ≤ sizeLine)) (ret (.tup xs))) fun y => opt (oB ((inB false) x y))) fun k => if k then (seqF (bnd (bnd (bnd (eVar 1) fun x => bnd (ret (.int 1)) fun y => opt (subD x y)) fun x => bnd (bnd (bnd (bnd (ret (.int 3)) fun y => bnd (eVar 0) fun x => opt (ixD x y)) fun x => bnd (ret []) fun xs => ret (x :: xs)) fun xs => opt (lenD xs)) fun y => opt (mulD x y)) fun d => ret (.ret d)) (ret .nx)) else (ret .nx)) (seqF (bnd (bnd (bnd (ret (.int 0)) fun y => bnd (eVar 0) fun x => opt (ixD x y)) fun x => bnd (ret (.int 0)) fun y => opt (oB (eqD x y))) fun k => if k then (seqF (bnd (ret (.int 0)) fun d => bnd (setS 2 d) fun _ => ret .nx) (seqF (bnd (bnd (bnd (ret (.int 2)) fun y => bnd (eVar 0) fun x => opt (ixD x y)) fun x => bnd (bnd (bnd (bnd (ret (.int 3)) fun y => bnd (eVar 0) fun x => opt (ixD x y)) fun x => bnd (ret []) fun xs => ret (x :: xs)) fun xs => opt (lenD xs)) fun y => opt (oB (ltD x y))) fun k => if k then (seqF (bnd (bnd (bnd (ret (.int 3)) fun y => bnd (eVar 0) fun x => opt (ixD x y)) fun x => bnd (bnd (ret (.int 2)) fun y => bnd (eVar 0) fun x => opt (ixD x y)) fun y => opt (ixD x y)) fun d => bnd (setS 2 d) fun _ => ret .nx) (ret .nx)) else (ret .nx)) (seqF (bnd (ret (.int 2)) fun i => bnd (eVar 0) fun x => bnd (opt (ixD x i)) fun old => bnd (ret (.int 1)) fun y => bnd (opt (addD old y)) fun z => bnd (eVar 0) fun x => bnd (opt (setIx x i z)) fun x' => bnd (setS 0 x') fun _ => ret .nx) (seqF (bnd (bnd (eVar 2) fun x => bnd (ret (.int 1000000000000000000)) fun y => opt (oB (geD x y))) fun k => if k then (seqF (bnd (eVar 2) fun d => bnd (ret (.int 0)) fun i => bnd (eVar 0) fun x => bnd (opt (setIx x i d)) fun x' => bnd (setS 0 x') fun _ => ret .nx) (ret .nx)) else (ret .nx)) (seqF (bnd (bnd (bnd (bnd (bnd (ret (.int 1)) fun y => bnd (eVar 0) fun x => opt (ixD x y)) fun x => bnd (ret (.int 48271)) fun y => opt (mulD x y)) fun x => bnd (bnd (bnd (bnd (eVar 2) fun x => bnd (ret []) fun xs => ret (x :: xs)) fun xs => opt (one intD xs)) fun x => bnd (ret (.int 2147483647)) fun y => opt (modD x y)) fun y => opt (addD x y)) fun x => bnd (bnd (ret (.int 7919)) fun x => bnd (bnd (ret (.int 2)) fun y => bnd (eVar 0) fun x => opt (ixD x y)) fun y => opt (mulD x y)) fun y => opt (addD x y)) fun d => bnd (setS 3 d) fun _ => ret .nx) (seqF (bnd (bnd (bnd (bnd (eVar 3) fun x => bnd (ret []) fun xs => ret (x :: xs)) fun xs => opt (one intD xs)) fun x => bnd (ret (.int 2147483647)) fun y => opt (modD x y)) fun d => bnd (ret (.int 1)) fun i => bnd (eVar 0) fun x => bnd (opt (setIx x i d)) fun x' => bnd (setS 0 x') fun _ => ret .nx) (killF 2 (killF 3 (ret .nx))))))))) else (ret .nx)) (seqF (bnd (bnd (bnd (ret (.int 0)) fun y => bnd (eVar 0) fun x => opt (ixD x y)) fun x => bnd (ret (.int 0)) fun y => opt (oB (gtD x y))) fun k => if k then (seqF (bnd (bnd (bnd (bnd (bnd (ret (.int 0)) fun y => bnd (eVar 0) fun x => opt (ixD x y)) fun x => bnd (ret []) fun xs => ret (x :: xs)) fun xs => opt (one intD xs)) fun x => bnd (eVar 1) fun y => opt (modD x y)) fun d => bnd (setS 4 d) fun _ => ret .nx) (seqF (bnd (bnd (bnd (bnd (bnd (ret (.int 0)) fun y => bnd (eVar 0) fun x => opt (ixD x y)) fun x => bnd (ret []) fun xs => ret (x :: xs)) fun xs => opt (one intD xs)) fun x => bnd (eVar 1) fun y => opt (fdivD x y)) fun d => bnd (ret (.int 0)) fun i => bnd (eVar 0) fun x => bnd (opt (setIx x i d)) fun x' => bnd (setS 0 x') fun _ => ret .nx) (seqF (bnd (eVar 4) fun d => ret (.ret d)) (ret .nx)))) else (ret .nx)) (seqF (bnd (bnd (bnd (bnd (bnd (bnd (bnd (ret (.int 1)) fun y => bnd (eVar 0) fun x => opt (ixD x y)) fun x => bnd (ret (.int 1)) fun y => opt (addD x y)) fun x => bnd (ret (.int 39373)) fun y => opt (mulD x y)) fun x => bnd (ret []) fun xs => ret (x :: xs)) fun xs => opt (one intD xs)) fun x => bnd (ret (.int 1000000007)) fun y => opt (modD x y)) fun d => bnd (setS 5 d) fun _ => ret .nx) (seqF (bnd (bnd (bnd (bnd (bnd (bnd (bnd (bnd (bnd (eVar 5) fun x => bnd (eVar 5) fun y => opt (mulD x y)) fun x => bnd (ret []) fun xs => ret (x :: xs)) fun xs => opt (one intD xs)) fun x => bnd (ret (.int 998244353)) fun y => opt (modD x y)) fun x => bnd (ret (.int 30011)) fun y => opt (mulD x y)) fun x => bnd (ret []) fun xs => ret (x :: xs)) fun xs => opt (one intD xs)) fun x => bnd (ret (.int 998244353)) fun y => opt (modD x y)) fun d => bnd (setS 6 d) fun _ => ret .nx) (seqF (bnd (bnd (bnd (bnd (bnd (eVar 6) fun x => bnd (ret (.int 7)) fun y => opt (fdivD x y)) fun x => bnd (ret []) fun xs => ret (x :: xs)) fun xs => opt (one intD xs)) fun x => bnd (eVar 1) fun y => opt (modD x y)) fun d => ret (.ret d)) (ret .nx)))))))
noncomputable def F__law_take : List D → Out D := funF false 7 2 G__law_take
abbrev S__law_take (Z : Sta) : Sta := { Z with N := ["_law_bag_here", "_law_many", "_law_cell", "_law_mixed_here", "_law_drawn", "_law_early", "_law_second"], sc := C8.fnScope (top 25), k := 0, top := true, fnn := fun _ => true, lm := none }
theorem d__law_take {Z : Sta} (t : Txt Z) : DB (S__law_take Z) ⟨.S, [], []⟩ [.B (.O .S), .S, .U, .U, .U, .U, .U] (C8.fnBody (top 25)) [.B (.O .S), .S, .U, .U, .U, .U, .U] G__law_take :=
  (db_cons (μ1 := [.B (.O .S), .S, .U, .U, .U, .U, .U]) (ds_if (μ' := [.B (.O .S), .S, .U, .U, .U, .U, .U]) (dt_cmp c_in (de_ixO 0 (hi := de_int)) (de_tup (da_cons (de_fz (de_lst da_nil)) (da_cons (de_fz (de_lst (da_cons de_int da_nil))) da_nil)))) (db_cons (μ1 := [.B (.O .S), .S, .U, .U, .U, .U, .U]) (ds_ret (μ' := [.B (.O .S), .S, .U, .U, .U, .U, .U]) (de_bin b_mul (de_bin b_sub (de_name 1) de_int) (de_callB f_len (da_cons (de_ixO 0 (hi := de_int)) da_nil) (by exact t.b_len)))) db_nil) db_nil) (db_cons (μ1 := [.B (.O .S), .S, .U, .U, .U, .U, .U]) (ds_if (μ' := [.B (.O .S), .S, .U, .U, .U, .U, .U]) (dt_cmp c_eq (de_ixO 0 (hi := de_int)) de_int) (db_cons (μ1 := [.B (.O .S), .S, .S, .U, .U, .U, .U]) (ds_set 2 de_int) (db_cons (μ1 := [.B (.O .S), .S, .S, .U, .U, .U, .U]) (ds_if (μ' := [.B (.O .S), .S, .S, .U, .U, .U, .U]) (dt_cmp c_lt (de_ixO 0 (hi := de_int)) (de_callB f_len (da_cons (de_ixO 0 (hi := de_int)) da_nil) (by exact t.b_len))) (db_cons (μ1 := [.B (.O .S), .S, .S, .U, .U, .U, .U]) (ds_set 2 (de_ix (de_ixO 0 (hi := de_int)) (de_ixO 0 (hi := de_int)))) db_nil) db_nil) (db_cons (μ1 := [.B (.O .S), .S, .S, .U, .U, .U, .U]) (ds_augix 0 a_add de_int de_int) (db_cons (μ1 := [.B (.O .S), .S, .S, .U, .U, .U, .U]) (ds_if (μ' := [.B (.O .S), .S, .S, .U, .U, .U, .U]) (dt_cmp c_ge (de_name 2) de_int) (db_cons (μ1 := [.B (.O .S), .S, .S, .U, .U, .U, .U]) (ds_setix 0 (de_name 2) de_int) db_nil) db_nil) (db_cons (μ1 := [.B (.O .S), .S, .S, .S, .U, .U, .U]) (ds_set 3 (de_bin b_add (de_bin b_add (de_bin b_mul (de_ixO 0 (hi := de_int)) de_int) (de_bin b_mod (de_callT g_int (da_cons (de_name 2) da_nil) (by exact t.b_int)) de_int)) (de_bin b_mul de_int (de_ixO 0 (hi := de_int))))) (db_cons (μ1 := [.B (.O .S), .S, .S, .S, .U, .U, .U]) (ds_setix 0 (de_bin b_mod (de_callT g_int (da_cons (de_name 3) da_nil) (by exact t.b_int)) de_int) de_int) (db_kill 2 (db_kill 3 db_nil)))))))) db_nil) (db_cons (μ1 := [.B (.O .S), .S, .U, .U, .U, .U, .U]) (ds_if (μ' := [.B (.O .S), .S, .U, .U, .U, .U, .U]) (dt_cmp c_gt (de_ixO 0 (hi := de_int)) de_int) (db_cons (μ1 := [.B (.O .S), .S, .U, .U, .S, .U, .U]) (ds_set 4 (de_bin b_mod (de_callT g_int (da_cons (de_ixO 0 (hi := de_int)) da_nil) (by exact t.b_int)) (de_name 1))) (db_cons (μ1 := [.B (.O .S), .S, .U, .U, .S, .U, .U]) (ds_setix 0 (de_bin b_fdiv (de_callT g_int (da_cons (de_ixO 0 (hi := de_int)) da_nil) (by exact t.b_int)) (de_name 1)) de_int) (db_cons (μ1 := [.B (.O .S), .S, .U, .U, .U, .U, .U]) (ds_ret (μ' := [.B (.O .S), .S, .U, .U, .U, .U, .U]) (de_name 4)) db_nil))) db_nil) (db_cons (μ1 := [.B (.O .S), .S, .U, .U, .U, .S, .U]) (ds_set 5 (de_bin b_mod (de_callT g_int (da_cons (de_bin b_mul (de_bin b_add (de_ixO 0 (hi := de_int)) de_int) de_int) da_nil) (by exact t.b_int)) de_int)) (db_cons (μ1 := [.B (.O .S), .S, .U, .U, .U, .S, .S]) (ds_set 6 (de_bin b_mod (de_callT g_int (da_cons (de_bin b_mul (de_bin b_mod (de_callT g_int (da_cons (de_bin b_mul (de_name 5) (de_name 5)) da_nil) (by exact t.b_int)) de_int) de_int) da_nil) (by exact t.b_int)) de_int)) (db_cons (μ1 := [.B (.O .S), .S, .U, .U, .U, .U, .U]) (ds_ret (μ' := [.B (.O .S), .S, .U, .U, .U, .U, .U]) (de_bin b_mod (de_callT g_int (da_cons (de_bin b_fdiv (de_name 6) de_int) da_nil) (by exact t.b_int)) (de_name 1))) db_nil))))))
theorem sc__law_take : FnScope ["_law_bag_here", "_law_many", "_law_cell", "_law_mixed_here", "_law_drawn", "_law_early", "_law_second"] ["_law_bag_here", "_law_many"] (C8.fnScope (top 25)) := C8.fnScope_by (by decide +kernel)
theorem cal__law_take {Z : Sta} (t : Txt Z) (h : DefV Z "_law_take" (top 25) ["_law_bag_here", "_law_many"]) : CalV Z 1 "_law_take" [.B (.O .S), .S] (.S) F__law_take :=
  ⟨(calV_of (S := S__law_take Z) ⟨h.ex⟩ sc__law_take rfl (j := 5) rfl rfl (by decide) rfl (d__law_take t)).ex⟩
noncomputable def L1__law_mixed : M Fl := (seqF (bnd (eVar 2) fun x0 => VL.guard (isLst x0) (bnd (bnd (bnd (bnd (bnd (bnd (bnd (eVar 2) fun x => VL.guard (isLst x) (opt (lenD [x]))) fun x => bnd (ret (.int 1)) fun y => opt (addD x y)) fun x => bnd (ret []) fun xs => ret (x :: xs)) fun xs => ret (.non :: xs)) (callM [.lend 0, .val] F__law_take)) fun x => bnd (bnd (eVar 3) fun x => bnd (ret []) fun xs => ret (x :: xs)) fun xs => ret (x :: xs)) fun xs => bnd (eVar 2) fun x => bnd (opt (mutD insL x xs)) fun x' => bnd (setS 2 x') fun _ => ret .nx)) (killF 3 (ret .nx)))
noncomputable def G__law_mixed : M Fl := (seqF (bnd (bnd (ret []) fun xs => VL.guard (decide (xs.length ≤ sizeLine)) (ret (.lst xs))) fun d => bnd (setS 2 d) fun _ => ret .nx) (seqF (bnd (bnd (eVar 1) fun x => opt (lstI x)) fun ds => loopM (gN 3) L1__law_mixed ds) (seqF (bnd (eVar 2) fun d => ret (.ret d)) (ret .nx))))
noncomputable def F__law_mixed : List D → Out D := funF false 4 2 G__law_mixed
abbrev S__law_mixed (Z : Sta) : Sta := { Z with N := ["_law_bag_here", "_law_things", "_law_found", "_law_thing"], sc := C8.fnScope (top 26), k := 1, top := true, fnn := fun _ => true, lm := none }
theorem d__law_mixed {Z : Sta} (t : Txt Z) (c__law_take : CalV Z 1 "_law_take" [.B (.O .S), .S] (.S) F__law_take) : DB (S__law_mixed Z) ⟨.S, [], []⟩ [.B (.O .S), .S, .U, .U] (C8.fnBody (top 26)) [.B (.O .S), .S, .U, .U] G__law_mixed :=
  (db_cons (μ1 := [.B (.O .S), .S, .O .S, .U]) (ds_set 2 (de_lst da_nil)) (db_cons (μ1 := [.B (.O .S), .S, .O .S, .U]) (ds_for (μ1 := [.B (.O .S), .S, .O .S, .U]) (μb := [.B (.O .S), .S, .O .S, .S]) (di_list (de_name 1)) (dg_name 3) (db_cons (μ1 := [.B (.O .S), .S, .O .S, .S]) (ds_mut 2 l_insert PySem.F.slot_list_insert PySem.F.type_list_insert (da_cons (de_call (ks := [.lend 0, .val]) c__law_take.to (dl_lend 0 (dl_val (de_bin b_add (de_lenO 2 (by exact t.b_len)) de_int) dl_nil))) (da_cons (de_name 3) da_nil))) (db_kill 3 db_nil))) (db_cons (μ1 := [.B (.O .S), .S, .U, .U]) (ds_share 2 (ds_ret (μ' := [.B (.O .S), .S, .U, .U]) (de_name 2))) db_nil)))
theorem sc__law_mixed : FnScope ["_law_bag_here", "_law_things", "_law_found", "_law_thing"] ["_law_bag_here", "_law_things"] (C8.fnScope (top 26)) := C8.fnScope_by (by decide +kernel)
theorem cal__law_mixed {Z : Sta} (t : Txt Z) (c__law_take : CalV Z 1 "_law_take" [.B (.O .S), .S] (.S) F__law_take) (h : DefV Z "_law_mixed" (top 26) ["_law_bag_here", "_law_things"]) : CalV Z 2 "_law_mixed" [.B (.O .S), .S] (.S) F__law_mixed :=
  ⟨(calV_of (S := S__law_mixed Z) ⟨h.ex⟩ sc__law_mixed rfl (j := 2) rfl rfl (by decide) rfl (d__law_mixed t c__law_take)).ex⟩
noncomputable def G__law_alike : M Fl := (seqF (bnd (bnd (bnd (eVar 0) fun x => bnd (eVar 1) fun y => opt (eqD x y)) fun x => bnd (opt (asB x)) fun k => if k then (bnd (bnd (bnd (eVar 0) fun x => bnd (ret []) fun xs => ret (x :: xs)) fun xs => opt (reprD xs)) fun x => bnd (bnd (bnd (eVar 1) fun x => bnd (ret []) fun xs => ret (x :: xs)) fun xs => opt (reprD xs)) fun y => opt (eqD x y)) else ret (.bl false)) fun d => ret (.ret d)) (ret .nx))
noncomputable def F__law_alike : List D → Out D := funF false 2 2 G__law_alike
abbrev S__law_alike (Z : Sta) : Sta := { Z with N := ["_law_found", "_law_due"], sc := C8.fnScope (top 27), k := 0, top := true, fnn := fun _ => true, lm := none }
theorem d__law_alike {Z : Sta} (t : Txt Z) (hgd : Z.gd = true) : DB (S__law_alike Z) ⟨.S, [], []⟩ [.S, .S] (C8.fnBody (top 27)) [.S, .S] G__law_alike :=
  (db_cons (μ1 := [.S, .S]) (ds_ret (μ' := [.S, .S]) (de_and (de_cmp c_eq (de_name 0) (de_name 1)) (de_one (de_cmp c_eq (de_callB (f_repr hgd) (da_cons (de_name 0) da_nil) (by exact t.b_repr)) (de_callB (f_repr hgd) (da_cons (de_name 1) da_nil) (by exact t.b_repr)))))) db_nil)
theorem sc__law_alike : FnScope ["_law_found", "_law_due"] ["_law_found", "_law_due"] (C8.fnScope (top 27)) := C8.fnScope_by (by decide +kernel)
theorem cal__law_alike {Z : Sta} (t : Txt Z) (hgd : Z.gd = true) (h : DefV Z "_law_alike" (top 27) ["_law_found", "_law_due"]) : CalV Z 1 "_law_alike" [.S, .S] (.S) F__law_alike :=
  ⟨(calV_of (S := S__law_alike Z) ⟨h.ex⟩ sc__law_alike rfl (j := 0) rfl rfl (by decide) rfl (d__law_alike t hgd)).ex⟩
noncomputable def C1__law_slip : M D := (bnd (bnd (bnd (ret (.int 4)) fun x => bnd (ret []) fun xs => ret (x :: xs)) fun xs => ret (.non :: xs)) (callM [.lend 0, .val] F__law_take))
noncomputable def T2__law_slip : M Bool := (bnd (bnd (eVar 4) fun x => bnd (eVar 7) fun y => opt (ixD x y)) fun x => bnd (eVar 5) fun y => opt (oB (eqD x y)))
noncomputable def C2__law_slip : M D := (bnd (ret (.int 1)) fun x => bnd (eVar 7) fun y => opt (shlD x y))
noncomputable def L1__law_slip : M Fl := (seqF (bnd (bnd (bnd (bnd (bnd (bnd (eVar 1) fun x => bnd (ret []) fun xs => ret (x :: xs)) fun xs => opt (range1I xs)) fun ds => VL.guard (decide (ds.length ≤ sizeLine)) (bnd (lcM (gN 7) T2__law_slip C2__law_slip [7] ds) fun ys => ret (.lst ys))) fun x => bnd (ret []) fun xs => ret (x :: xs)) fun xs => opt (one sumD xs)) fun d => bnd (setS 6 d) fun _ => ret .nx) (seqF (bnd (bnd (eVar 6) fun x => bnd (ret (.int 0)) fun y => opt (oB (gtD x y))) fun k => if k then (seqF (bnd (eVar 3) fun x0 => VL.guard (isLst x0) (bnd (bnd (eVar 6) fun x => bnd (ret []) fun xs => ret (x :: xs)) fun xs => bnd (eVar 3) fun x => bnd (opt (mutD appL x xs)) fun x' => bnd (setS 3 x') fun _ => ret .nx)) (killF 5 (killF 6 (ret .nx)))) else (killF 5 (killF 6 (ret .nx)))) (ret .nx)))
noncomputable def G__law_slip : M Fl := (seqF (bnd (bnd (bnd (bnd (bnd (ret (.int 5)) fun x => bnd (ret []) fun xs => ret (x :: xs)) fun xs => ret (.non :: xs)) (callM [.lend 0, .val] F__law_take)) fun x => bnd (bnd (bnd (ret []) fun xs => VL.guard (decide (xs.length ≤ sizeLine)) (ret (.lst xs))) fun x => bnd (ret []) fun xs => ret (x :: xs)) fun xs => ret (x :: xs)) fun xs => fun ρ => .ok .nx (sets [2, 3] xs ρ)) (seqF (bnd (bnd (eVar 2) fun x => bnd (ret (.int 0)) fun y => opt (oB (eqD x y))) fun k => if k then (seqF (bnd (bnd (ret []) fun xs => VL.guard (decide (xs.length ≤ sizeLine)) (ret (.tup xs))) fun d => ret (.ret d)) (ret .nx)) else (ret .nx)) (seqF (bnd (bnd (eVar 2) fun x => bnd (ret (.int 4)) fun y => opt (oB (ltD x y))) fun k => if k then (seqF (bnd (bnd (bnd (bnd (ret (.int 1)) fun x => bnd (bnd (bnd (bnd (eVar 1) fun x => bnd (ret []) fun xs => ret (x :: xs)) fun xs => ret (.non :: xs)) (callM [.lend 0, .val] F__law_take)) fun y => opt (shlD x y)) fun x => bnd (ret []) fun xs => ret (x :: xs)) fun xs => VL.guard (decide (xs.length ≤ sizeLine)) (ret (.tup xs))) fun d => ret (.ret d)) (ret .nx)) else (ret .nx)) (seqF (bnd (bnd (bnd (bnd (eVar 1) fun x => bnd (ret []) fun xs => ret (x :: xs)) fun xs => opt (range1I xs)) fun ds => VL.guard (decide (ds.length ≤ sizeLine)) (bnd (lcM (gN 7) (ret true) C1__law_slip [7] ds) fun ys => ret (.lst ys))) fun d => bnd (setS 4 d) fun _ => ret .nx) (seqF (bnd (bnd (bnd (bnd (ret (.int 1)) fun x => bnd (bnd (ret (.int 2)) fun x => bnd (bnd (ret (.int 3)) fun x => bnd (ret []) fun xs => ret (x :: xs)) fun xs => ret (x :: xs)) fun xs => ret (x :: xs)) fun xs => VL.guard (decide (xs.length ≤ sizeLine)) (ret (.tup xs))) fun x => opt (tupI x)) fun ds => loopM (gN 5) L1__law_slip ds) (seqF (bnd (bnd (bnd (eVar 3) fun x => bnd (ret []) fun xs => ret (x :: xs)) fun xs => opt (tupleD xs)) fun d => ret (.ret d)) (ret .nx)))))))
noncomputable def F__law_slip : List D → Out D := funF false 8 2 G__law_slip
abbrev S__law_slip (Z : Sta) : Sta := { Z with N := ["_law_bag_here", "_law_hands", "_law_way", "_law_tiers", "_law_ranks", "_law_rank", "_law_mask", "_law_hand"], sc := C8.fnScope (top 28), k := 1, top := true, fnn := fun _ => true, lm := none }
theorem d__law_slip {Z : Sta} (t : Txt Z) (c__law_take : CalV Z 1 "_law_take" [.B (.O .S), .S] (.S) F__law_take) : DB (S__law_slip Z) ⟨.S, [], []⟩ [.B (.O .S), .S, .U, .U, .U, .U, .U, .U] (C8.fnBody (top 28)) [.B (.O .S), .S, .U, .U, .U, .U, .U, .U] G__law_slip :=
  (db_cons (μ1 := [.B (.O .S), .S, .S, .O .S, .U, .U, .U, .U]) (ds_par2 2 3 (ms := [.S, .O .S]) (dv_cons (de_call (ks := [.lend 0, .val]) c__law_take.to (dl_lend 0 (dl_val de_int dl_nil))) (dv_cons (de_lst da_nil) dv_nil)) (hw := by intro env e; cases env; subst e; rfl)) (db_cons (μ1 := [.B (.O .S), .S, .S, .O .S, .U, .U, .U, .U]) (ds_if (μ' := [.B (.O .S), .S, .S, .O .S, .U, .U, .U, .U]) (dt_cmp c_eq (de_name 2) de_int) (db_cons (μ1 := [.B (.O .S), .S, .S, .O .S, .U, .U, .U, .U]) (ds_ret (μ' := [.B (.O .S), .S, .S, .O .S, .U, .U, .U, .U]) (de_tup da_nil)) db_nil) db_nil) (db_cons (μ1 := [.B (.O .S), .S, .S, .O .S, .U, .U, .U, .U]) (ds_if (μ' := [.B (.O .S), .S, .S, .O .S, .U, .U, .U, .U]) (dt_cmp c_lt (de_name 2) de_int) (db_cons (μ1 := [.B (.O .S), .S, .S, .O .S, .U, .U, .U, .U]) (ds_ret (μ' := [.B (.O .S), .S, .S, .O .S, .U, .U, .U, .U]) (de_tup (da_cons (de_bin b_shl de_int (de_call (ks := [.lend 0, .val]) c__law_take.to (dl_lend 0 (dl_val (de_name 1) dl_nil)))) da_nil))) db_nil) db_nil) (db_cons (μ1 := [.B (.O .S), .S, .S, .O .S, .S, .U, .U, .U]) (ds_set 4 (de_fz (de_lc (own := [("_law_hand", 7)]) (μ1 := [.B (.O .S), .S, .S, .O .S, .U, .U, .U, .U]) (μb := [.B (.O .S), .S, .S, .O .S, .U, .U, .U, .S]) (μe := [.B (.O .S), .S, .S, .O .S, .U, .U, .U, .S]) (di_range1 (da_cons (de_name 1) da_nil) (by exact t.b_range)) (dg_name 7) df_nil (de_call (ks := [.lend 0, .val]) c__law_take.to (dl_lend 0 (dl_val de_int dl_nil)))))) (db_cons (μ1 := [.B (.O .S), .S, .S, .O .S, .S, .U, .U, .U]) (ds_for (μ1 := [.B (.O .S), .S, .S, .O .S, .S, .U, .U, .U]) (μb := [.B (.O .S), .S, .S, .O .S, .S, .S, .U, .U]) (di_tup (de_tup (da_cons de_int (da_cons de_int (da_cons de_int da_nil))))) (dg_name 5) (db_cons (μ1 := [.B (.O .S), .S, .S, .O .S, .S, .S, .S, .U]) (ds_set 6 (de_callB g_sum (da_cons (de_fz (de_lc (own := [("_law_hand", 7)]) (μ1 := [.B (.O .S), .S, .S, .O .S, .S, .S, .U, .U]) (μb := [.B (.O .S), .S, .S, .O .S, .S, .S, .U, .S]) (μe := [.B (.O .S), .S, .S, .O .S, .S, .S, .U, .S]) (di_range1 (da_cons (de_name 1) da_nil) (by exact t.b_range)) (dg_name 7) (df_one (dt_cmp c_eq (de_ix (de_name 4) (de_name 7)) (de_name 5))) (de_bin b_shl de_int (de_name 7)))) da_nil) (by exact t.b_sum))) (db_cons (μ1 := [.B (.O .S), .S, .S, .O .S, .S, .U, .U, .U]) (ds_if (μ' := [.B (.O .S), .S, .S, .O .S, .S, .U, .U, .U]) (dt_cmp c_gt (de_name 6) de_int) (db_cons (μ1 := [.B (.O .S), .S, .S, .O .S, .S, .S, .S, .U]) (ds_mut 3 l_append PySem.F.slot_list_append PySem.F.type_list_append (da_cons (de_name 6) da_nil)) (db_kill 5 (db_kill 6 db_nil))) (db_kill 5 (db_kill 6 db_nil))) db_nil))) (db_cons (μ1 := [.B (.O .S), .S, .U, .U, .U, .U, .U, .U]) (ds_share 3 (ds_ret (μ' := [.B (.O .S), .S, .U, .U, .U, .U, .U, .U]) (de_callT f_tuple (da_cons (de_name 3) da_nil) (by exact t.b_tuple)))) db_nil))))))
theorem sc__law_slip : FnScope ["_law_bag_here", "_law_hands", "_law_way", "_law_tiers", "_law_ranks", "_law_rank", "_law_mask", "_law_hand"] ["_law_bag_here", "_law_hands"] (C8.fnScope (top 28)) := C8.fnScope_by (by decide +kernel)
theorem cal__law_slip {Z : Sta} (t : Txt Z) (c__law_take : CalV Z 1 "_law_take" [.B (.O .S), .S] (.S) F__law_take) (h : DefV Z "_law_slip" (top 28) ["_law_bag_here", "_law_hands"]) : CalV Z 2 "_law_slip" [.B (.O .S), .S] (.S) F__law_slip :=
  ⟨(calV_of (S := S__law_slip Z) ⟨h.ex⟩ sc__law_slip rfl (j := 6) rfl rfl (by decide) rfl (d__law_slip t c__law_take)).ex⟩
noncomputable def G__law_words : M Fl := (seqF (bnd (bnd (ret (.str "ann bob cy a b abcdefgh roll mail comes goes strike void bundle recount put out none ab ba z")) fun x => VL.guard (isStr x) (bnd (ret (.str " ")) fun y => opt (splitD x [y]))) fun d => bnd (setS 2 d) fun _ => ret .nx) (seqF (bnd (bnd (bnd (bnd (bnd (bnd (ret (.int 2)) fun x => bnd (ret []) fun xs => ret (x :: xs)) fun xs => ret (.non :: xs)) (callM [.lend 0, .val] F__law_take)) fun x => bnd (ret (.int 1)) fun y => opt (oB (eqD x y))) fun k => if k then (bnd (bnd (bnd (bnd (eVar 2) fun x => bnd (ret []) fun xs => ret (x :: xs)) fun xs => ret (.non :: xs)) (callM [.lend 0, .val] F__law_mixed)) fun x => bnd (ret none) fun l => bnd (bnd (eVar 1) fun x => opt (asI x)) fun h => opt (slLD x l h)) else (bnd (eVar 2) fun x => bnd (ret none) fun l => bnd (bnd (eVar 1) fun x => opt (asI x)) fun h => opt (slLD x l h))) fun d => ret (.ret d)) (ret .nx)))
noncomputable def F__law_words : List D → Out D := funF false 3 2 G__law_words
abbrev S__law_words (Z : Sta) : Sta := { Z with N := ["_law_bag_here", "_law_hands", "_law_some"], sc := C8.fnScope (top 29), k := 2, top := true, fnn := fun _ => true, lm := none }
theorem d__law_words {Z : Sta} (t : Txt Z) (c__law_take : CalV Z 1 "_law_take" [.B (.O .S), .S] (.S) F__law_take) (c__law_mixed : CalV Z 2 "_law_mixed" [.B (.O .S), .S] (.S) F__law_mixed) : DB (S__law_words Z) ⟨.S, [], []⟩ [.B (.O .S), .S, .U] (C8.fnBody (top 29)) [.B (.O .S), .S, .U] G__law_words :=
  (db_cons (μ1 := [.B (.O .S), .S, .S]) (ds_set 2 (de_fz (de_m1 t_split PySem.F.slot_str_split PySem.F.type_str_split de_str de_str))) (db_cons (μ1 := [.B (.O .S), .S, .U]) (ds_ret (μ' := [.B (.O .S), .S, .U]) (de_fz (de_if (dt_cmp c_eq (de_call (ks := [.lend 0, .val]) c__law_take.to (dl_lend 0 (dl_val de_int dl_nil))) de_int) (de_slL (de_call (ks := [.lend 0, .val]) c__law_mixed.to (dl_lend 0 (dl_val (de_name 2) dl_nil))) do_none (do_some (de_name 1))) (de_slL (de_name 2) do_none (do_some (de_name 1)))))) db_nil))
theorem sc__law_words : FnScope ["_law_bag_here", "_law_hands", "_law_some"] ["_law_bag_here", "_law_hands"] (C8.fnScope (top 29)) := C8.fnScope_by (by decide +kernel)
theorem cal__law_words {Z : Sta} (t : Txt Z) (c__law_take : CalV Z 1 "_law_take" [.B (.O .S), .S] (.S) F__law_take) (c__law_mixed : CalV Z 2 "_law_mixed" [.B (.O .S), .S] (.S) F__law_mixed) (h : DefV Z "_law_words" (top 29) ["_law_bag_here", "_law_hands"]) : CalV Z 3 "_law_words" [.B (.O .S), .S] (.S) F__law_words :=
  ⟨(calV_of (S := S__law_words Z) ⟨h.ex⟩ sc__law_words rfl (j := 1) rfl rfl (by decide) rfl (d__law_words t c__law_take c__law_mixed)).ex⟩
noncomputable def T1__law_slip_text : M Bool := (bnd (bnd (bnd (bnd (bnd (eVar 3) fun x => bnd (bnd (ret (.int 1)) fun x => bnd (eVar 5) fun y => opt (shlD x y)) fun y => opt (fdivD x y)) fun x => bnd (ret []) fun xs => ret (x :: xs)) fun xs => opt (one intD xs)) fun x => bnd (ret (.int 2)) fun y => opt (modD x y)) fun x => bnd (ret (.int 1)) fun y => opt (oB (eqD x y)))
noncomputable def C1__law_slip_text : M D := (eVar 6)
noncomputable def L1__law_slip_text : M Fl := (seqF (bnd (bnd (bnd (bnd (eVar 1) fun x => bnd (ret []) fun xs => ret (x :: xs)) fun xs => opt (enumI xs)) fun ds => VL.guard (decide (ds.length ≤ sizeLine)) (bnd (lcM (gT 2 (gsC (gN 5) (gsC (gN 6) gs0))) T1__law_slip_text C1__law_slip_text [5, 6] ds) fun ys => ret (.lst ys))) fun d => bnd (setS 4 d) fun _ => ret .nx) (seqF (bnd (eVar 2) fun x0 => VL.guard (isLst x0) (bnd (bnd (bnd (ret (.str "=")) fun x => VL.guard (isStr x) (bnd (eVar 4) fun y => opt (joinD x [y]))) fun x => bnd (ret []) fun xs => ret (x :: xs)) fun xs => bnd (eVar 2) fun x => bnd (opt (mutD appL x xs)) fun x' => bnd (setS 2 x') fun _ => ret .nx)) (killF 3 (killF 4 (ret .nx)))))
noncomputable def G__law_slip_text : M Fl := (seqF (bnd (bnd (eVar 0) fun x => bnd (bnd (ret []) fun xs => VL.guard (decide (xs.length ≤ sizeLine)) (ret (.tup xs))) fun y => opt (oB (eqD x y))) fun k => if k then (seqF (bnd (ret (.str "-")) fun d => ret (.ret d)) (ret .nx)) else (ret .nx)) (seqF (bnd (bnd (ret []) fun xs => VL.guard (decide (xs.length ≤ sizeLine)) (ret (.lst xs))) fun d => bnd (setS 2 d) fun _ => ret .nx) (seqF (bnd (bnd (eVar 0) fun x => opt (tupI x)) fun ds => loopM (gN 3) L1__law_slip_text ds) (seqF (bnd (bnd (ret (.str ">")) fun x => VL.guard (isStr x) (bnd (eVar 2) fun y => opt (joinD x [y]))) fun d => ret (.ret d)) (ret .nx)))))
noncomputable def F__law_slip_text : List D → Out D := funF false 7 2 G__law_slip_text
abbrev S__law_slip_text (Z : Sta) : Sta := { Z with N := ["_law_slip_here", "_law_words_here", "_law_tiers", "_law_mask", "_law_some", "_law_hand", "_law_word"], sc := C8.fnScope (top 30), k := 0, top := true, fnn := fun _ => true, lm := none }
theorem d__law_slip_text {Z : Sta} (t : Txt Z) : DB (S__law_slip_text Z) ⟨.S, [], []⟩ [.S, .S, .U, .U, .U, .U, .U] (C8.fnBody (top 30)) [.S, .S, .U, .U, .U, .U, .U] G__law_slip_text :=
  (db_cons (μ1 := [.S, .S, .U, .U, .U, .U, .U]) (ds_if (μ' := [.S, .S, .U, .U, .U, .U, .U]) (dt_cmp c_eq (de_name 0) (de_tup da_nil)) (db_cons (μ1 := [.S, .S, .U, .U, .U, .U, .U]) (ds_ret (μ' := [.S, .S, .U, .U, .U, .U, .U]) de_str) db_nil) db_nil) (db_cons (μ1 := [.S, .S, .O .S, .U, .U, .U, .U]) (ds_set 2 (de_lst da_nil)) (db_cons (μ1 := [.S, .S, .O .S, .U, .U, .U, .U]) (ds_for (μ1 := [.S, .S, .O .S, .U, .U, .U, .U]) (μb := [.S, .S, .O .S, .S, .U, .U, .U]) (di_tup (de_name 0)) (dg_name 3) (db_cons (μ1 := [.S, .S, .O .S, .S, .O .S, .U, .U]) (ds_setLc 4 (own := [("_law_hand", 5), ("_law_word", 6)]) (μ1 := [.S, .S, .O .S, .S, .U, .U, .U]) (μb := [.S, .S, .O .S, .S, .U, .S, .S]) (μe := [.S, .S, .O .S, .S, .U, .S, .S]) (di_enum (da_cons (de_name 1) da_nil) (by exact t.b_enumerate)) (dg_tup (n := 2) (dgs_cons (dg_name 5) (dgs_cons (dg_name 6) dgs_nil))) (df_one (dt_cmp c_eq (de_bin b_mod (de_callT g_int (da_cons (de_bin b_fdiv (de_name 3) (de_bin b_shl de_int (de_name 5))) da_nil) (by exact t.b_int)) de_int) de_int)) (de_name 6)) (db_share 4 (db_cons (μ1 := [.S, .S, .O .S, .S, .S, .U, .U]) (ds_mut 2 l_append PySem.F.slot_list_append PySem.F.type_list_append (da_cons (de_m1 t_join PySem.F.slot_str_join PySem.F.type_str_join de_str (de_name 4)) da_nil)) (db_kill 3 (db_kill 4 db_nil)))))) (db_cons (μ1 := [.S, .S, .U, .U, .U, .U, .U]) (ds_share 2 (ds_ret (μ' := [.S, .S, .U, .U, .U, .U, .U]) (de_m1 t_join PySem.F.slot_str_join PySem.F.type_str_join de_str (de_name 2)))) db_nil))))
theorem sc__law_slip_text : FnScope ["_law_slip_here", "_law_words_here", "_law_tiers", "_law_mask", "_law_some", "_law_hand", "_law_word"] ["_law_slip_here", "_law_words_here"] (C8.fnScope (top 30)) := C8.fnScope_by (by decide +kernel)
theorem cal__law_slip_text {Z : Sta} (t : Txt Z) (h : DefV Z "_law_slip_text" (top 30) ["_law_slip_here", "_law_words_here"]) : CalV Z 1 "_law_slip_text" [.S, .S] (.S) F__law_slip_text :=
  ⟨(calV_of (S := S__law_slip_text Z) ⟨h.ex⟩ sc__law_slip_text rfl (j := 5) rfl rfl (by decide) rfl (d__law_slip_text t)).ex⟩
noncomputable def G__law_line_text : M Fl := (seqF (bnd (bnd (bnd (bnd (bnd (bnd (eVar 0) fun x => bnd (ret (.int 1)) fun y => opt (ixD x y)) fun x => bnd (ret []) fun xs => ret (x :: xs)) fun xs => opt (one strD xs)) fun x => bnd (ret (.str ":")) fun y => opt (addD x y)) fun x => bnd (bnd (bnd (bnd (eVar 0) fun x => bnd (ret (.int 0)) fun y => opt (ixD x y)) fun x => bnd (bnd (eVar 1) fun x => bnd (ret []) fun xs => ret (x :: xs)) fun xs => ret (x :: xs)) (callM [.val, .val] F__law_slip_text)) fun y => opt (addD x y)) fun d => ret (.ret d)) (ret .nx))
noncomputable def F__law_line_text : List D → Out D := funF false 2 2 G__law_line_text
abbrev S__law_line_text (Z : Sta) : Sta := { Z with N := ["_law_line", "_law_words_here"], sc := C8.fnScope (top 31), k := 1, top := true, fnn := fun _ => true, lm := none }
theorem d__law_line_text {Z : Sta} (t : Txt Z) (c__law_slip_text : CalV Z 1 "_law_slip_text" [.S, .S] (.S) F__law_slip_text) : DB (S__law_line_text Z) ⟨.S, [], []⟩ [.S, .S] (C8.fnBody (top 31)) [.S, .S] G__law_line_text :=
  (db_cons (μ1 := [.S, .S]) (ds_ret (μ' := [.S, .S]) (de_bin b_add (de_bin b_add (de_callT g_str (da_cons (de_ix (de_name 0) de_int) da_nil) (by exact t.b_str)) de_str) (de_call (ks := [.val, .val]) c__law_slip_text.to (dl_val (de_ix (de_name 0) de_int) (dl_val (de_name 1) dl_nil))))) db_nil)
theorem sc__law_line_text : FnScope ["_law_line", "_law_words_here"] ["_law_line", "_law_words_here"] (C8.fnScope (top 31)) := C8.fnScope_by (by decide +kernel)
theorem cal__law_line_text {Z : Sta} (t : Txt Z) (c__law_slip_text : CalV Z 1 "_law_slip_text" [.S, .S] (.S) F__law_slip_text) (h : DefV Z "_law_line_text" (top 31) ["_law_line", "_law_words_here"]) : CalV Z 2 "_law_line_text" [.S, .S] (.S) F__law_line_text :=
  ⟨(calV_of (S := S__law_line_text Z) ⟨h.ex⟩ sc__law_line_text rfl (j := 0) rfl rfl (by decide) rfl (d__law_line_text t c__law_slip_text)).ex⟩
noncomputable def T1__law_turned : M Bool := (bnd (bnd (bnd (bnd (bnd (eVar 4) fun x => bnd (bnd (ret (.int 1)) fun x => bnd (eVar 6) fun y => opt (shlD x y)) fun y => opt (fdivD x y)) fun x => bnd (ret []) fun xs => ret (x :: xs)) fun xs => opt (one intD xs)) fun x => bnd (ret (.int 2)) fun y => opt (modD x y)) fun x => bnd (ret (.int 1)) fun y => opt (oB (eqD x y)))
noncomputable def C1__law_turned : M D := (bnd (eVar 2) fun x => VL.guard (isLst x) (bnd (bnd (eVar 7) fun x => bnd (ret []) fun xs => ret (x :: xs)) fun ys => opt (indexD x ys)))
noncomputable def C2__law_turned : M D := (bnd (ret (.int 1)) fun x => bnd (eVar 8) fun y => opt (shlD x y))
noncomputable def L1__law_turned : M Fl := (seqF (bnd (bnd (bnd (bnd (eVar 1) fun x => bnd (ret []) fun xs => ret (x :: xs)) fun xs => opt (enumI xs)) fun ds => VL.guard (decide (ds.length ≤ sizeLine)) (bnd (lcM (gT 2 (gsC (gN 6) (gsC (gN 7) gs0))) T1__law_turned C1__law_turned [6, 7] ds) fun ys => ret (.lst ys))) fun d => bnd (setS 5 d) fun _ => ret .nx) (seqF (bnd (bnd (eVar 5) fun x => bnd (bnd (bnd (eVar 5) fun x => bnd (ret []) fun xs => ret (x :: xs)) fun xs => opt (sortedD xs)) fun y => opt (oB (neD x y))) fun k => if k then (seqF (bnd (ret .non) fun d => ret (.ret d)) (ret .nx)) else (ret .nx)) (seqF (bnd (eVar 3) fun x0 => VL.guard (isLst x0) (bnd (bnd (bnd (bnd (bnd (bnd (eVar 5) fun x => opt (lstI x)) fun ds => VL.guard (decide (ds.length ≤ sizeLine)) (bnd (lcM (gN 8) (ret true) C2__law_turned [8] ds) fun ys => ret (.lst ys))) fun x => bnd (ret []) fun xs => ret (x :: xs)) fun xs => opt (one sumD xs)) fun x => bnd (ret []) fun xs => ret (x :: xs)) fun xs => bnd (eVar 3) fun x => bnd (opt (mutD appL x xs)) fun x' => bnd (setS 3 x') fun _ => ret .nx)) (killF 4 (killF 5 (ret .nx))))))
noncomputable def G__law_turned : M Fl := (seqF (bnd (bnd (ret []) fun xs => VL.guard (decide (xs.length ≤ sizeLine)) (ret (.lst xs))) fun d => bnd (setS 3 d) fun _ => ret .nx) (seqF (bnd (bnd (eVar 0) fun x => opt (tupI x)) fun ds => loopM (gN 4) L1__law_turned ds) (seqF (bnd (bnd (bnd (eVar 3) fun x => bnd (ret []) fun xs => ret (x :: xs)) fun xs => opt (tupleD xs)) fun d => ret (.ret d)) (ret .nx))))
noncomputable def F__law_turned : List D → Out D := funF false 9 3 G__law_turned
abbrev S__law_turned (Z : Sta) : Sta := { Z with N := ["_law_slip_here", "_law_words_here", "_law_others", "_law_found", "_law_mask", "_law_spots", "_law_hand", "_law_word", "_law_spot"], sc := C8.fnScope (top 33), k := 0, top := true, fnn := fun _ => true, lm := none }
theorem d__law_turned {Z : Sta} (t : Txt Z) : DB (S__law_turned Z) ⟨.S, [], []⟩ [.S, .S, .S, .U, .U, .U, .U, .U, .U] (C8.fnBody (top 33)) [.S, .S, .S, .U, .U, .U, .U, .U, .U] G__law_turned :=
  (db_cons (μ1 := [.S, .S, .S, .O .S, .U, .U, .U, .U, .U]) (ds_set 3 (de_lst da_nil)) (db_cons (μ1 := [.S, .S, .S, .O .S, .U, .U, .U, .U, .U]) (ds_for (μ1 := [.S, .S, .S, .O .S, .U, .U, .U, .U, .U]) (μb := [.S, .S, .S, .O .S, .S, .U, .U, .U, .U]) (di_tup (de_name 0)) (dg_name 4) (db_cons (μ1 := [.S, .S, .S, .O .S, .S, .O .S, .U, .U, .U]) (ds_setLc 5 (own := [("_law_hand", 6), ("_law_word", 7)]) (μ1 := [.S, .S, .S, .O .S, .S, .U, .U, .U, .U]) (μb := [.S, .S, .S, .O .S, .S, .U, .S, .S, .U]) (μe := [.S, .S, .S, .O .S, .S, .U, .S, .S, .U]) (di_enum (da_cons (de_name 1) da_nil) (by exact t.b_enumerate)) (dg_tup (n := 2) (dgs_cons (dg_name 6) (dgs_cons (dg_name 7) dgs_nil))) (df_one (dt_cmp c_eq (de_bin b_mod (de_callT g_int (da_cons (de_bin b_fdiv (de_name 4) (de_bin b_shl de_int (de_name 6))) da_nil) (by exact t.b_int)) de_int) de_int)) (de_m1L t_index PySem.F.plainAttrs_list PySem.F.slot_list_index PySem.F.type_list_index (de_name 2) (da_cons (de_name 7) da_nil))) (db_share 5 (db_cons (μ1 := [.S, .S, .S, .O .S, .S, .S, .U, .U, .U]) (ds_if (μ' := [.S, .S, .S, .O .S, .S, .S, .U, .U, .U]) (dt_cmp c_ne (de_name 5) (de_fz (de_callB f_sorted (da_cons (de_name 5) da_nil) (by exact t.b_sorted)))) (db_cons (μ1 := [.S, .S, .S, .O .S, .S, .S, .U, .U, .U]) (ds_ret (μ' := [.S, .S, .S, .O .S, .S, .S, .U, .U, .U]) de_non) db_nil) db_nil) (db_cons (μ1 := [.S, .S, .S, .O .S, .S, .S, .U, .U, .U]) (ds_mut 3 l_append PySem.F.slot_list_append PySem.F.type_list_append (da_cons (de_callB g_sum (da_cons (de_fz (de_lc (own := [("_law_spot", 8)]) (μ1 := [.S, .S, .S, .O .S, .S, .S, .U, .U, .U]) (μb := [.S, .S, .S, .O .S, .S, .S, .U, .U, .S]) (μe := [.S, .S, .S, .O .S, .S, .S, .U, .U, .S]) (di_list (de_name 5)) (dg_name 8) df_nil (de_bin b_shl de_int (de_name 8)))) da_nil) (by exact t.b_sum)) da_nil)) (db_kill 4 (db_kill 5 db_nil))))))) (db_cons (μ1 := [.S, .S, .S, .U, .U, .U, .U, .U, .U]) (ds_share 3 (ds_ret (μ' := [.S, .S, .S, .U, .U, .U, .U, .U, .U]) (de_callT f_tuple (da_cons (de_name 3) da_nil) (by exact t.b_tuple)))) db_nil)))
theorem sc__law_turned : FnScope ["_law_slip_here", "_law_words_here", "_law_others", "_law_found", "_law_mask", "_law_spots", "_law_hand", "_law_word", "_law_spot"] ["_law_slip_here", "_law_words_here", "_law_others"] (C8.fnScope (top 33)) := C8.fnScope_by (by decide +kernel)
theorem cal__law_turned {Z : Sta} (t : Txt Z) (h : DefV Z "_law_turned" (top 33) ["_law_slip_here", "_law_words_here", "_law_others"]) : CalV Z 1 "_law_turned" [.S, .S, .S] (.S) F__law_turned :=
  ⟨(calV_of (S := S__law_turned Z) ⟨h.ex⟩ sc__law_turned rfl (j := 6) rfl rfl (by decide) rfl (d__law_turned t)).ex⟩
noncomputable def P1_law : M Fl := (bnd (bnd (bnd (ret []) fun xs => ret (.non :: xs)) (callM [.q 0] F__law_bag)) fun d => bnd (setS 1 d) fun _ => ret .nx)
noncomputable def P2_law : M Fl := (bnd (bnd (bnd (bnd (ret (.int 3)) fun x => bnd (bnd (bnd (ret (.int 1)) fun x => bnd (bnd (bnd (bnd (ret (.int 5)) fun x => bnd (ret []) fun xs => ret (x :: xs)) fun xs => ret (.non :: xs)) (callM [.lend 1, .val] F__law_take)) fun y => opt (addD x y)) fun x => bnd (bnd (bnd (ret (.int 1)) fun x => bnd (bnd (bnd (bnd (ret (.int 12)) fun x => bnd (ret []) fun xs => ret (x :: xs)) fun xs => ret (.non :: xs)) (callM [.lend 1, .val] F__law_take)) fun y => opt (addD x y)) fun x => bnd (ret []) fun xs => ret (x :: xs)) fun xs => ret (x :: xs)) fun xs => ret (x :: xs)) fun xs => VL.guard (decide (xs.length ≤ sizeLine)) (ret (.lst xs))) fun x => bnd (bnd (bnd (bnd (ret (.int 3)) fun x => bnd (ret []) fun xs => ret (x :: xs)) fun xs => ret (.non :: xs)) (callM [.lend 1, .val] F__law_take)) fun y => opt (ixD x y)) fun d => bnd (setS 2 d) fun _ => ret .nx)
noncomputable def P3_law : M Fl := (bnd (bnd (bnd (bnd (eVar 2) fun x => bnd (ret []) fun xs => ret (x :: xs)) fun xs => ret (.non :: xs)) (callM [.lend 1, .val] F__law_words)) fun d => bnd (setS 3 d) fun _ => ret .nx)
noncomputable def P4_law : M Fl := (bnd (bnd (bnd (bnd (bnd (eVar 3) fun x => bnd (ret []) fun xs => ret (x :: xs)) fun xs => ret (.non :: xs)) (callM [.lend 1, .val] F__law_mixed)) fun x => bnd (bnd (bnd (bnd (eVar 3) fun x => bnd (ret []) fun xs => ret (x :: xs)) fun xs => opt (listD xs)) fun x => bnd (bnd (ret (.dct [])) fun x => bnd (ret []) fun xs => ret (x :: xs)) fun xs => ret (x :: xs)) fun xs => ret (x :: xs)) fun xs => fun ρ => .ok .nx (sets [4, 5, 6] xs ρ))
noncomputable def P5_law : M Fl := (bnd (bnd (bnd (bnd (eVar 2) fun x => bnd (ret []) fun xs => ret (x :: xs)) fun xs => ret (.non :: xs)) (callM [.lend 1, .val] F__law_slip)) fun d => bnd (setS 8 d) fun _ => ret .nx)
noncomputable def P6_law : M Fl := (bnd (bnd (bnd (eVar 8) fun x => bnd (bnd (bnd (ret (.int 1)) fun x => bnd (bnd (bnd (bnd (bnd (bnd (bnd (ret (.int 3)) fun x => bnd (bnd (bnd (ret (.int 10)) fun x => bnd (ret (.int 9)) fun y => opt (powD x y)) fun x => bnd (ret []) fun xs => ret (x :: xs)) fun xs => ret (x :: xs)) fun xs => VL.guard (decide (xs.length ≤ sizeLine)) (ret (.lst xs))) fun x => bnd (bnd (bnd (bnd (ret (.int 2)) fun x => bnd (ret []) fun xs => ret (x :: xs)) fun xs => ret (.non :: xs)) (callM [.lend 1, .val] F__law_take)) fun y => opt (ixD x y)) fun x => bnd (ret []) fun xs => ret (x :: xs)) fun xs => ret (.non :: xs)) (callM [.lend 1, .val] F__law_take)) fun y => opt (addD x y)) fun x => bnd (ret []) fun xs => ret (x :: xs)) fun xs => ret (x :: xs)) fun xs => VL.guard (decide (xs.length ≤ sizeLine)) (ret (.tup xs))) fun d => bnd (setS 9 d) fun _ => ret .nx)
noncomputable def P7_law : M Fl := (bnd (bnd (bnd (bnd (bnd (eVar 8) fun x => bnd (bnd (eVar 3) fun x => bnd (ret []) fun xs => ret (x :: xs)) fun xs => ret (x :: xs)) (callM [.val, .val] F__law_slip_text)) fun x => bnd (bnd (bnd (bnd (eVar 9) fun x => bnd (bnd (eVar 3) fun x => bnd (ret []) fun xs => ret (x :: xs)) fun xs => ret (x :: xs)) (callM [.val, .val] F__law_line_text)) fun x => bnd (ret []) fun xs => ret (x :: xs)) fun xs => ret (x :: xs)) fun xs => VL.guard (decide (xs.length ≤ sizeLine)) (ret (.lst xs))) fun d => bnd (setS 10 d) fun _ => ret .nx)
noncomputable def P9_law : M Fl := (bnd (bnd (bnd (bnd (bnd (bnd (bnd (bnd (bnd (bnd (eVar 8) fun x => bnd (bnd (eVar 3) fun x => bnd (ret []) fun xs => ret (x :: xs)) fun xs => ret (x :: xs)) (callM [.val, .val] F_show_slip)) fun x => bnd (bnd (bnd (bnd (eVar 9) fun x => bnd (bnd (eVar 3) fun x => bnd (ret []) fun xs => ret (x :: xs)) fun xs => ret (x :: xs)) (callM [.val, .val] F_show_line)) fun x => bnd (ret []) fun xs => ret (x :: xs)) fun xs => ret (x :: xs)) fun xs => VL.guard (decide (xs.length ≤ sizeLine)) (ret (.lst xs))) fun x => bnd (bnd (eVar 10) fun x => bnd (ret []) fun xs => ret (x :: xs)) fun xs => ret (x :: xs)) (callM [.val, .val] F__law_alike)) fun x => opt (asB x)) fun x => ret (!x)) fun x => if x then ret true else (bnd (eVar 3) fun x => bnd (eVar 5) fun y => opt (oB (neD x y)))) fun k => if k then (seqF (bnd (ret (.bl false)) fun d => ret (.ret d)) (ret .nx)) else (ret .nx))
noncomputable def P10_law : M Fl := (bnd (bnd (bnd (eVar 8) fun x => bnd (bnd (bnd (bnd (ret (.int 10)) fun x => bnd (ret (.int 12)) fun y => opt (powD x y)) fun x => bnd (bnd (bnd (bnd (bnd (ret (.int 10)) fun x => bnd (ret (.int 6)) fun y => opt (powD x y)) fun x => bnd (ret []) fun xs => ret (x :: xs)) fun xs => ret (.non :: xs)) (callM [.lend 1, .val] F__law_take)) fun y => opt (subD x y)) fun x => bnd (ret []) fun xs => ret (x :: xs)) fun xs => ret (x :: xs)) fun xs => VL.guard (decide (xs.length ≤ sizeLine)) (ret (.tup xs))) fun d => bnd (setS 11 d) fun _ => ret .nx)
noncomputable def P12_law : M Fl := (bnd (bnd (bnd (bnd (bnd (bnd (bnd (eVar 11) fun x => bnd (bnd (eVar 3) fun x => bnd (ret []) fun xs => ret (x :: xs)) fun xs => ret (x :: xs)) (callM [.val, .val] F_show_line)) fun x => bnd (bnd (bnd (bnd (eVar 11) fun x => bnd (bnd (eVar 3) fun x => bnd (ret []) fun xs => ret (x :: xs)) fun xs => ret (x :: xs)) (callM [.val, .val] F__law_line_text)) fun x => bnd (ret []) fun xs => ret (x :: xs)) fun xs => ret (x :: xs)) (callM [.val, .val] F__law_alike)) fun x => opt (asB x)) fun x => ret (!x)) fun k => if k then (seqF (bnd (ret (.bl false)) fun d => ret (.ret d)) (ret .nx)) else (ret .nx))
noncomputable def P13_law : M Fl := (bnd (bnd (bnd (bnd (bnd (eVar 8) fun x => bnd (bnd (eVar 12) fun x => bnd (ret []) fun xs => ret (x :: xs)) fun xs => ret (x :: xs)) fun xs => VL.guard (decide (xs.length ≤ sizeLine)) (ret (.tup xs))) fun x => bnd (bnd (eVar 3) fun x => bnd (ret []) fun xs => ret (x :: xs)) fun xs => ret (x :: xs)) (callM [.val, .val] F__law_line_text)) fun d => bnd (setS 13 d) fun _ => ret .nx)
noncomputable def P15_law : M Fl := (bnd (bnd (readM [.Q, .O .S, .S, .S, .S, .S, .O .S, .S, .S, .S, .S, .S, .S, .S, .U, .U] m1T m2T "told" "none" "other" (bnd (bnd (eVar 13) fun x => bnd (bnd (eVar 3) fun x => bnd (ret []) fun xs => ret (x :: xs)) fun xs => ret (x :: xs)) (callM [.val, .val] F_read_line))) fun x => bnd (bnd (bnd (ret (.str "none")) fun x => bnd (bnd (ret .non) fun x => bnd (ret []) fun xs => ret (x :: xs)) fun xs => ret (x :: xs)) fun xs => VL.guard (decide (xs.length ≤ sizeLine)) (ret (.tup xs))) fun y => opt (oB (neD x y))) fun k => if k then (seqF (bnd (ret (.bl false)) fun d => ret (.ret d)) (ret .nx)) else (killF 12 (killF 13 (ret .nx))))
noncomputable def L1_law : M Fl := (seqF P13_law (seqF P15_law (ret .nx)))
noncomputable def P16_law : M Fl := (bnd (bnd (bnd (readM [.Q, .O .S, .S, .S, .S, .S, .O .S, .S, .S, .S, .S, .S, .U, .U, .U, .U] m1T m2T "told" "none" "other" (bnd (bnd (bnd (eVar 10) fun x => bnd (ret (.int 0)) fun y => opt (ixD x y)) fun x => bnd (bnd (eVar 3) fun x => bnd (ret []) fun xs => ret (x :: xs)) fun xs => ret (x :: xs)) (callM [.val, .val] F_read_slip))) fun x => bnd (ret []) fun xs => ret (x :: xs)) fun xs => VL.guard (decide (xs.length ≤ sizeLine)) (ret (.lst xs))) fun d => bnd (setS 14 d) fun _ => ret .nx)
noncomputable def P17_law : M Fl := (bnd (eVar 14) fun x0 => VL.guard (isLst x0) (bnd (bnd (readM [.Q, .O .S, .S, .S, .S, .S, .O .S, .S, .S, .S, .S, .S, .U, .U, .O .S, .U] m1T m2T "told" "none" "other" (bnd (bnd (bnd (eVar 10) fun x => bnd (ret (.int 1)) fun y => opt (ixD x y)) fun x => bnd (bnd (eVar 3) fun x => bnd (ret []) fun xs => ret (x :: xs)) fun xs => ret (x :: xs)) (callM [.val, .val] F_read_line))) fun x => bnd (ret []) fun xs => ret (x :: xs)) fun xs => bnd (eVar 14) fun x => bnd (opt (mutD appL x xs)) fun x' => bnd (setS 14 x') fun _ => ret .nx))
noncomputable def P19_law : M Fl := (bnd (bnd (bnd (bnd (bnd (bnd (eVar 14) fun x => bnd (bnd (bnd (bnd (bnd (bnd (ret (.str "told")) fun x => bnd (bnd (eVar 8) fun x => bnd (ret []) fun xs => ret (x :: xs)) fun xs => ret (x :: xs)) fun xs => VL.guard (decide (xs.length ≤ sizeLine)) (ret (.tup xs))) fun x => bnd (bnd (bnd (bnd (ret (.str "told")) fun x => bnd (bnd (eVar 9) fun x => bnd (ret []) fun xs => ret (x :: xs)) fun xs => ret (x :: xs)) fun xs => VL.guard (decide (xs.length ≤ sizeLine)) (ret (.tup xs))) fun x => bnd (ret []) fun xs => ret (x :: xs)) fun xs => ret (x :: xs)) fun xs => VL.guard (decide (xs.length ≤ sizeLine)) (ret (.lst xs))) fun x => bnd (ret []) fun xs => ret (x :: xs)) fun xs => ret (x :: xs)) (callM [.val, .val] F__law_alike)) fun x => opt (asB x)) fun x => ret (!x)) fun x => if x then ret true else (bnd (bnd (dctS 6) fun _ => bnd (bnd (eVar 10) fun x => bnd (ret (.int 0)) fun y => opt (ixD x y)) fun y => bnd (eVar 8) fun z => setdM 6 y z) fun x => bnd (eVar 8) fun y => opt (oB (neD x y)))) fun k => if k then (seqF (bnd (ret (.bl false)) fun d => ret (.ret d)) (ret .nx)) else (ret .nx))
noncomputable def P20_law : M Fl := (bnd (bnd (bnd (eVar 8) fun x => bnd (bnd (eVar 3) fun x => bnd (bnd (eVar 4) fun x => bnd (ret []) fun xs => ret (x :: xs)) fun xs => ret (x :: xs)) fun xs => ret (x :: xs)) (callM [.val, .val, .val] F__law_turned)) fun d => bnd (setS 15 d) fun _ => ret .nx)
noncomputable def P21_law : M Fl := (bnd (bnd (bnd (readM [.Q, .O .S, .S, .S, .S, .S, .O .S, .S, .S, .S, .S, .S, .U, .U, .S, .S] m1T m2T "told" "none" "other" (bnd (bnd (bnd (eVar 10) fun x => bnd (ret (.int 0)) fun y => opt (ixD x y)) fun x => bnd (bnd (eVar 4) fun x => bnd (ret []) fun xs => ret (x :: xs)) fun xs => ret (x :: xs)) (callM [.val, .val] F_read_slip))) fun x => bnd (ret []) fun xs => ret (x :: xs)) fun xs => VL.guard (decide (xs.length ≤ sizeLine)) (ret (.lst xs))) fun d => bnd (setS 14 d) fun _ => ret .nx)
noncomputable def P22_law : M Fl := (bnd (eVar 14) fun x0 => VL.guard (isLst x0) (bnd (bnd (readM [.Q, .O .S, .S, .S, .S, .S, .O .S, .S, .S, .S, .S, .S, .U, .U, .O .S, .S] m1T m2T "told" "none" "other" (bnd (bnd (bnd (eVar 10) fun x => bnd (ret (.int 1)) fun y => opt (ixD x y)) fun x => bnd (bnd (eVar 4) fun x => bnd (ret []) fun xs => ret (x :: xs)) fun xs => ret (x :: xs)) (callM [.val, .val] F_read_line))) fun x => bnd (ret []) fun xs => ret (x :: xs)) fun xs => bnd (eVar 14) fun x => bnd (opt (mutD appL x xs)) fun x' => bnd (setS 14 x') fun _ => ret .nx))
noncomputable def P24_law : M Fl := (bnd (bnd (bnd (eVar 15) fun x => bnd (ret .non) fun y => opt (oB (isND x y))) fun x => if x then (bnd (eVar 14) fun x => bnd (bnd (bnd (bnd (bnd (ret (.str "none")) fun x => bnd (bnd (ret .non) fun x => bnd (ret []) fun xs => ret (x :: xs)) fun xs => ret (x :: xs)) fun xs => VL.guard (decide (xs.length ≤ sizeLine)) (ret (.tup xs))) fun x => bnd (bnd (bnd (bnd (ret (.str "none")) fun x => bnd (bnd (ret .non) fun x => bnd (ret []) fun xs => ret (x :: xs)) fun xs => ret (x :: xs)) fun xs => VL.guard (decide (xs.length ≤ sizeLine)) (ret (.tup xs))) fun x => bnd (ret []) fun xs => ret (x :: xs)) fun xs => ret (x :: xs)) fun xs => VL.guard (decide (xs.length ≤ sizeLine)) (ret (.lst xs))) fun y => opt (oB (neD x y))) else ret false) fun k => if k then (seqF (bnd (ret (.bl false)) fun d => ret (.ret d)) (ret .nx)) else (ret .nx))
noncomputable def P26_law : M Fl := (bnd (bnd (bnd (eVar 15) fun x => bnd (ret .non) fun y => opt (oB (notND x y))) fun x => if x then (bnd (bnd (bnd (bnd (eVar 14) fun x => bnd (bnd (bnd (bnd (bnd (bnd (ret (.str "told")) fun x => bnd (bnd (eVar 15) fun x => bnd (ret []) fun xs => ret (x :: xs)) fun xs => ret (x :: xs)) fun xs => VL.guard (decide (xs.length ≤ sizeLine)) (ret (.tup xs))) fun x => bnd (bnd (bnd (bnd (ret (.str "told")) fun x => bnd (bnd (bnd (bnd (eVar 15) fun x => bnd (bnd (bnd (eVar 9) fun x => bnd (ret (.int 1)) fun y => opt (ixD x y)) fun x => bnd (ret []) fun xs => ret (x :: xs)) fun xs => ret (x :: xs)) fun xs => VL.guard (decide (xs.length ≤ sizeLine)) (ret (.tup xs))) fun x => bnd (ret []) fun xs => ret (x :: xs)) fun xs => ret (x :: xs)) fun xs => VL.guard (decide (xs.length ≤ sizeLine)) (ret (.tup xs))) fun x => bnd (ret []) fun xs => ret (x :: xs)) fun xs => ret (x :: xs)) fun xs => VL.guard (decide (xs.length ≤ sizeLine)) (ret (.lst xs))) fun x => bnd (ret []) fun xs => ret (x :: xs)) fun xs => ret (x :: xs)) (callM [.val, .val] F__law_alike)) fun x => opt (asB x)) fun x => ret (!x)) else ret false) fun k => if k then (seqF (bnd (ret (.bl false)) fun d => ret (.ret d)) (ret .nx)) else (killF 7 (killF 8 (killF 9 (killF 10 (killF 11 (killF 14 (killF 15 (ret .nx)))))))))
noncomputable def L2_law : M Fl := (seqF P5_law (seqF P6_law (seqF P7_law (seqF P9_law (seqF P10_law (seqF P12_law (seqF (bnd (bnd (bnd (bnd (bnd (eVar 11) fun x => bnd (ret (.int 1)) fun y => opt (ixD x y)) fun x => bnd (bnd (bnd (bnd (ret (.int 10)) fun x => bnd (ret (.int 9)) fun y => opt (powD x y)) fun x => bnd (ret (.int 1)) fun y => opt (addD x y)) fun x => bnd (bnd (ret (.int 0)) fun x => bnd (ret []) fun xs => ret (x :: xs)) fun xs => ret (x :: xs)) fun xs => ret (x :: xs)) fun xs => VL.guard (decide (xs.length ≤ sizeLine)) (ret (.tup xs))) fun x => opt (tupI x)) fun ds => loopM (gN 12) L1_law ds) (seqF P16_law (seqF P17_law (seqF P19_law (seqF P20_law (seqF P21_law (seqF P22_law (seqF P24_law (seqF P26_law (ret .nx))))))))))))))))
noncomputable def P27_law : M Fl := (bnd (bnd (eVar 3) fun x => bnd (eVar 5) fun y => opt (eqD x y)) fun d => ret (.ret d))
noncomputable def G_law : M Fl := (seqF P1_law (seqF P2_law (seqF P3_law (seqF P4_law (seqF (bnd (bnd (bnd (ret (.int 6)) fun x => bnd (ret []) fun xs => ret (x :: xs)) fun xs => opt (range1I xs)) fun ds => loopM (gN 7) L2_law ds) (seqF P27_law (ret .nx)))))))
noncomputable def F_law : List D → Out D := funF false 16 1 G_law
abbrev S_law (Z : Sta) : Sta := { Z with N := ["_law_script", "_law_bag_here", "_law_hands", "_law_words_here", "_law_others", "_law_kept", "_law_known", "_law_turn", "_law_slip_here", "_law_line", "_law_texts", "_law_great", "_law_far", "_law_text", "_law_found", "_law_due"], sc := C8.fnScope (top 34), k := 6, top := true, fnn := fun _ => true }
theorem d_law {Z : Sta} {cc : Addr} (t : Txt Z) (lm : LmV Z "law.<locals>." cc) (hgd : Z.gd = true) (c__law_bag : CalV Z 1 "_law_bag" [.Q] (.O .S) F__law_bag) (c__law_take : CalV Z 1 "_law_take" [.B (.O .S), .S] (.S) F__law_take) (c__law_words : CalV Z 3 "_law_words" [.B (.O .S), .S] (.S) F__law_words) (c__law_mixed : CalV Z 2 "_law_mixed" [.B (.O .S), .S] (.S) F__law_mixed) (c__law_slip : CalV Z 2 "_law_slip" [.B (.O .S), .S] (.S) F__law_slip) (c__law_slip_text : CalV Z 1 "_law_slip_text" [.S, .S] (.S) F__law_slip_text) (c__law_line_text : CalV Z 2 "_law_line_text" [.S, .S] (.S) F__law_line_text) (c__law_alike : CalV Z 1 "_law_alike" [.S, .S] (.S) F__law_alike) (c_show_slip : CalV Z 2 "show_slip" [.S, .S] (.S) F_show_slip) (c_show_line : CalV Z 3 "show_line" [.S, .S] (.S) F_show_line) (c__law_turned : CalV Z 1 "_law_turned" [.S, .S, .S] (.S) F__law_turned) (c0_read_line : CalV { Z with gd := false } 4 "read_line" [.S, .S] (.S) F_read_line) (c0_read_slip : CalV { Z with gd := false } 3 "read_slip" [.S, .S] (.S) F_read_slip) : DB (S_law Z) ⟨.S, [], []⟩ [.Q, .U, .U, .U, .U, .U, .U, .U, .U, .U, .U, .U, .U, .U, .U, .U] (C8.fnBody (top 34)) [.Q, .U, .U, .U, .U, .U, .U, .U, .U, .U, .U, .U, .U, .U, .U, .U] G_law :=
  (db_cons (μ1 := [.Q, .O .S, .U, .U, .U, .U, .U, .U, .U, .U, .U, .U, .U, .U, .U, .U]) (ds_set 1 (de_call (ks := [.q 0]) c__law_bag.to (dl_q 0 dl_nil))) (db_cons (μ1 := [.Q, .O .S, .S, .U, .U, .U, .U, .U, .U, .U, .U, .U, .U, .U, .U, .U]) (ds_set 2 (de_ix (de_fz (de_lst (da_cons de_int (da_cons (de_bin b_add de_int (de_call (ks := [.lend 1, .val]) c__law_take.to (dl_lend 1 (dl_val de_int dl_nil)))) (da_cons (de_bin b_add de_int (de_call (ks := [.lend 1, .val]) c__law_take.to (dl_lend 1 (dl_val de_int dl_nil)))) da_nil))))) (de_call (ks := [.lend 1, .val]) c__law_take.to (dl_lend 1 (dl_val de_int dl_nil))))) (db_cons (μ1 := [.Q, .O .S, .S, .S, .U, .U, .U, .U, .U, .U, .U, .U, .U, .U, .U, .U]) (ds_set 3 (de_call (ks := [.lend 1, .val]) c__law_words.to (dl_lend 1 (dl_val (de_name 2) dl_nil)))) (db_cons (μ1 := [.Q, .O .S, .S, .S, .S, .S, .O .S, .U, .U, .U, .U, .U, .U, .U, .U, .U]) (ds_tup [4, 5, 6] (ms := [.S, .S, .O .S]) (dv_cons (de_call (ks := [.lend 1, .val]) c__law_mixed.to (dl_lend 1 (dl_val (de_name 3) dl_nil))) (dv_cons (de_fz (de_callT f_list (da_cons (de_name 3) da_nil) (by exact t.b_list))) (dv_cons de_dnew dv_nil))) (.cons rfl (by first | exact Or.inl rfl | exact Or.inr rfl) (by first | exact Or.inl rfl | exact Or.inr rfl) (.cons rfl (by first | exact Or.inl rfl | exact Or.inr rfl) (by first | exact Or.inl rfl | exact Or.inr rfl) (.cons rfl (by first | exact Or.inl rfl | exact Or.inr rfl) (by first | exact Or.inl rfl | exact Or.inr rfl) Names.nil))) (hw := by intro env e; cases env; subst e; rfl)) (db_cons (μ1 := [.Q, .O .S, .S, .S, .S, .S, .O .S, .U, .U, .U, .U, .U, .U, .U, .U, .U]) (ds_for (μ1 := [.Q, .O .S, .S, .S, .S, .S, .O .S, .U, .U, .U, .U, .U, .U, .U, .U, .U]) (μb := [.Q, .O .S, .S, .S, .S, .S, .O .S, .S, .U, .U, .U, .U, .U, .U, .U, .U]) (di_range1 (da_cons de_int da_nil) (by exact t.b_range)) (dg_name 7) (db_cons (μ1 := [.Q, .O .S, .S, .S, .S, .S, .O .S, .S, .S, .U, .U, .U, .U, .U, .U, .U]) (ds_set 8 (de_call (ks := [.lend 1, .val]) c__law_slip.to (dl_lend 1 (dl_val (de_name 2) dl_nil)))) (db_cons (μ1 := [.Q, .O .S, .S, .S, .S, .S, .O .S, .S, .S, .S, .U, .U, .U, .U, .U, .U]) (ds_set 9 (de_tup (da_cons (de_name 8) (da_cons (de_bin b_add de_int (de_call (ks := [.lend 1, .val]) c__law_take.to (dl_lend 1 (dl_val (de_ix (de_fz (de_lst (da_cons de_int (da_cons (de_bin b_pow de_int de_int) da_nil)))) (de_call (ks := [.lend 1, .val]) c__law_take.to (dl_lend 1 (dl_val de_int dl_nil)))) dl_nil)))) da_nil)))) (db_cons (μ1 := [.Q, .O .S, .S, .S, .S, .S, .O .S, .S, .S, .S, .S, .U, .U, .U, .U, .U]) (ds_set 10 (de_fz (de_lst (da_cons (de_call (ks := [.val, .val]) c__law_slip_text.to (dl_val (de_name 8) (dl_val (de_name 3) dl_nil))) (da_cons (de_call (ks := [.val, .val]) c__law_line_text.to (dl_val (de_name 9) (dl_val (de_name 3) dl_nil))) da_nil))))) (db_cons (μ1 := [.Q, .O .S, .S, .S, .S, .S, .O .S, .S, .S, .S, .S, .U, .U, .U, .U, .U]) (ds_if (μ' := [.Q, .O .S, .S, .S, .S, .S, .O .S, .S, .S, .S, .S, .U, .U, .U, .U, .U]) (dw_pt (dw_or (dt_not (dt_val (de_call (ks := [.val, .val]) c__law_alike.to (dl_val (de_fz (de_lst (da_cons (de_call (ks := [.val, .val]) c_show_slip.to (dl_val (de_name 8) (dl_val (de_name 3) dl_nil))) (da_cons (de_call (ks := [.val, .val]) c_show_line.to (dl_val (de_name 9) (dl_val (de_name 3) dl_nil))) da_nil)))) (dl_val (de_name 10) dl_nil))))) (dw_or1 (dt_cmp c_ne (de_name 3) (de_name 5))))) (db_cons (μ1 := [.Q, .O .S, .S, .S, .S, .S, .O .S, .S, .S, .S, .S, .U, .U, .U, .U, .U]) (ds_ret (μ' := [.Q, .O .S, .S, .S, .S, .S, .O .S, .S, .S, .S, .S, .U, .U, .U, .U, .U]) de_bl) db_nil) db_nil) (db_cons (μ1 := [.Q, .O .S, .S, .S, .S, .S, .O .S, .S, .S, .S, .S, .S, .U, .U, .U, .U]) (ds_set 11 (de_tup (da_cons (de_name 8) (da_cons (de_bin b_sub (de_bin b_pow de_int de_int) (de_call (ks := [.lend 1, .val]) c__law_take.to (dl_lend 1 (dl_val (de_bin b_pow de_int de_int) dl_nil)))) da_nil)))) (db_cons (μ1 := [.Q, .O .S, .S, .S, .S, .S, .O .S, .S, .S, .S, .S, .S, .U, .U, .U, .U]) (ds_if (μ' := [.Q, .O .S, .S, .S, .S, .S, .O .S, .S, .S, .S, .S, .S, .U, .U, .U, .U]) (dt_not (dt_val (de_call (ks := [.val, .val]) c__law_alike.to (dl_val (de_call (ks := [.val, .val]) c_show_line.to (dl_val (de_name 11) (dl_val (de_name 3) dl_nil))) (dl_val (de_call (ks := [.val, .val]) c__law_line_text.to (dl_val (de_name 11) (dl_val (de_name 3) dl_nil))) dl_nil))))) (db_cons (μ1 := [.Q, .O .S, .S, .S, .S, .S, .O .S, .S, .S, .S, .S, .S, .U, .U, .U, .U]) (ds_ret (μ' := [.Q, .O .S, .S, .S, .S, .S, .O .S, .S, .S, .S, .S, .S, .U, .U, .U, .U]) de_bl) db_nil) db_nil) (db_cons (μ1 := [.Q, .O .S, .S, .S, .S, .S, .O .S, .S, .S, .S, .S, .S, .U, .U, .U, .U]) (ds_for (μ1 := [.Q, .O .S, .S, .S, .S, .S, .O .S, .S, .S, .S, .S, .S, .U, .U, .U, .U]) (μb := [.Q, .O .S, .S, .S, .S, .S, .O .S, .S, .S, .S, .S, .S, .S, .U, .U, .U]) (di_tup (de_tup (da_cons (de_ix (de_name 11) de_int) (da_cons (de_bin b_add (de_bin b_pow de_int de_int) de_int) (da_cons de_int da_nil))))) (dg_name 12) (db_cons (μ1 := [.Q, .O .S, .S, .S, .S, .S, .O .S, .S, .S, .S, .S, .S, .S, .S, .U, .U]) (ds_set 13 (de_call (ks := [.val, .val]) c__law_line_text.to (dl_val (de_tup (da_cons (de_name 8) (da_cons (de_name 12) da_nil))) (dl_val (de_name 3) dl_nil)))) (db_cons (μ1 := [.Q, .O .S, .S, .S, .S, .S, .O .S, .S, .S, .S, .S, .S, .U, .U, .U, .U]) (ds_if (μ' := [.Q, .O .S, .S, .S, .S, .S, .O .S, .S, .S, .S, .S, .S, .U, .U, .U, .U]) (dt_cmp c_ne (de_lread (k := 4) (μ := [.Q, .O .S, .S, .S, .S, .S, .O .S, .S, .S, .S, .S, .S, .S, .S, .U, .U]) (m1 := m1T) (m2 := m2T) t.rd.to lm.to t.x_1.to t.x_2.to sc_read (he := (de_call (ks := [.val, .val]) c0_read_line.to (dl_val (de_name 13) (dl_val (de_name 3) dl_nil))))) (de_tup (da_cons de_str (da_cons de_non da_nil)))) (db_cons (μ1 := [.Q, .O .S, .S, .S, .S, .S, .O .S, .S, .S, .S, .S, .S, .U, .U, .U, .U]) (ds_ret (μ' := [.Q, .O .S, .S, .S, .S, .S, .O .S, .S, .S, .S, .S, .S, .U, .U, .U, .U]) de_bl) db_nil) (db_kill 12 (db_kill 13 db_nil))) db_nil))) (db_cons (μ1 := [.Q, .O .S, .S, .S, .S, .S, .O .S, .S, .S, .S, .S, .S, .U, .U, .O .S, .U]) (ds_set 14 (de_lst (da_cons (de_lread (k := 4) (μ := [.Q, .O .S, .S, .S, .S, .S, .O .S, .S, .S, .S, .S, .S, .U, .U, .U, .U]) (m1 := m1T) (m2 := m2T) t.rd.to lm.to t.x_1.to t.x_2.to sc_read (he := (de_call (ks := [.val, .val]) c0_read_slip.to (dl_val (de_ix (de_name 10) de_int) (dl_val (de_name 3) dl_nil))))) da_nil))) (db_cons (μ1 := [.Q, .O .S, .S, .S, .S, .S, .O .S, .S, .S, .S, .S, .S, .U, .U, .O .S, .U]) (ds_mut 14 l_append PySem.F.slot_list_append PySem.F.type_list_append (da_cons (de_lread (k := 4) (μ := [.Q, .O .S, .S, .S, .S, .S, .O .S, .S, .S, .S, .S, .S, .U, .U, .O .S, .U]) (m1 := m1T) (m2 := m2T) t.rd.to lm.to t.x_1.to t.x_2.to sc_read (he := (de_call (ks := [.val, .val]) c0_read_line.to (dl_val (de_ix (de_name 10) de_int) (dl_val (de_name 3) dl_nil))))) da_nil)) (db_cons (μ1 := [.Q, .O .S, .S, .S, .S, .S, .O .S, .S, .S, .S, .S, .S, .U, .U, .S, .U]) (ds_share 14 (ds_if (μ' := [.Q, .O .S, .S, .S, .S, .S, .O .S, .S, .S, .S, .S, .S, .U, .U, .S, .U]) (dw_pt (dw_or (dt_not (dt_val (de_call (ks := [.val, .val]) c__law_alike.to (dl_val (de_name 14) (dl_val (de_fz (de_lst (da_cons (de_tup (da_cons de_str (da_cons (de_name 8) da_nil))) (da_cons (de_tup (da_cons de_str (da_cons (de_name 9) da_nil))) da_nil)))) dl_nil))))) (dw_or1 (dt_cmp c_ne (de_dsetd 6 (de_ix (de_name 10) de_int) (de_name 8)) (de_name 8))))) (db_cons (μ1 := [.Q, .O .S, .S, .S, .S, .S, .O .S, .S, .S, .S, .S, .S, .U, .U, .S, .U]) (ds_ret (μ' := [.Q, .O .S, .S, .S, .S, .S, .O .S, .S, .S, .S, .S, .S, .U, .U, .S, .U]) de_bl) db_nil) db_nil)) (db_cons (μ1 := [.Q, .O .S, .S, .S, .S, .S, .O .S, .S, .S, .S, .S, .S, .U, .U, .S, .S]) (ds_set 15 (de_call (ks := [.val, .val, .val]) c__law_turned.to (dl_val (de_name 8) (dl_val (de_name 3) (dl_val (de_name 4) dl_nil))))) (db_cons (μ1 := [.Q, .O .S, .S, .S, .S, .S, .O .S, .S, .S, .S, .S, .S, .U, .U, .O .S, .S]) (ds_set 14 (de_lst (da_cons (de_lread (k := 4) (μ := [.Q, .O .S, .S, .S, .S, .S, .O .S, .S, .S, .S, .S, .S, .U, .U, .S, .S]) (m1 := m1T) (m2 := m2T) t.rd.to lm.to t.x_1.to t.x_2.to sc_read (he := (de_call (ks := [.val, .val]) c0_read_slip.to (dl_val (de_ix (de_name 10) de_int) (dl_val (de_name 4) dl_nil))))) da_nil))) (db_cons (μ1 := [.Q, .O .S, .S, .S, .S, .S, .O .S, .S, .S, .S, .S, .S, .U, .U, .O .S, .S]) (ds_mut 14 l_append PySem.F.slot_list_append PySem.F.type_list_append (da_cons (de_lread (k := 4) (μ := [.Q, .O .S, .S, .S, .S, .S, .O .S, .S, .S, .S, .S, .S, .U, .U, .O .S, .S]) (m1 := m1T) (m2 := m2T) t.rd.to lm.to t.x_1.to t.x_2.to sc_read (he := (de_call (ks := [.val, .val]) c0_read_line.to (dl_val (de_ix (de_name 10) de_int) (dl_val (de_name 4) dl_nil))))) da_nil)) (db_cons (μ1 := [.Q, .O .S, .S, .S, .S, .S, .O .S, .S, .S, .S, .S, .S, .U, .U, .S, .S]) (ds_share 14 (ds_if (μ' := [.Q, .O .S, .S, .S, .S, .S, .O .S, .S, .S, .S, .S, .S, .U, .U, .S, .S]) (dw_pt (dw_and (dt_cmp c_is (de_name 15) de_non) (dw_and1 (dt_cmp c_ne (de_name 14) (de_fz (de_lst (da_cons (de_tup (da_cons de_str (da_cons de_non da_nil))) (da_cons (de_tup (da_cons de_str (da_cons de_non da_nil))) da_nil)))))))) (db_cons (μ1 := [.Q, .O .S, .S, .S, .S, .S, .O .S, .S, .S, .S, .S, .S, .U, .U, .S, .S]) (ds_ret (μ' := [.Q, .O .S, .S, .S, .S, .S, .O .S, .S, .S, .S, .S, .S, .U, .U, .S, .S]) de_bl) db_nil) db_nil)) (db_cons (μ1 := [.Q, .O .S, .S, .S, .S, .S, .O .S, .U, .U, .U, .U, .U, .U, .U, .U, .U]) (ds_if (μ' := [.Q, .O .S, .S, .S, .S, .S, .O .S, .U, .U, .U, .U, .U, .U, .U, .U, .U]) (dw_pt (dw_and (dt_cmp c_isnot (de_name 15) de_non) (dw_and1 (dt_not (dt_val (de_call (ks := [.val, .val]) c__law_alike.to (dl_val (de_name 14) (dl_val (de_fz (de_lst (da_cons (de_tup (da_cons de_str (da_cons (de_name 15) da_nil))) (da_cons (de_tup (da_cons de_str (da_cons (de_tup (da_cons (de_name 15) (da_cons (de_ix (de_name 9) de_int) da_nil))) da_nil))) da_nil)))) dl_nil)))))))) (db_cons (μ1 := [.Q, .O .S, .S, .S, .S, .S, .O .S, .U, .U, .U, .U, .U, .U, .U, .U, .U]) (ds_ret (μ' := [.Q, .O .S, .S, .S, .S, .S, .O .S, .U, .U, .U, .U, .U, .U, .U, .U, .U]) de_bl) db_nil) (db_kill 7 (db_kill 8 (db_kill 9 (db_kill 10 (db_kill 11 (db_kill 14 (db_kill 15 db_nil)))))))) db_nil)))))))))))))))) (db_cons (μ1 := [.Q, .U, .U, .U, .U, .U, .U, .U, .U, .U, .U, .U, .U, .U, .U, .U]) (ds_ret (μ' := [.Q, .U, .U, .U, .U, .U, .U, .U, .U, .U, .U, .U, .U, .U, .U, .U]) (de_cmp c_eq (de_name 3) (de_name 5))) db_nil))))))
theorem sc_law : FnScope ["_law_script", "_law_bag_here", "_law_hands", "_law_words_here", "_law_others", "_law_kept", "_law_known", "_law_turn", "_law_slip_here", "_law_line", "_law_texts", "_law_great", "_law_far", "_law_text", "_law_found", "_law_due"] ["_law_script"] (C8.fnScope (top 34)) := C8.fnScope_by (by decide +kernel)
end K84

namespace K84
open PySem L2 VL
/-! ### what the top has written -/
def ecT (C_NoText : Addr) : Str → Value := fun n => if n == "NoText" then .ref C_NoText else  .none
theorem all_mk {w : World} {K : PySem.W.Frag} {h : Heap} {mg : Str → Option Value} {fa : Addr} {f0 f1 f2 f3 f4 f5 f6 f7 f8 f9 f10 f11 f12 f13 f14 f15 f16 f17 f18 f19 f20 f21 f22 C_PollError C_NoText cc cP : Addr} {oc0 kV0 dc0 pm0 ct0 cd0 oc1 kV1 dc1 pm1 ct1 cd1 oc2 kV2 dc2 pm2 ct2 cd2 oc3 kV3 dc3 pm3 ct3 cd3 oc4 kV4 dc4 pm4 ct4 cd4 oc5 kV5 dc5 pm5 ct5 cd5 oc6 kV6 dc6 pm6 ct6 cd6 oc7 kV7 dc7 pm7 ct7 cd7 oc8 kV8 dc8 pm8 ct8 cd8 oc9 kV9 dc9 pm9 ct9 cd9 oc10 kV10 dc10 pm10 ct10 cd10 oc11 kV11 dc11 pm11 ct11 cd11 oc12 kV12 dc12 pm12 ct12 cd12 oc13 kV13 dc13 pm13 ct13 cd13 oc14 kV14 dc14 pm14 ct14 cd14 oc15 kV15 dc15 pm15 ct15 cd15 oc16 kV16 dc16 pm16 ct16 cd16 oc17 kV17 dc17 pm17 ct17 cd17 oc18 kV18 dc18 pm18 ct18 cd18 oc19 kV19 dc19 pm19 ct19 cd19 oc20 kV20 dc20 pm20 ct20 cd20 oc21 kV21 dc21 pm21 ct21 cd21 oc22 kV22 dc22 pm22 ct22 : Value} {od0 an0 od1 an1 od2 an2 od3 an3 od4 an4 od5 an5 od6 an6 od7 an7 od8 an8 od9 an9 od10 an10 od11 an11 od12 an12 od13 an13 od14 an14 od15 an15 od16 an16 od17 an17 od18 an18 od19 an19 od20 an20 od21 an21 od22 an22 : Option Addr} {sl0 sl1 sl2 sl3 sl4 sl5 sl6 sl7 sl8 sl9 sl10 sl11 sl12 sl13 sl14 sl15 sl16 sl17 sl18 sl19 sl20 sl21 sl22 : Array (Option Value)} {t_FIGURES t_MOST_BALLOTS t_MOST_FIGURES : Tok} {ce : Value} {cdd : Option Addr} {cvs : Array Value} {csl : Array (Option Value)} (X : K.In h) (G : h.Ns mainGlobals mg) (hfa : mg "law" = some (.ref fa)) (own : OwnT K fa h)
    (plain : ∀ ns : List Int, ns.length ≤ 63 → (∀ z ∈ ns, Builtin.Int.intBits z ≤ 1048576) → ∃ ρ, F_law [.lst (ns.map D.int)] = .ok (.bl true) ρ)
    (a0 : PySem.W.nsIn K mainGlobals "members" = some (some (.ref f0)))
    (l0 : K.lookup f0 = some ⟨oc0, od0, .func (PySem.W.fnOf "members" "members" (C8.fnArgs (top 1)) (C8.fnBody (top 1)) (C8.fnScope (top 1)) .none kV0 dc0 pm0 an0 cd0 ct0), sl0⟩)
    (c0 : PySem.W.codeIn K cd0 "members" = true)
    (k0 : PySem.W.keepIn K (.ref f0) = true)
    (a1 : PySem.W.nsIn K mainGlobals "show_slip" = some (some (.ref f1)))
    (l1 : K.lookup f1 = some ⟨oc1, od1, .func (PySem.W.fnOf "show_slip" "show_slip" (C8.fnArgs (top 3)) (C8.fnBody (top 3)) (C8.fnScope (top 3)) .none kV1 dc1 pm1 an1 cd1 ct1), sl1⟩)
    (c1 : PySem.W.codeIn K cd1 "show_slip" = true)
    (k1 : PySem.W.keepIn K (.ref f1) = true)
    (a2 : PySem.W.nsIn K mainGlobals "show_line" = some (some (.ref f2)))
    (l2 : K.lookup f2 = some ⟨oc2, od2, .func (PySem.W.fnOf "show_line" "show_line" (C8.fnArgs (top 4)) (C8.fnBody (top 4)) (C8.fnScope (top 4)) .none kV2 dc2 pm2 an2 cd2 ct2), sl2⟩)
    (c2 : PySem.W.codeIn K cd2 "show_line" = true)
    (k2 : PySem.W.keepIn K (.ref f2) = true)
    (a3 : PySem.W.nsIn K mainGlobals "is_whole" = some (some (.ref f3)))
    (l3 : K.lookup f3 = some ⟨oc3, od3, .func (PySem.W.fnOf "is_whole" "is_whole" (C8.fnArgs (top 9)) (C8.fnBody (top 9)) (C8.fnScope (top 9)) .none kV3 dc3 pm3 an3 cd3 ct3), sl3⟩)
    (c3 : PySem.W.codeIn K cd3 "is_whole" = true)
    (k3 : PySem.W.keepIn K (.ref f3) = true)
    (a4 : PySem.W.nsIn K mainGlobals "is_slip" = some (some (.ref f4)))
    (l4 : K.lookup f4 = some ⟨oc4, od4, .func (PySem.W.fnOf "is_slip" "is_slip" (C8.fnArgs (top 11)) (C8.fnBody (top 11)) (C8.fnScope (top 11)) .none kV4 dc4 pm4 an4 cd4 ct4), sl4⟩)
    (c4 : PySem.W.codeIn K cd4 "is_slip" = true)
    (k4 : PySem.W.keepIn K (.ref f4) = true)
    (a5 : PySem.W.nsIn K mainGlobals "is_line" = some (some (.ref f5)))
    (l5 : K.lookup f5 = some ⟨oc5, od5, .func (PySem.W.fnOf "is_line" "is_line" (C8.fnArgs (top 12)) (C8.fnBody (top 12)) (C8.fnScope (top 12)) .none kV5 dc5 pm5 an5 cd5 ct5), sl5⟩)
    (c5 : PySem.W.codeIn K cd5 "is_line" = true)
    (k5 : PySem.W.keepIn K (.ref f5) = true)
    (a6 : PySem.W.nsIn K mainGlobals "need" = some (some (.ref f6)))
    (l6 : K.lookup f6 = some ⟨oc6, od6, .func (PySem.W.fnOf "need" "need" (C8.fnArgs (top 17)) (C8.fnBody (top 17)) (C8.fnScope (top 17)) .none kV6 dc6 pm6 an6 cd6 ct6), sl6⟩)
    (c6 : PySem.W.codeIn K cd6 "need" = true)
    (k6 : PySem.W.keepIn K (.ref f6) = true)
    (a7 : PySem.W.nsIn K mainGlobals "need_text" = some (some (.ref f7)))
    (l7 : K.lookup f7 = some ⟨oc7, od7, .func (PySem.W.fnOf "need_text" "need_text" (C8.fnArgs (top 18)) (C8.fnBody (top 18)) (C8.fnScope (top 18)) .none kV7 dc7 pm7 an7 cd7 ct7), sl7⟩)
    (c7 : PySem.W.codeIn K cd7 "need_text" = true)
    (k7 : PySem.W.keepIn K (.ref f7) = true)
    (a8 : PySem.W.nsIn K mainGlobals "number_read" = some (some (.ref f8)))
    (l8 : K.lookup f8 = some ⟨oc8, od8, .func (PySem.W.fnOf "number_read" "number_read" (C8.fnArgs (top 19)) (C8.fnBody (top 19)) (C8.fnScope (top 19)) .none kV8 dc8 pm8 an8 cd8 ct8), sl8⟩)
    (c8 : PySem.W.codeIn K cd8 "number_read" = true)
    (k8 : PySem.W.keepIn K (.ref f8) = true)
    (a9 : PySem.W.nsIn K mainGlobals "slip_read" = some (some (.ref f9)))
    (l9 : K.lookup f9 = some ⟨oc9, od9, .func (PySem.W.fnOf "slip_read" "slip_read" (C8.fnArgs (top 20)) (C8.fnBody (top 20)) (C8.fnScope (top 20)) .none kV9 dc9 pm9 an9 cd9 ct9), sl9⟩)
    (c9 : PySem.W.codeIn K cd9 "slip_read" = true)
    (k9 : PySem.W.keepIn K (.ref f9) = true)
    (a10 : PySem.W.nsIn K mainGlobals "read_slip" = some (some (.ref f10)))
    (l10 : K.lookup f10 = some ⟨oc10, od10, .func (PySem.W.fnOf "read_slip" "read_slip" (C8.fnArgs (top 21)) (C8.fnBody (top 21)) (C8.fnScope (top 21)) .none kV10 dc10 pm10 an10 cd10 ct10), sl10⟩)
    (c10 : PySem.W.codeIn K cd10 "read_slip" = true)
    (k10 : PySem.W.keepIn K (.ref f10) = true)
    (a11 : PySem.W.nsIn K mainGlobals "read_line" = some (some (.ref f11)))
    (l11 : K.lookup f11 = some ⟨oc11, od11, .func (PySem.W.fnOf "read_line" "read_line" (C8.fnArgs (top 22)) (C8.fnBody (top 22)) (C8.fnScope (top 22)) .none kV11 dc11 pm11 an11 cd11 ct11), sl11⟩)
    (c11 : PySem.W.codeIn K cd11 "read_line" = true)
    (k11 : PySem.W.keepIn K (.ref f11) = true)
    (a12 : PySem.W.nsIn K mainGlobals "_law_bag" = some (some (.ref f12)))
    (l12 : K.lookup f12 = some ⟨oc12, od12, .func (PySem.W.fnOf "_law_bag" "_law_bag" (C8.fnArgs (top 24)) (C8.fnBody (top 24)) (C8.fnScope (top 24)) .none kV12 dc12 pm12 an12 cd12 ct12), sl12⟩)
    (c12 : PySem.W.codeIn K cd12 "_law_bag" = true)
    (k12 : PySem.W.keepIn K (.ref f12) = true)
    (a13 : PySem.W.nsIn K mainGlobals "_law_take" = some (some (.ref f13)))
    (l13 : K.lookup f13 = some ⟨oc13, od13, .func (PySem.W.fnOf "_law_take" "_law_take" (C8.fnArgs (top 25)) (C8.fnBody (top 25)) (C8.fnScope (top 25)) .none kV13 dc13 pm13 an13 cd13 ct13), sl13⟩)
    (c13 : PySem.W.codeIn K cd13 "_law_take" = true)
    (k13 : PySem.W.keepIn K (.ref f13) = true)
    (a14 : PySem.W.nsIn K mainGlobals "_law_mixed" = some (some (.ref f14)))
    (l14 : K.lookup f14 = some ⟨oc14, od14, .func (PySem.W.fnOf "_law_mixed" "_law_mixed" (C8.fnArgs (top 26)) (C8.fnBody (top 26)) (C8.fnScope (top 26)) .none kV14 dc14 pm14 an14 cd14 ct14), sl14⟩)
    (c14 : PySem.W.codeIn K cd14 "_law_mixed" = true)
    (k14 : PySem.W.keepIn K (.ref f14) = true)
    (a15 : PySem.W.nsIn K mainGlobals "_law_alike" = some (some (.ref f15)))
    (l15 : K.lookup f15 = some ⟨oc15, od15, .func (PySem.W.fnOf "_law_alike" "_law_alike" (C8.fnArgs (top 27)) (C8.fnBody (top 27)) (C8.fnScope (top 27)) .none kV15 dc15 pm15 an15 cd15 ct15), sl15⟩)
    (c15 : PySem.W.codeIn K cd15 "_law_alike" = true)
    (k15 : PySem.W.keepIn K (.ref f15) = true)
    (a16 : PySem.W.nsIn K mainGlobals "_law_slip" = some (some (.ref f16)))
    (l16 : K.lookup f16 = some ⟨oc16, od16, .func (PySem.W.fnOf "_law_slip" "_law_slip" (C8.fnArgs (top 28)) (C8.fnBody (top 28)) (C8.fnScope (top 28)) .none kV16 dc16 pm16 an16 cd16 ct16), sl16⟩)
    (c16 : PySem.W.codeIn K cd16 "_law_slip" = true)
    (k16 : PySem.W.keepIn K (.ref f16) = true)
    (a17 : PySem.W.nsIn K mainGlobals "_law_words" = some (some (.ref f17)))
    (l17 : K.lookup f17 = some ⟨oc17, od17, .func (PySem.W.fnOf "_law_words" "_law_words" (C8.fnArgs (top 29)) (C8.fnBody (top 29)) (C8.fnScope (top 29)) .none kV17 dc17 pm17 an17 cd17 ct17), sl17⟩)
    (c17 : PySem.W.codeIn K cd17 "_law_words" = true)
    (k17 : PySem.W.keepIn K (.ref f17) = true)
    (a18 : PySem.W.nsIn K mainGlobals "_law_slip_text" = some (some (.ref f18)))
    (l18 : K.lookup f18 = some ⟨oc18, od18, .func (PySem.W.fnOf "_law_slip_text" "_law_slip_text" (C8.fnArgs (top 30)) (C8.fnBody (top 30)) (C8.fnScope (top 30)) .none kV18 dc18 pm18 an18 cd18 ct18), sl18⟩)
    (c18 : PySem.W.codeIn K cd18 "_law_slip_text" = true)
    (k18 : PySem.W.keepIn K (.ref f18) = true)
    (a19 : PySem.W.nsIn K mainGlobals "_law_line_text" = some (some (.ref f19)))
    (l19 : K.lookup f19 = some ⟨oc19, od19, .func (PySem.W.fnOf "_law_line_text" "_law_line_text" (C8.fnArgs (top 31)) (C8.fnBody (top 31)) (C8.fnScope (top 31)) .none kV19 dc19 pm19 an19 cd19 ct19), sl19⟩)
    (c19 : PySem.W.codeIn K cd19 "_law_line_text" = true)
    (k19 : PySem.W.keepIn K (.ref f19) = true)
    (a20 : PySem.W.nsIn K mainGlobals "_law_read" = some (some (.ref f20)))
    (l20 : K.lookup f20 = some ⟨oc20, od20, .func (PySem.W.fnOf "_law_read" "_law_read" (C8.fnArgs (top 32)) (C8.fnBody (top 32)) (C8.fnScope (top 32)) .none kV20 dc20 pm20 an20 cd20 ct20), sl20⟩)
    (c20 : PySem.W.codeIn K cd20 "_law_read" = true)
    (k20 : PySem.W.keepIn K (.ref f20) = true)
    (a21 : PySem.W.nsIn K mainGlobals "_law_turned" = some (some (.ref f21)))
    (l21 : K.lookup f21 = some ⟨oc21, od21, .func (PySem.W.fnOf "_law_turned" "_law_turned" (C8.fnArgs (top 33)) (C8.fnBody (top 33)) (C8.fnScope (top 33)) .none kV21 dc21 pm21 an21 cd21 ct21), sl21⟩)
    (c21 : PySem.W.codeIn K cd21 "_law_turned" = true)
    (k21 : PySem.W.keepIn K (.ref f21) = true)
    (a22 : PySem.W.nsIn K mainGlobals "law" = some (some (.ref f22)))
    (l22 : K.lookup f22 = some ⟨oc22, od22, .func (PySem.W.fnOf "law" "law" (C8.fnArgs (top 34)) (C8.fnBody (top 34)) (C8.fnScope (top 34)) .none kV22 dc22 pm22 an22 (.ref cc) ct22), sl22⟩)
    (c22 : PySem.W.codeIn K (.ref cc) "law" = true)
    (k22 : PySem.W.keepIn K (.ref f22) = true)
    (b_abs : PySem.W.nsIn K mainGlobals "abs" = some none)
    (b_all : PySem.W.nsIn K mainGlobals "all" = some none)
    (b_bool : PySem.W.nsIn K mainGlobals "bool" = some none)
    (b_enumerate : PySem.W.nsIn K mainGlobals "enumerate" = some none)
    (b_int : PySem.W.nsIn K mainGlobals "int" = some none)
    (b_isinstance : PySem.W.nsIn K mainGlobals "isinstance" = some none)
    (b_len : PySem.W.nsIn K mainGlobals "len" = some none)
    (b_list : PySem.W.nsIn K mainGlobals "list" = some none)
    (b_range : PySem.W.nsIn K mainGlobals "range" = some none)
    (b_repr : PySem.W.nsIn K mainGlobals "repr" = some none)
    (b_sorted : PySem.W.nsIn K mainGlobals "sorted" = some none)
    (b_str : PySem.W.nsIn K mainGlobals "str" = some none)
    (b_sum : PySem.W.nsIn K mainGlobals "sum" = some none)
    (b_tuple : PySem.W.nsIn K mainGlobals "tuple" = some none)
    (g_FIGURES : PySem.W.nsIn K mainGlobals "FIGURES" = some (some (.str "0123456789" t_FIGURES)))
    (g_MOST_BALLOTS : PySem.W.nsIn K mainGlobals "MOST_BALLOTS" = some (some (.int 1000000000 t_MOST_BALLOTS)))
    (g_MOST_FIGURES : PySem.W.nsIn K mainGlobals "MOST_FIGURES" = some (some (.int 10 t_MOST_FIGURES)))
    (e_PollError : PySem.W.nsIn K mainGlobals "PollError" = some (some (.ref C_PollError)))
    (e_NoText : PySem.W.nsIn K mainGlobals "NoText" = some (some (.ref C_NoText)))
    (x_NoText : PySem.W.excIn K C_NoText [.type "ValueError", .type "Exception", .type "BaseException", .type "object"] "ValueError.__new__" = true)
    (y_NoText : PySem.W.keepIn K (.ref C_NoText) = true)
    (s_NoText : PySem.W.subIn K (.ref C_NoText) (.type "BaseException") = some true)
    (t_NoText : PySem.W.typeIn K (.ref C_NoText) = some (.type "type"))
    (m_NoText_NoText : PySem.W.exmOne K (.ref C_NoText) (.ref C_NoText) = some true)
    (lc : K.lookup cc = some ⟨ce, cdd, .fields cvs, csl⟩)
    (v11 : cvs[11]? = some (.ref cP))
    (nP : K.lookup cP = none) :
    LawV PySem.Challenge.rw_wholepoll_k84_slips_and_lines_written w K 7 63 "_law_script" mg fa h := by
  have e := hfa.symm.trans (PySem.W.mg_of X G a22)
  cases e
  obtain ⟨hP, hC⟩ := own cc cP _ _ _ _ _ _ l22 rfl rfl lc v11
  refine ⟨PySem.W.fnOf "law" "law" (C8.fnArgs (top 34)) (C8.fnBody (top 34)) (C8.fnScope (top 34)) .none kV22 dc22 pm22 an22 (.ref cc) ct22, [(cc, cP)], spOf ⟨K, fun _ => 0, [(cP, "law.<locals>." ++ "<lambda>")]⟩ (ecT C_NoText) [.Q] .S F_law, ?_, ?_, ?_, fun s u => .of_eq rfl, fun H a ns hn hb hH _ hS => law_sp (plain ns hn hb) ?_ hS, fun base KB GB TB => ?_⟩
  · intro p hp; rw [List.mem_singleton.mp hp]; exact hP
  · intro p hp; rw [List.mem_singleton.mp hp]; exact nP
  · intro p hp; rw [List.mem_singleton.mp hp]; exact hC
  · intro p hp; rw [List.mem_singleton.mp hp]; exact hH (cc, cP) (List.mem_singleton.mpr rfl)
  let Z : Sta := { prog := PySem.Challenge.rw_wholepoll_k84_slips_and_lines_written.prog, w := w, κ := ⟨K, fun _ => 0, [(cP, "law.<locals>." ++ "<lambda>")]⟩, mg := mg, base := base, N := [], sc := C8.fnScope (top 34), k := 0, ec := (ecT C_NoText), top := true, gd := true, fnn := fun _ => true, lm := some ("law.<locals>.", cc) }
  let Z0 : Sta := { Z with gd := false }
  have h0 : DefV Z "members" (top 1) ["mask"] := defV_of (PySem.W.mg_of X G a0) l0 c0 k0 fun _ _ _ _ _ _ us hl => match us, hl with | [_], _ => rfl
  have h1 : DefV Z "show_slip" (top 3) ["slip", "words"] := defV_of (PySem.W.mg_of X G a1) l1 c1 k1 fun _ _ _ _ _ _ us hl => match us, hl with | [_, _], _ => rfl
  have h2 : DefV Z "show_line" (top 4) ["line", "words"] := defV_of (PySem.W.mg_of X G a2) l2 c2 k2 fun _ _ _ _ _ _ us hl => match us, hl with | [_, _], _ => rfl
  have h3 : DefV Z "is_whole" (top 9) ["thing"] := defV_of (PySem.W.mg_of X G a3) l3 c3 k3 fun _ _ _ _ _ _ us hl => match us, hl with | [_], _ => rfl
  have h4 : DefV Z "is_slip" (top 11) ["thing", "hands"] := defV_of (PySem.W.mg_of X G a4) l4 c4 k4 fun _ _ _ _ _ _ us hl => match us, hl with | [_, _], _ => rfl
  have h5 : DefV Z "is_line" (top 12) ["thing", "hands"] := defV_of (PySem.W.mg_of X G a5) l5 c5 k5 fun _ _ _ _ _ _ us hl => match us, hl with | [_, _], _ => rfl
  have h6 : DefV Z "need" (top 17) ["truth"] := defV_of (PySem.W.mg_of X G a6) l6 c6 k6 fun _ _ _ _ _ _ us hl => match us, hl with | [_], _ => rfl
  have h7 : DefV Z "need_text" (top 18) ["thing"] := defV_of (PySem.W.mg_of X G a7) l7 c7 k7 fun _ _ _ _ _ _ us hl => match us, hl with | [_], _ => rfl
  have h8 : DefV Z "number_read" (top 19) ["text"] := defV_of (PySem.W.mg_of X G a8) l8 c8 k8 fun _ _ _ _ _ _ us hl => match us, hl with | [_], _ => rfl
  have h9 : DefV Z "slip_read" (top 20) ["text", "words"] := defV_of (PySem.W.mg_of X G a9) l9 c9 k9 fun _ _ _ _ _ _ us hl => match us, hl with | [_, _], _ => rfl
  have h10 : DefV Z "read_slip" (top 21) ["text", "words"] := defV_of (PySem.W.mg_of X G a10) l10 c10 k10 fun _ _ _ _ _ _ us hl => match us, hl with | [_, _], _ => rfl
  have h11 : DefV Z "read_line" (top 22) ["text", "words"] := defV_of (PySem.W.mg_of X G a11) l11 c11 k11 fun _ _ _ _ _ _ us hl => match us, hl with | [_, _], _ => rfl
  have h12 : DefV Z "_law_bag" (top 24) ["_law_script"] := defV_of (PySem.W.mg_of X G a12) l12 c12 k12 fun _ _ _ _ _ _ us hl => match us, hl with | [_], _ => rfl
  have h13 : DefV Z "_law_take" (top 25) ["_law_bag_here", "_law_many"] := defV_of (PySem.W.mg_of X G a13) l13 c13 k13 fun _ _ _ _ _ _ us hl => match us, hl with | [_, _], _ => rfl
  have h14 : DefV Z "_law_mixed" (top 26) ["_law_bag_here", "_law_things"] := defV_of (PySem.W.mg_of X G a14) l14 c14 k14 fun _ _ _ _ _ _ us hl => match us, hl with | [_, _], _ => rfl
  have h15 : DefV Z "_law_alike" (top 27) ["_law_found", "_law_due"] := defV_of (PySem.W.mg_of X G a15) l15 c15 k15 fun _ _ _ _ _ _ us hl => match us, hl with | [_, _], _ => rfl
  have h16 : DefV Z "_law_slip" (top 28) ["_law_bag_here", "_law_hands"] := defV_of (PySem.W.mg_of X G a16) l16 c16 k16 fun _ _ _ _ _ _ us hl => match us, hl with | [_, _], _ => rfl
  have h17 : DefV Z "_law_words" (top 29) ["_law_bag_here", "_law_hands"] := defV_of (PySem.W.mg_of X G a17) l17 c17 k17 fun _ _ _ _ _ _ us hl => match us, hl with | [_, _], _ => rfl
  have h18 : DefV Z "_law_slip_text" (top 30) ["_law_slip_here", "_law_words_here"] := defV_of (PySem.W.mg_of X G a18) l18 c18 k18 fun _ _ _ _ _ _ us hl => match us, hl with | [_, _], _ => rfl
  have h19 : DefV Z "_law_line_text" (top 31) ["_law_line", "_law_words_here"] := defV_of (PySem.W.mg_of X G a19) l19 c19 k19 fun _ _ _ _ _ _ us hl => match us, hl with | [_, _], _ => rfl
  have h20 : DefV Z "_law_read" (top 32) ["_law_act"] := defV_of (PySem.W.mg_of X G a20) l20 c20 k20 fun _ _ _ _ _ _ us hl => match us, hl with | [_], _ => rfl
  have h21 : DefV Z "_law_turned" (top 33) ["_law_slip_here", "_law_words_here", "_law_others"] := defV_of (PySem.W.mg_of X G a21) l21 c21 k21 fun _ _ _ _ _ _ us hl => match us, hl with | [_, _, _], _ => rfl
  have h22 : DefV Z "law" (top 34) ["_law_script"] := defV_of (PySem.W.mg_of X G a22) l22 c22 k22 fun _ _ _ _ _ _ us hl => match us, hl with | [_], _ => rfl
  have t : Txt Z := ⟨PySem.W.mg_none_of X G b_abs,
    PySem.W.mg_none_of X G b_all,
    PySem.W.mg_none_of X G b_bool,
    PySem.W.mg_none_of X G b_enumerate,
    PySem.W.mg_none_of X G b_int,
    PySem.W.mg_none_of X G b_isinstance,
    PySem.W.mg_none_of X G b_len,
    PySem.W.mg_none_of X G b_list,
    PySem.W.mg_none_of X G b_range,
    PySem.W.mg_none_of X G b_repr,
    PySem.W.mg_none_of X G b_sorted,
    PySem.W.mg_none_of X G b_str,
    PySem.W.mg_none_of X G b_sum,
    PySem.W.mg_none_of X G b_tuple,
    ⟨⟨.str "0123456789", _, PySem.W.mg_of X G g_FIGURES, ⟨_, rfl⟩, fun _ _ _ => rep_str⟩⟩,
    ⟨⟨.int 1000000000, _, PySem.W.mg_of X G g_MOST_BALLOTS, ⟨_, rfl⟩, fun _ _ _ => rep_int⟩⟩,
    ⟨⟨.int 10, _, PySem.W.mg_of X G g_MOST_FIGURES, ⟨_, rfl⟩, fun _ _ _ => rep_int⟩⟩,
    ⟨⟨C_NoText, _, _, _, _, PySem.F.excBase_ValueError, x_NoText, PySem.W.mg_of X G e_NoText, y_NoText, s_NoText, t_NoText, rfl⟩⟩,
    rdV_of h20,
    ⟨_, PySem.W.mg_of X G e_NoText, fun n b hb => by unfold m1T at hb; split at hb; (rename_i q; obtain rfl := beq_iff_eq.mp q; cases hb; exact m_NoText_NoText); cases hb⟩,
    ⟨_, PySem.W.mg_of X G e_PollError, fun n b hb => (nomatch hb)⟩⟩
  have t0 : Txt Z0 := ⟨PySem.W.mg_none_of X G b_abs,
    PySem.W.mg_none_of X G b_all,
    PySem.W.mg_none_of X G b_bool,
    PySem.W.mg_none_of X G b_enumerate,
    PySem.W.mg_none_of X G b_int,
    PySem.W.mg_none_of X G b_isinstance,
    PySem.W.mg_none_of X G b_len,
    PySem.W.mg_none_of X G b_list,
    PySem.W.mg_none_of X G b_range,
    PySem.W.mg_none_of X G b_repr,
    PySem.W.mg_none_of X G b_sorted,
    PySem.W.mg_none_of X G b_str,
    PySem.W.mg_none_of X G b_sum,
    PySem.W.mg_none_of X G b_tuple,
    ⟨⟨.str "0123456789", _, PySem.W.mg_of X G g_FIGURES, ⟨_, rfl⟩, fun _ _ _ => rep_str⟩⟩,
    ⟨⟨.int 1000000000, _, PySem.W.mg_of X G g_MOST_BALLOTS, ⟨_, rfl⟩, fun _ _ _ => rep_int⟩⟩,
    ⟨⟨.int 10, _, PySem.W.mg_of X G g_MOST_FIGURES, ⟨_, rfl⟩, fun _ _ _ => rep_int⟩⟩,
    ⟨⟨C_NoText, _, _, _, _, PySem.F.excBase_ValueError, x_NoText, PySem.W.mg_of X G e_NoText, y_NoText, s_NoText, t_NoText, rfl⟩⟩,
    rdV_of (Z := Z0) ⟨h20.ex⟩,
    ⟨_, PySem.W.mg_of X G e_NoText, fun n b hb => by unfold m1T at hb; split at hb; (rename_i q; obtain rfl := beq_iff_eq.mp q; cases hb; exact m_NoText_NoText); cases hb⟩,
    ⟨_, PySem.W.mg_of X G e_PollError, fun n b hb => (nomatch hb)⟩⟩
  have h0_0 : DefV Z0 "members" (top 1) _ := ⟨h0.ex⟩
  have z_members := cal_members t0 h0_0
  have y_members := cal_members t h0
  have h0_1 : DefV Z0 "show_slip" (top 3) _ := ⟨h1.ex⟩
  have z_show_slip := cal_show_slip t0 z_members h0_1
  have y_show_slip := cal_show_slip t y_members h1
  have h0_2 : DefV Z0 "show_line" (top 4) _ := ⟨h2.ex⟩
  have z_show_line := cal_show_line t0 z_show_slip h0_2
  have y_show_line := cal_show_line t y_show_slip h2
  have h0_3 : DefV Z0 "is_whole" (top 9) _ := ⟨h3.ex⟩
  have z_is_whole := cal_is_whole t0 h0_3
  have y_is_whole := cal_is_whole t h3
  have h0_4 : DefV Z0 "is_slip" (top 11) _ := ⟨h4.ex⟩
  have z_is_slip := cal_is_slip t0 z_is_whole h0_4
  have y_is_slip := cal_is_slip t y_is_whole h4
  have h0_5 : DefV Z0 "is_line" (top 12) _ := ⟨h5.ex⟩
  have z_is_line := cal_is_line t0 z_is_slip z_is_whole h0_5
  have y_is_line := cal_is_line t y_is_slip y_is_whole h5
  have h0_6 : DefV Z0 "need" (top 17) _ := ⟨h6.ex⟩
  have z_need := cal_need t0 h0_6
  have y_need := cal_need t h6
  have h0_7 : DefV Z0 "need_text" (top 18) _ := ⟨h7.ex⟩
  have z_need_text := cal_need_text t0 z_need h0_7
  have y_need_text := cal_need_text t y_need h7
  have h0_8 : DefV Z0 "number_read" (top 19) _ := ⟨h8.ex⟩
  have z_number_read := cal_number_read t0 z_need h0_8
  have y_number_read := cal_number_read t y_need h8
  have h0_9 : DefV Z0 "slip_read" (top 20) _ := ⟨h9.ex⟩
  have z_slip_read := cal_slip_read t0 z_need h0_9
  have y_slip_read := cal_slip_read t y_need h9
  have h0_10 : DefV Z0 "read_slip" (top 21) _ := ⟨h10.ex⟩
  have z_read_slip := cal_read_slip t0 z_need_text z_slip_read z_need z_is_slip z_show_slip h0_10
  have y_read_slip := cal_read_slip t y_need_text y_slip_read y_need y_is_slip y_show_slip h10
  have h0_11 : DefV Z0 "read_line" (top 22) _ := ⟨h11.ex⟩
  have z_read_line := cal_read_line t0 z_need_text z_read_slip z_number_read z_need z_is_line z_show_line h0_11
  have y_read_line := cal_read_line t y_need_text y_read_slip y_number_read y_need y_is_line y_show_line h11
  have h0_12 : DefV Z0 "_law_bag" (top 24) _ := ⟨h12.ex⟩
  have z__law_bag := cal__law_bag t0 h0_12
  have y__law_bag := cal__law_bag t h12
  have h0_13 : DefV Z0 "_law_take" (top 25) _ := ⟨h13.ex⟩
  have z__law_take := cal__law_take t0 h0_13
  have y__law_take := cal__law_take t h13
  have h0_14 : DefV Z0 "_law_mixed" (top 26) _ := ⟨h14.ex⟩
  have z__law_mixed := cal__law_mixed t0 z__law_take h0_14
  have y__law_mixed := cal__law_mixed t y__law_take h14
  have y__law_alike := cal__law_alike t rfl h15
  have h0_16 : DefV Z0 "_law_slip" (top 28) _ := ⟨h16.ex⟩
  have z__law_slip := cal__law_slip t0 z__law_take h0_16
  have y__law_slip := cal__law_slip t y__law_take h16
  have h0_17 : DefV Z0 "_law_words" (top 29) _ := ⟨h17.ex⟩
  have z__law_words := cal__law_words t0 z__law_take z__law_mixed h0_17
  have y__law_words := cal__law_words t y__law_take y__law_mixed h17
  have h0_18 : DefV Z0 "_law_slip_text" (top 30) _ := ⟨h18.ex⟩
  have z__law_slip_text := cal__law_slip_text t0 h0_18
  have y__law_slip_text := cal__law_slip_text t h18
  have h0_19 : DefV Z0 "_law_line_text" (top 31) _ := ⟨h19.ex⟩
  have z__law_line_text := cal__law_line_text t0 z__law_slip_text h0_19
  have y__law_line_text := cal__law_line_text t y__law_slip_text h19
  have h0_21 : DefV Z0 "_law_turned" (top 33) _ := ⟨h21.ex⟩
  have z__law_turned := cal__law_turned t0 h0_21
  have y__law_turned := cal__law_turned t h21
  have lmv : LmV Z "law.<locals>." cc := ⟨rfl, cP, TB (cc, cP) (List.mem_singleton.mpr rfl), List.mem_singleton.mpr rfl, fun p hp _ => by rw [List.mem_singleton.mp hp]⟩
  exact fnV_of (S := S_law Z) (j := 15) l22 c22 sc_law rfl rfl rfl (fun q c z => by cases z; exact ⟨rfl, rfl⟩) (by decide) (d_law t lmv rfl y__law_bag y__law_take y__law_words y__law_mixed y__law_slip y__law_slip_text y__law_line_text y__law_alike y_show_slip y_show_line y__law_turned z_read_line z_read_slip)
end K84

namespace VL
open PySem L2

/-! ### plain rules: how a function over deep data runs -/
theorem ite_ap {α : Type} {c : Prop} [Decidable c] (A B : M α) (ρ : List D) : (if c then A else B) ρ = if c then A ρ else B ρ := by split <;> rfl
theorem ret_ap {α : Type} (a : α) (ρ : List D) : (ret a : M α) ρ = .ok a ρ := rfl
theorem bnd_ok {α β : Type} {x : M α} {f : α → M β} {ρ ρ' : List D} {a : α} (h : x ρ = .ok a ρ') : bnd x f ρ = f a ρ' := by unfold bnd; rw [h]
theorem bnd_err {α β : Type} {x : M α} {f : α → M β} {ρ ρ' : List D} {c : Str} (h : x ρ = .err c ρ') : bnd x f ρ = .err c ρ' := by unfold bnd; rw [h]
theorem opt_some {α : Type} (a : α) (ρ : List D) : opt (some a) ρ = .ok a ρ := rfl
theorem guard_true {α : Type} (x : M α) : VL.guard true x = x := rfl
theorem setS_ap (i : Nat) (d : D) (ρ : List D) : setS i d ρ = .ok () (ρ.set i d) := rfl
theorem eVar_ap {i : Nat} {d : D} {ρ : List D} (h : ρ[i]? = some d) : eVar i ρ = .ok d ρ := by unfold eVar; rw [h]
theorem atI_nn {α : Type} {xs : List α} {i : Int} (h : 0 ≤ i) : atI xs i = xs[i.toNat]? := by
  unfold atI ixN
  rw [if_pos h]
  by_cases h2 : i < xs.length
  · rw [if_pos h2]; rfl
  · rw [if_neg h2, List.getElem?_eq_none (by omega)]; rfl
theorem ixN_nn {n : Nat} {i : Int} (h : 0 ≤ i) (h2 : i < n) : ixN n i = some i.toNat := by
  unfold ixN; rw [if_pos h, if_pos h2]
theorem plains_ints (l : List Int) : D.plains (l.map D.int) = true := by
  induction l with
  | nil => rfl
  | cons a l ih => simp only [List.map_cons, D.plains, D.plain, ih, Bool.and_self]
theorem pys_ints (l : List Int) : D.pys (l.map D.int) = l.map PyData.int := by
  induction l with
  | nil => rfl
  | cons a l ih => simp only [List.map_cons, D.pys, D.py, ih]
theorem lay_ints (l : List Int) : PyData.canLayAll0 (l.map PyData.int) = true := by
  induction l with
  | nil => rfl
  | cons a l ih => simp only [List.map_cons, PyData.canLayAll0, PyData.canLay0, ih, Bool.and_self]
theorem depth_ints (l : List Int) : PyData.depthAll (l.map PyData.int) = 0 := by
  induction l with
  | nil => rfl
  | cons a l ih => simp only [List.map_cons, PyData.depthAll, PyData.depth, ih]; rfl
theorem okEq_ints (l : List Int) : okEq (.lst (l.map D.int)) = true := by
  unfold okEq SeqAt.shaped
  simp only [D.plain, plains_ints, D.py, pys_ints, PyData.canLay0, lay_ints, PyData.depth, depth_ints]
  rfl
theorem eqv_ints : ∀ (a b : List Int), PyData.eqvAll (a.map PyData.int) (b.map PyData.int) = decide (a = b)
  | [], [] => rfl
  | [], _ :: _ => by simp [PyData.eqvAll]
  | _ :: _, [] => by simp [PyData.eqvAll]
  | x :: a, y :: b => by
    simp only [List.map_cons, PyData.eqvAll, PyData.eqv, eqv_ints a b, List.cons.injEq, Bool.decide_and]
    rfl
end VL
namespace VL
open PySem L2
section
variable {α β : Type}
@[simp] theorem bnd_ap (x : M α) (f : α → M β) (ρ : List D) : bnd x f ρ = match x ρ with
  | .ok a ρ' => f a ρ'
  | .err c ρ' => .err c ρ'
  | .stuck => .stuck := rfl
@[simp] theorem ret_ap' (a : α) (ρ : List D) : (VL.ret a : M α) ρ = .ok a ρ := rfl
@[simp] theorem ite_ap' {c : Prop} [Decidable c] (A B : M α) (ρ : List D) : (if c then A else B) ρ = if c then A ρ else B ρ := ite_ap A B ρ
@[simp] theorem opt_some' (a : α) (ρ : List D) : opt (some a) ρ = .ok a ρ := rfl
@[simp] theorem opt_none' (ρ : List D) : (opt none : M α) ρ = .stuck := rfl
@[simp] theorem guard_ap (b : Bool) (x : M α) (ρ : List D) : VL.guard b x ρ = if b then x ρ else .stuck := rfl
@[simp] theorem setS_ap' (i : Nat) (d : D) (ρ : List D) : setS i d ρ = .ok () (ρ.set i d) := rfl
@[simp] theorem killF_ap (i : Nat) (G : M Fl) (ρ : List D) : killF i G ρ = G (ρ.set i .non) := rfl
@[simp] theorem eVar_ap' (i : Nat) (ρ : List D) : eVar i ρ = match ρ[i]? with
  | some d => .ok d ρ
  | none => .stuck := rfl
@[simp] theorem seqF_ap (A B : M Fl) (ρ : List D) : seqF A B ρ = match A ρ with
  | .ok .nx ρ' => B ρ'
  | .ok .brk ρ' => .ok .brk ρ'
  | .ok .cont ρ' => .ok .cont ρ'
  | .ok (.ret d) ρ' => .ok (.ret d) ρ'
  | .err c ρ' => .err c ρ'
  | .stuck => .stuck := by
  unfold seqF bnd
  cases A ρ with
  | ok f ρ' => cases f <;> rfl
  | err _ _ => rfl
  | stuck => rfl
@[simp] theorem goT_ap (o : List D → Option (List D)) (ρ : List D) : goT o ρ = match o ρ with
  | some ρ' => .ok () ρ'
  | none => .stuck := rfl
@[simp] theorem gN_ap (i : Nat) (d : D) (ρ : List D) : gN i d ρ = some (ρ.set i d) := rfl
@[simp] theorem gT_tup (n : Nat) (G : GTs) (ds : List D) (ρ : List D) : gT n G (.tup ds) ρ = if ds.length = n then G ds ρ else none := rfl
@[simp] theorem gsC_cons (G1 : GT) (G2 : GTs) (d : D) (ds ρ : List D) : gsC G1 G2 (d :: ds) ρ = (G1 d ρ).bind (G2 ds) := rfl
@[simp] theorem gs0_nil (ρ : List D) : gs0 [] ρ = some ρ := rfl
@[simp] theorem callM_ap (ks : List ArgK) (F : List D → Out D) (ds ρ : List D) : callM ks F ds ρ = match F (fillK ks ds ρ) with
  | .ok d ds' => .ok d (backK ks ds' ρ)
  | .err c ds' => .err c (backK ks ds' ρ)
  | .stuck => .stuck := rfl
@[simp] theorem fill_nil (ds ρ : List D) : fillK [] ds ρ = [] := by unfold fillK; rfl
@[simp] theorem fill_val (ks : List ArgK) (d : D) (ds ρ : List D) : fillK (.val :: ks) (d :: ds) ρ = d :: fillK ks ds ρ := rfl
@[simp] theorem fill_lend (j : Nat) (ks : List ArgK) (d : D) (ds ρ : List D) : fillK (.lend j :: ks) (d :: ds) ρ = ρ.getD j .non :: fillK ks ds ρ := rfl
@[simp] theorem fill_q (j : Nat) (ks : List ArgK) (d : D) (ds ρ : List D) : fillK (.q j :: ks) (d :: ds) ρ = ρ.getD j .non :: fillK ks ds ρ := rfl
@[simp] theorem back_nil (ds ρ : List D) : backK [] ds ρ = ρ := by unfold backK; rfl
@[simp] theorem back_val (ks : List ArgK) (d : D) (ds ρ : List D) : backK (.val :: ks) (d :: ds) ρ = backK ks ds ρ := rfl
@[simp] theorem back_q (j : Nat) (ks : List ArgK) (d : D) (ds ρ : List D) : backK (.q j :: ks) (d :: ds) ρ = backK ks ds ρ := rfl
@[simp] theorem back_lend (j : Nat) (ks : List ArgK) (d : D) (ds ρ : List D) : backK (.lend j :: ks) (d :: ds) ρ = backK ks ds (ρ.set j d) := rfl
@[simp] theorem funF_ap (nx : Bool) (N n : Nat) (G : M Fl) (ds : List D) : funF nx N n G ds = match G (ds ++ List.replicate (N - n) .non) with
  | .ok .nx ρ' => if nx then .ok .non (ρ'.take n) else .stuck
  | .ok (.ret d) ρ' => .ok d (ρ'.take n)
  | .ok _ _ => .stuck
  | .err c ρ' => .err c (ρ'.take n)
  | .stuck => .stuck := rfl
@[simp] theorem oB_bl (b : Bool) : oB (some (.bl b)) = some b := rfl
@[simp] theorem asB_bl (b : Bool) : asB (.bl b) = some b := rfl
@[simp] theorem asI_int (i : Int) : asI (.int i) = some (some i) := rfl
@[simp] theorem ix_l (ds : List D) (i : Int) : ixD (.lst ds) (.int i) = atI ds i := rfl
@[simp] theorem ix_t (ds : List D) (i : Int) : ixD (.tup ds) (.int i) = atI ds i := rfl
@[simp] theorem setIx_l (ds : List D) (i : Int) (d : D) : setIx (.lst ds) (.int i) d = (ixN ds.length i).map fun j => .lst (ds.set j d) := rfl
@[simp] theorem add_i (i j : Int) : addD (.int i) (.int j) = some (.int (i + j)) := rfl
@[simp] theorem sub_i (i j : Int) : subD (.int i) (.int j) = some (.int (i - j)) := rfl
@[simp] theorem and_i (i j : Int) : andD (.int i) (.int j) = some (.int (Builtin.bitAnd i j)) := rfl
@[simp] theorem or_i (i j : Int) : orD (.int i) (.int j) = some (.int (Builtin.bitOr i j)) := rfl
@[simp] theorem lt_i (i j : Int) : ltD (.int i) (.int j) = some (.bl (decide (i < j))) := rfl
@[simp] theorem le_i (i j : Int) : leD (.int i) (.int j) = some (.bl (decide (i ≤ j))) := rfl
@[simp] theorem gt_i (i j : Int) : gtD (.int i) (.int j) = some (.bl (decide (j < i))) := rfl
@[simp] theorem ge_i (i j : Int) : geD (.int i) (.int j) = some (.bl (decide (j ≤ i))) := rfl
theorem mul_i {i j : Int} (h : CMul i j) : mulD (.int i) (.int j) = some (.int (i * j)) := by unfold CMul at h; simp only [mulD, iI, decide_eq_true h, if_true]
theorem mod_i {i j : Int} (h : 0 < j) : modD (.int i) (.int j) = some (.int (i % j)) := by show (if decide (0 < j) = true then _ else _) = _; rw [if_pos (decide_eq_true h)]
theorem fdiv_i {i j : Int} (h : 0 < j) (h2 : j < 1073741824) : fdivD (.int i) (.int j) = some (.int (i / j)) := by simp only [fdivD, iI, decide_eq_true (show 0 < j ∧ j < 1073741824 from ⟨h, h2⟩), if_true]
theorem pow_i {i j : Int} (h : CPow i j) : powD (.int i) (.int j) = some (.int (i ^ j.toNat)) := by unfold CPow at h; simp only [powD, iI, decide_eq_true h, if_true]
theorem shl_i {i j : Int} (h : CPow i j) : shlD (.int i) (.int j) = some (.int (i * 2 ^ j.toNat)) := by unfold CPow at h; simp only [shlD, iI, decide_eq_true h, if_true]
theorem shr_i {i j : Int} (h : 0 ≤ j) : shrD (.int i) (.int j) = some (.int (i / 2 ^ j.toNat)) := by show (if decide (0 ≤ j) = true then _ else _) = _; rw [if_pos (decide_eq_true h)]
@[simp] theorem eq_i (i j : Int) : eqD (.int i) (.int j) = some (.bl (decide (i = j))) := by
  show (if (true && true) = true then some (D.bl (PyData.eqv (.int i) (.int j))) else none) = _
  simp only [Bool.and_self, if_true, PyData.eqv]
  congr 2
@[simp] theorem ne_i (i j : Int) : neD (.int i) (.int j) = some (.bl (!decide (i = j))) := by
  show (if (true && true) = true then some (D.bl (!PyData.eqv (.int i) (.int j))) else none) = _
  simp only [Bool.and_self, if_true, PyData.eqv]
  congr 2
@[simp] theorem eq_s (a b : Str) : eqD (.str a) (.str b) = some (.bl (decide (a = b))) := rfl
@[simp] theorem ne_s (a b : Str) : neD (.str a) (.str b) = some (.bl (!decide (a = b))) := rfl
@[simp] theorem one_ap (g : D → Option D) (x : D) : one g [x] = g x := rfl
@[simp] theorem two_ap (g : D → D → Option D) (x y : D) : two g [x, y] = g x y := rfl
@[simp] theorem int_i (i : Int) : intD (.int i) = some (.int i) := rfl
@[simp] theorem len_l (ds : List D) : lenD [.lst ds] = some (.int ds.length) := rfl
@[simp] theorem len_t (ds : List D) : lenD [.tup ds] = some (.int ds.length) := rfl
@[simp] theorem isStr_s (a : Str) : isStr (.str a) = true := rfl
@[simp] theorem isLst_l (ds : List D) : isLst (.lst ds) = true := rfl
@[simp] theorem lstI_l (ds : List D) : lstI (.lst ds) = some ds := rfl
@[simp] theorem tupI_t (ds : List D) : tupI (.tup ds) = some ds := rfl
@[simp] theorem mutD_l (g : List D → List D → Option (List D)) (ds xs : List D) : mutD g (.lst ds) xs = (g ds xs).map D.lst := rfl
@[simp] theorem kills_ap (is : List Nat) (ρ : List D) : kills is ρ = .ok () (is.foldl (fun ρ i => ρ.set i .non) ρ) := rfl
@[simp] theorem noE_ap (x : M α) (ρ : List D) : noE x ρ = match x ρ with
  | .err _ _ => .stuck
  | o => o := rfl
end
/-! ### items of lists that stand as they are written -/
section
variable {α : Type} (a b c d e f : α) (r : List α)
@[simp] theorem at_0 : atI (a :: r) 0 = some a := by rw [atI_nn (by decide)]; rfl
@[simp] theorem at_1 : atI (a :: b :: r) 1 = some b := by rw [atI_nn (by decide)]; rfl
@[simp] theorem at_2 : atI (a :: b :: c :: r) 2 = some c := by rw [atI_nn (by decide)]; rfl
@[simp] theorem at_3 : atI (a :: b :: c :: d :: r) 3 = some d := by rw [atI_nn (by decide)]; rfl
@[simp] theorem at_4 : atI (a :: b :: c :: d :: e :: r) 4 = some e := by rw [atI_nn (by decide)]; rfl
@[simp] theorem at_5 : atI (a :: b :: c :: d :: e :: f :: r) 5 = some f := by rw [atI_nn (by decide)]; rfl
end
/-! ### comprehensions and loops -/
/-- a comprehension: what holds behind i items, acc made -/
theorem lcM_inv {G : GT} {T : M Bool} {B : M D} {is : List Nat} (I : Nat → List D → List D → Prop) : ∀ (ds : List D) (n : Nat) (acc ρ : List D), I n acc ρ →
    (∀ i acc ρ d, ds[i]? = some d → I (n + i) acc ρ → ∃ ρ1 k ρ2, G d ρ = some ρ1 ∧ T ρ1 = .ok k ρ2 ∧
      (k = true → ∃ y ρ3, B ρ2 = .ok y ρ3 ∧ I (n + i + 1) (acc ++ [y]) (is.foldl (fun ρ i => ρ.set i .non) ρ3)) ∧ (k = false → I (n + i + 1) acc (is.foldl (fun ρ i => ρ.set i .non) ρ2))) →
    ∃ ys ρ', lcM G T B is ds ρ = .ok ys ρ' ∧ I (n + ds.length) (acc ++ ys) ρ'
  | [], n, acc, ρ, h, _ => ⟨[], ρ, rfl, by simpa using h⟩
  | d :: ds, n, acc, ρ, h, hs => by
    obtain ⟨ρ1, k, ρ2, e1, e2, ht, hf⟩ := hs 0 acc ρ d rfl h
    cases k with
    | true =>
      obtain ⟨y, ρ3, e3, h3⟩ := ht rfl
      obtain ⟨ys, ρ', e4, h4⟩ := lcM_inv I ds (n + 1) (acc ++ [y]) _ h3 fun i acc ρ d hd hi => by
        have := hs (i + 1) acc ρ d (by simpa using hd) (by rw [show n + (i + 1) = n + 1 + i by omega]; exact hi)
        rw [show n + (i + 1) + 1 = n + 1 + i + 1 by omega] at this
        exact this
      refine ⟨y :: ys, ρ', ?_, ?_⟩
      · simp only [lcM, bnd_ap, goT_ap, e1, noE_ap, e2, if_true, e3, kills_ap, e4, ret_ap']
      · rw [List.length_cons, show n + (ds.length + 1) = n + 1 + ds.length by omega, show acc ++ y :: ys = acc ++ [y] ++ ys by simp]; exact h4
    | false =>
      obtain ⟨ys, ρ', e4, h4⟩ := lcM_inv I ds (n + 1) acc _ (hf rfl) fun i acc ρ d hd hi => by
        have := hs (i + 1) acc ρ d (by simpa using hd) (by rw [show n + (i + 1) = n + 1 + i by omega]; exact hi)
        rw [show n + (i + 1) + 1 = n + 1 + i + 1 by omega] at this
        exact this
      refine ⟨ys, ρ', ?_, ?_⟩
      · simp only [lcM, bnd_ap, goT_ap, e1, noE_ap, e2, Bool.false_eq_true, if_false, kills_ap, e4]
      · rw [List.length_cons, show n + (ds.length + 1) = n + 1 + ds.length by omega]; exact h4
/-- a comprehension over one name that changes nothing else: slot j is empty outside -/
theorem lcM_map {B : M D} {j : Nat} {ρ : List D} (f : D → D) (hj : ρ[j]? = some .non) : ∀ (ds : List D), (∀ d ∈ ds, B (ρ.set j d) = .ok (f d) (ρ.set j d)) → lcM (gN j) (VL.ret true) B [j] ds ρ = .ok (ds.map f) ρ
  | [], _ => rfl
  | d :: ds, h => by
    have ih := lcM_map f hj ds fun d hd => h d (List.mem_cons_of_mem _ hd)
    have e : (ρ.set j d).set j .non = ρ := by
      rw [List.set_set]
      apply List.ext_getElem?
      intro i
      by_cases hi : i = j
      · subst hi; rw [List.getElem?_set_self (List.getElem?_eq_some_iff.mp hj).1, hj]
      · rw [List.getElem?_set_ne (Ne.symm hi)]
    simp only [lcM, bnd_ap, goT_ap, gN_ap, noE_ap, ret_ap', if_true, h d List.mem_cons_self, kills_ap, List.foldl_cons, List.foldl_nil, e, ih, List.map_cons]
/-- .. with a test -/
theorem lcM_filt {T : M Bool} {B : M D} {j : Nat} {ρ : List D} (t : D → Bool) (f : D → D) (hj : ρ[j]? = some .non) : ∀ (ds : List D), (∀ d ∈ ds, T (ρ.set j d) = .ok (t d) (ρ.set j d) ∧ (t d = true → B (ρ.set j d) = .ok (f d) (ρ.set j d))) → lcM (gN j) T B [j] ds ρ = .ok ((ds.filter t).map f) ρ
  | [], _ => rfl
  | d :: ds, h => by
    have ih := lcM_filt t f hj ds fun d hd => h d (List.mem_cons_of_mem _ hd)
    have e : (ρ.set j d).set j .non = ρ := by
      rw [List.set_set]
      apply List.ext_getElem?
      intro i
      by_cases hi : i = j
      · subst hi; rw [List.getElem?_set_self (List.getElem?_eq_some_iff.mp hj).1, hj]
      · rw [List.getElem?_set_ne (Ne.symm hi)]
    obtain ⟨h1, h2⟩ := h d List.mem_cons_self
    cases ht : t d with
    | true =>
      simp only [lcM, bnd_ap, goT_ap, gN_ap, noE_ap, ret_ap', h1, ht, if_true, h2 ht, kills_ap, List.foldl_cons, List.foldl_nil, e, ih, List.filter_cons_of_pos ht, List.map_cons]
    | false =>
      have hf : ¬ t d = true := by rw [ht]; decide
      simp only [lcM, bnd_ap, goT_ap, gN_ap, noE_ap, h1, ht, Bool.false_eq_true, if_false, kills_ap, List.foldl_cons, List.foldl_nil, e, ih, List.filter_cons_of_neg hf]
/-- a for: what holds behind i items -/
theorem loopM_inv {G : GT} {B : M Fl} (I : Nat → List D → Prop) : ∀ (ds : List D) (n : Nat) (ρ : List D), I n ρ →
    (∀ i ρ d, ds[i]? = some d → I (n + i) ρ → ∃ ρ1 ρ2 fl, G d ρ = some ρ1 ∧ B ρ1 = .ok fl ρ2 ∧ (fl = .nx ∨ fl = .cont) ∧ I (n + i + 1) ρ2) → ∃ ρ', loopM G B ds ρ = .ok .nx ρ' ∧ I (n + ds.length) ρ'
  | [], n, ρ, h, _ => ⟨ρ, rfl, by simpa using h⟩
  | d :: ds, n, ρ, h, hs => by
    obtain ⟨ρ1, ρ2, fl, e1, e2, hfl, h2⟩ := hs 0 ρ d rfl h
    obtain ⟨ρ', e3, h3⟩ := loopM_inv I ds (n + 1) ρ2 h2 fun i ρ d hd hi => by
      have := hs (i + 1) ρ d (by simpa using hd) (by rw [show n + (i + 1) = n + 1 + i by omega]; exact hi)
      rw [show n + (i + 1) + 1 = n + 1 + i + 1 by omega] at this
      exact this
    refine ⟨ρ', ?_, by rw [List.length_cons, show n + (ds.length + 1) = n + 1 + ds.length by omega]; exact h3⟩
    rcases hfl with rfl | rfl <;> simp only [loopM, bnd_ap, goT_ap, e1, e2, e3]
/-- a for that may be left by a return or an exception: told by a function of what holds -/
theorem loopM_cons {G : GT} {B : M Fl} {d : D} {ds ρ ρ1 ρ2 : List D} (e1 : G d ρ = some ρ1) (e2 : B ρ1 = .ok .nx ρ2) : loopM G B (d :: ds) ρ = loopM G B ds ρ2 := by simp only [loopM, bnd_ap, goT_ap, e1, e2]
theorem loopM_ret {G : GT} {B : M Fl} {d v : D} {ds ρ ρ1 ρ2 : List D} (e1 : G d ρ = some ρ1) (e2 : B ρ1 = .ok (.ret v) ρ2) : loopM G B (d :: ds) ρ = .ok (.ret v) ρ2 := by simp only [loopM, bnd_ap, goT_ap, e1, e2]
theorem loopM_err {G : GT} {B : M Fl} {d : D} {c : Str} {ds ρ ρ1 ρ2 : List D} (e1 : G d ρ = some ρ1) (e2 : B ρ1 = .err c ρ2) : loopM G B (d :: ds) ρ = .err c ρ2 := by simp only [loopM, bnd_ap, goT_ap, e1, e2]
/-- a while, by the number of its turns -/
theorem whileM_inv {T : M Bool} {B : M Fl} (I : Nat → List D → Prop) (h0 : ∀ ρ, I 0 ρ → ∃ ρ', T ρ = .ok false ρ' ∧ ρ' = ρ) (hs : ∀ n ρ, I (n + 1) ρ → ∃ ρ1 ρ2, T ρ = .ok true ρ1 ∧ B ρ1 = .ok .nx ρ2 ∧ I n ρ2) :
    ∀ n ρ, I n ρ → ∃ ρ', whileM T B ρ = .ok .nx ρ' ∧ I 0 ρ' := fun n ρ h => by
  have key : ∀ n ρ, I n ρ → ∃ ρ', whileR T B (n + 1) ρ = some (.ok .nx ρ') ∧ I 0 ρ' := by
    intro n
    induction n with
    | zero =>
      intro ρ h
      obtain ⟨ρ', e, rfl⟩ := h0 ρ h
      exact ⟨ρ', by simp only [whileR, e], h⟩
    | succ n ih =>
      intro ρ h
      obtain ⟨ρ1, ρ2, e1, e2, h2⟩ := hs n ρ h
      obtain ⟨ρ', e3, h3⟩ := ih ρ2 h2
      refine ⟨ρ', ?_, h3⟩
      rw [whileR]
      simp only [e1, e2]
      exact e3
  obtain ⟨ρ', e, h'⟩ := key n ρ h
  exact ⟨ρ', whileM_eq e, h'⟩
/-- comprehensions over lists that stand for others -/
theorem set_back {ρ : List D} {j : Nat} (hj : ρ[j]? = some .non) (d : D) : (ρ.set j d).set j .non = ρ := by
  rw [List.set_set]
  apply List.ext_getElem?
  intro i
  by_cases hi : i = j
  · subst hi; rw [List.getElem?_set_self (List.getElem?_eq_some_iff.mp hj).1, hj]
  · rw [List.getElem?_set_ne (Ne.symm hi)]
theorem lcM_filtG {α : Type} {T : M Bool} {B : M D} {j : Nat} {ρ : List D} {g : α → D} (t : α → Bool) (f : α → D) : ∀ (l : List α), ρ[j]? = some .non → (∀ a ∈ l, T (ρ.set j (g a)) = .ok (t a) (ρ.set j (g a))) → (∀ a ∈ l, t a = true → B (ρ.set j (g a)) = .ok (f a) (ρ.set j (g a))) → lcM (gN j) T B [j] (l.map g) ρ = .ok ((l.filter t).map f) ρ
  | [], _, _, _ => rfl
  | a :: l, hj, h1, h2 => by
    have ih := lcM_filtG t f l hj (fun a ha => h1 a (List.mem_cons_of_mem _ ha)) fun a ha => h2 a (List.mem_cons_of_mem _ ha)
    have e1 := h1 a List.mem_cons_self
    cases ht : t a with
    | true =>
      simp only [List.map_cons, lcM, bnd_ap, goT_ap, gN_ap, noE_ap, ret_ap', e1, ht, if_true, h2 a List.mem_cons_self ht, kills_ap, List.foldl_cons, List.foldl_nil, set_back hj, ih, List.filter_cons_of_pos ht]
    | false =>
      have hf : ¬ t a = true := by rw [ht]; decide
      simp only [List.map_cons, lcM, bnd_ap, goT_ap, gN_ap, noE_ap, e1, ht, Bool.false_eq_true, if_false, kills_ap, List.foldl_cons, List.foldl_nil, set_back hj, ih, List.filter_cons_of_neg hf]
theorem lcM_mapG {α : Type} {B : M D} {j : Nat} {ρ : List D} {g : α → D} (f : α → D) (l : List α) (hj : ρ[j]? = some .non) (h : ∀ a ∈ l, B (ρ.set j (g a)) = .ok (f a) (ρ.set j (g a))) : lcM (gN j) (VL.ret true) B [j] (l.map g) ρ = .ok (l.map f) ρ := by
  have := lcM_filtG (T := VL.ret true) (B := B) (ρ := ρ) (g := g) (fun _ => true) f l hj (fun _ _ => rfl) fun a ha _ => h a ha
  rwa [List.filter_eq_self.mpr (fun _ _ => rfl)] at this
/-- .. of pairs, two names -/
theorem lcM_filt2 {α : Type} {T : M Bool} {B : M D} {i j : Nat} {ρ : List D} {ga gb : α → D} (t : α → Bool) (f : α → D) (hij : i ≠ j) : ∀ (l : List α), ρ[i]? = some .non → ρ[j]? = some .non → (∀ a ∈ l, T ((ρ.set i (ga a)).set j (gb a)) = .ok (t a) ((ρ.set i (ga a)).set j (gb a))) → (∀ a ∈ l, t a = true → B ((ρ.set i (ga a)).set j (gb a)) = .ok (f a) ((ρ.set i (ga a)).set j (gb a))) →
    lcM (gT 2 (gsC (gN i) (gsC (gN j) gs0))) T B [i, j] (l.map fun a => .tup [ga a, gb a]) ρ = .ok ((l.filter t).map f) ρ
  | [], _, _, _, _ => rfl
  | a :: l, hi, hj, h1, h2 => by
    have ih := lcM_filt2 t f hij l hi hj (fun a ha => h1 a (List.mem_cons_of_mem _ ha)) fun a ha => h2 a (List.mem_cons_of_mem _ ha)
    have e1 := h1 a List.mem_cons_self
    have eb : (((ρ.set i (ga a)).set j (gb a)).set i .non).set j .non = ρ := by
      have e0 : ρ.set j .non = ρ := by
        have := set_back hj .non
        rwa [List.set_set] at this
      rw [List.set_comm _ _ (Ne.symm hij), List.set_set, set_back hi, e0]
    have eg : gT 2 (gsC (gN i) (gsC (gN j) gs0)) (.tup [ga a, gb a]) ρ = some ((ρ.set i (ga a)).set j (gb a)) := rfl
    cases ht : t a with
    | true =>
      simp only [List.map_cons, lcM, bnd_ap, goT_ap, eg, noE_ap, ret_ap', e1, ht, if_true, h2 a List.mem_cons_self ht, kills_ap, List.foldl_cons, List.foldl_nil, eb, ih, List.filter_cons_of_pos ht]
    | false =>
      have hf : ¬ t a = true := by rw [ht]; decide
      simp only [List.map_cons, lcM, bnd_ap, goT_ap, eg, noE_ap, e1, ht, Bool.false_eq_true, if_false, kills_ap, List.foldl_cons, List.foldl_nil, eb, ih, List.filter_cons_of_neg hf]
@[simp] theorem asStrs_strs {α : Type} (f : α → Str) (l : List α) : asStrs (l.map fun a => D.str (f a)) = some (l.map f) := by
  induction l with
  | nil => rfl
  | cons a l ih => simp only [List.map_cons, asStrs, ih, Option.map_some]
@[simp] theorem asInts_ints {α : Type} (f : α → Int) (l : List α) : asInts (l.map fun a => D.int (f a)) = some (l.map f) := by
  induction l with
  | nil => rfl
  | cons a l ih => simp only [List.map_cons, asInts, ih, Option.map_some]
@[simp] theorem asBls_bls {α : Type} (f : α → Bool) (l : List α) : asBls (l.map fun a => D.bl (f a)) = some (l.map f) := by
  induction l with
  | nil => rfl
  | cons a l ih => simp only [List.map_cons, asBls, ih, Option.map_some]
theorem plains_map {α : Type} (f : α → D) (h : ∀ a, (f a).plain = true) (l : List α) : D.plains (l.map f) = true := by
  induction l with
  | nil => rfl
  | cons a l ih => simp only [List.map_cons, D.plains, h, ih, Bool.and_self]
theorem pys_map {α : Type} (f : α → D) (l : List α) : D.pys (l.map f) = l.map fun a => (f a).py := by
  induction l with
  | nil => rfl
  | cons a l ih => simp only [List.map_cons, D.pys, ih]
theorem lays_map {α : Type} (f : α → PyData) (h : ∀ a, (f a).canLay0 = true) (l : List α) : PyData.canLayAll0 (l.map f) = true := by
  induction l with
  | nil => rfl
  | cons a l ih => simp only [List.map_cons, PyData.canLayAll0, h, ih, Bool.and_self]
/-- a for whose turns lead from one told state to the next -/
theorem loopM_steps' {α β : Type} {G : GT} {B : M Fl} (g : α → D) (enc : β → List D) (st : β → α → β) (P : Nat → β → Prop) : ∀ (l : List α) (n : Nat) (s : β), P n s → (∀ i s a, l[i]? = some a → P (n + i) s → P (n + i + 1) (st s a) ∧ ∃ ρ1, G (g a) (enc s) = some ρ1 ∧ B ρ1 = .ok .nx (enc (st s a))) → loopM G B (l.map g) (enc s) = .ok .nx (enc (l.foldl st s)) ∧ P (n + l.length) (l.foldl st s)
  | [], n, s, hp, _ => ⟨rfl, hp⟩
  | a :: l, n, s, hp, h => by
    obtain ⟨hp2, ρ1, e1, e2⟩ := h 0 s a rfl hp
    obtain ⟨e3, hp3⟩ := loopM_steps' g enc st P l (n + 1) (st s a) hp2 fun i s b hb hi => by
      have := h (i + 1) s b (by simpa using hb) (by rw [show n + (i + 1) = n + 1 + i by omega]; exact hi)
      rw [show n + (i + 1) + 1 = n + 1 + i + 1 by omega] at this
      exact this
    exact ⟨by rw [List.map_cons, loopM_cons e1 e2, e3]; rfl, by rw [List.length_cons, show n + (l.length + 1) = n + 1 + l.length by omega]; exact hp3⟩
theorem loopM_steps {α β : Type} {G : GT} {B : M Fl} (g : α → D) (enc : β → List D) (st : β → α → β) (P : Nat → β → Prop) (l : List α) (s : β) (h0 : P 0 s) (h : ∀ i s a, l[i]? = some a → P i s → P (i + 1) (st s a) ∧ ∃ ρ1, G (g a) (enc s) = some ρ1 ∧ B ρ1 = .ok .nx (enc (st s a))) : loopM G B (l.map g) (enc s) = .ok .nx (enc (l.foldl st s)) ∧ P l.length (l.foldl st s) := by
  have := loopM_steps' g enc st P l 0 s h0 fun i s a e p => by
    rw [Nat.zero_add] at p ⊢
    exact h i s a e p
  rwa [Nat.zero_add] at this
theorem foldl_snoc {α : Type} : ∀ (l s : List α), l.foldl (fun s m => s ++ [m]) s = s ++ l
  | [], s => by simp
  | a :: l, s => by simp [foldl_snoc l]
theorem zipIdx_eq {α : Type} (W : List α) (d : α) : W.zipIdx = (List.range W.length).map fun i => ((W[i]?.getD d), i) := by
  apply List.ext_getElem?
  intro i
  rw [List.getElem?_zipIdx, List.getElem?_map]
  by_cases hi : i < W.length
  · rw [List.getElem?_eq_getElem hi, List.getElem?_range hi]
    simp [List.getElem?_eq_getElem hi]
  · rw [List.getElem?_eq_none (by omega), List.getElem?_eq_none (by simp; omega)]; rfl
theorem enumI_map {α : Type} (W : List α) (f : α → D) (d : α) : enumI [.lst (W.map f)] = some ((List.range W.length).map fun i => .tup [.int ((i : Nat) : Int), f (W[i]?.getD d)]) := by
  show some (enumL (W.map f)) = _
  unfold enumL
  rw [zipIdx_eq (W.map f) (f d), List.map_map, List.length_map]
  congr 1
  apply List.map_congr_left
  intro i hi
  simp
end VL

namespace K84
open PySem L2 VL

/-- the bag of draws -/
def BagD (a s p : Int) (cs : List Int) : D := .lst [.int a, .int s, .int p, .lst (cs.map D.int)]
def BagOk (d : D) : Prop := ∃ a s p cs, d = BagD a s p cs ∧ 0 ≤ a ∧ 0 ≤ p ∧ ∀ c ∈ cs, 0 ≤ c
theorem in_two (cs : List Int) : inB false (.lst (cs.map D.int)) (.tup [.lst [], .lst [.int 1]]) = some (.bl (decide (cs = [] ∨ cs = [1]))) := by
  have h1 : okEq (.tup [.lst [], .lst [.int 1]]) = true := by decide
  have e0 := eqv_ints [] cs
  have e1 := eqv_ints [1] cs
  simp only [List.map_nil, List.map_cons] at e0 e1
  simp only [inB, itemsD, okEq_ints, h1, Bool.and_self, if_true, D.pys, D.py, pys_ints, List.any_cons, List.any_nil, PyData.eqv, e0, e1]
  congr 2
  by_cases h : cs = []
  · simp [h]
  · by_cases h2 : cs = [1]
    · simp [h2]
    · have : ¬ ([] : List Int) = cs := fun e => h e.symm
      have : ¬ ([1] : List Int) = cs := fun e => h2 e.symm
      simp [*]
theorem z0 : (0 : Nat) ≤ sizeLine := Nat.zero_le _
theorem z1 : (1 : Nat) ≤ sizeLine := by decide
theorem z2 : (2 : Nat) ≤ sizeLine := by decide
theorem in_two' (cs : List Int) : inB false (.lst (cs.map D.int)) (.tup [.lst [], .lst [.int 1]]) = some (.bl (decide (cs = [] ∨ cs = [1]))) := in_two cs
theorem in_two0 : inB false (.lst []) (.tup [.lst [], .lst [.int 1]]) = some (.bl true) := in_two []
theorem in_two1 : inB false (.lst [.int 1]) (.tup [.lst [], .lst [.int 1]]) = some (.bl true) := in_two [1]
theorem take_a (a s p n : Int) : F__law_take [BagD a s p [], .int n] = .ok (.int 0) [BagD a s p [], .int n] := by
  have h : CMul (n - 1) 0 := .inr (by decide)
  unfold F__law_take G__law_take BagD
  simp [in_two0, z0, z1, z2, mul_i h]
theorem take_b (a s p n : Int) : F__law_take [BagD a s p [1], .int n] = .ok (.int (n - 1)) [BagD a s p [1], .int n] := by
  have h : CMul (n - 1) 1 := .inr (by decide)
  unfold F__law_take G__law_take BagD
  simp [in_two1, z0, z1, z2, mul_i h]
/-- the draw when the great number is not spent -/
theorem take_c (a s p n : Int) (cs : List Int) (h : ¬ (cs = [] ∨ cs = [1])) (ha : 0 < a) (h1 : 1 ≤ n) (h2 : n < 1073741824) :
    F__law_take [BagD a s p cs, .int n] = .ok (.int (a % n)) [BagD (a / n) s p cs, .int n] := by
  have e1 : ¬ a = 0 := by omega
  have m : modD (.int a) (.int n) = some (.int (a % n)) := mod_i (by omega)
  have m2 : fdivD (.int a) (.int n) = some (.int (a / n)) := fdiv_i (by omega) h2
  unfold F__law_take G__law_take BagD
  simp [in_two', z0, z1, z2, h, e1, ha, m, m2, ixN]
def nxt (s p c : Int) : Int := (s * 48271 + c % 2147483647 + 7919 * (p + 1)) % 2147483647
def early (s : Int) : Int := (s + 1) * 39373 % 1000000007
def drawn (s n : Int) : Int := early s * early s % 998244353 * 30011 % 998244353 / 7 % n
theorem cm_r {i j : Int} (h : -(2 ^ 64) < j ∧ j < 2 ^ 64) : mulD (.int i) (.int j) = some (.int (i * j)) := mul_i (.inr h)
theorem cm_l {i j : Int} (h : -(2 ^ 64) < i ∧ i < 2 ^ 64) : mulD (.int i) (.int j) = some (.int (i * j)) := mul_i (.inl h)
theorem early_b (s : Int) : -(2 ^ 64) < early s ∧ early s < 2 ^ 64 := by unfold early; omega
section
variable (s p n : Int) (cs : List Int)
theorem mA : mulD (.int s) (.int 48271) = some (.int (s * 48271)) := cm_r (by decide)
theorem mB : mulD (.int 7919) (.int s) = some (.int (7919 * s)) := cm_l (by decide)
theorem mC : mulD (.int s) (.int 39373) = some (.int (s * 39373)) := cm_r (by decide)
theorem mD : mulD (.int (early s)) (.int (early s)) = some (.int (early s * early s)) := cm_r (early_b s)
theorem mE : mulD (.int s) (.int 30011) = some (.int (s * 30011)) := cm_r (by decide)
theorem oA : modD (.int s) (.int 2147483647) = some (.int (s % 2147483647)) := mod_i (by decide)
theorem oB' : modD (.int s) (.int 1000000007) = some (.int (s % 1000000007)) := mod_i (by decide)
theorem oC : modD (.int s) (.int 998244353) = some (.int (s % 998244353)) := mod_i (by decide)
theorem dA : fdivD (.int s) (.int 7) = some (.int (s / 7)) := fdiv_i (by decide) (by decide)
end
theorem at_ints {cs : List Int} {p : Int} (hp : 0 ≤ p) {c : Int} (h : cs[p.toNat]? = some c) : atI (cs.map D.int) p = some (.int c) := by
  rw [atI_nn hp, List.getElem?_map, h]; rfl
theorem take_d (s p n c : Int) (cs : List Int) (h : ¬ (cs = [] ∨ cs = [1])) (hp : 0 ≤ p) (hc : cs[p.toNat]? = some c) (hb : 1000000000000000000 ≤ c) (h1 : 1 ≤ n) (h2 : n < 1073741824) :
    F__law_take [BagD 0 s p cs, .int n] = .ok (.int (c % n)) [BagD (c / n) (nxt s p c) (p + 1) cs, .int n] := by
  have hl : p < cs.length := by have := (List.getElem?_eq_some_iff.mp hc).1; omega
  have m : modD (.int c) (.int n) = some (.int (c % n)) := mod_i (by omega)
  have m2 : fdivD (.int c) (.int n) = some (.int (c / n)) := fdiv_i (by omega) h2
  have h0 : 0 < c := by omega
  unfold F__law_take G__law_take BagD nxt
  simp [in_two', z0, z1, z2, h, hl, hb, h0, m, m2, ixN, at_ints hp hc, mA, mB, oA]
theorem early_e (s : Int) : (s + 1) * 39373 % 1000000007 = early s := rfl
theorem take_e (s p n c : Int) (cs : List Int) (h : ¬ (cs = [] ∨ cs = [1])) (hp : 0 ≤ p) (hc : cs[p.toNat]? = some c) (hb : c < 1000000000000000000) (h1 : 1 ≤ n) :
    F__law_take [BagD 0 s p cs, .int n] = .ok (.int (drawn (nxt s p c) n)) [BagD 0 (nxt s p c) (p + 1) cs, .int n] := by
  have hl : p < cs.length := by have := (List.getElem?_eq_some_iff.mp hc).1; omega
  have m : ∀ x, modD (.int x) (.int n) = some (.int (x % n)) := fun x => mod_i (by omega)
  have hb : ¬ 1000000000000000000 ≤ c := by omega
  unfold F__law_take G__law_take BagD nxt drawn
  simp [in_two', z0, z1, z2, h, hl, hb, m, ixN, at_ints hp hc, mA, mB, mC, mD, mE, oA, oB', oC, dA, early_e]
theorem take_f (s p n : Int) (cs : List Int) (h : ¬ (cs = [] ∨ cs = [1])) (hp : (cs.length : Int) ≤ p) (h1 : 1 ≤ n) :
    F__law_take [BagD 0 s p cs, .int n] = .ok (.int (drawn (nxt s p 0) n)) [BagD 0 (nxt s p 0) (p + 1) cs, .int n] := by
  have hl : ¬ p < cs.length := by omega
  have m : ∀ x, modD (.int x) (.int n) = some (.int (x % n)) := fun x => mod_i (by omega)
  unfold F__law_take G__law_take BagD nxt drawn
  simp [in_two', z0, z1, z2, h, hl, m, ixN, mA, mB, mC, mD, mE, oA, oB', oC, dA, early_e]
theorem take_ok {b : D} {n : Int} (h : BagOk b) (h1 : 1 ≤ n) (h2 : n < 1073741824) : ∃ r b', F__law_take [b, .int n] = .ok (.int r) [b', .int n] ∧ BagOk b' ∧ 0 ≤ r ∧ r < n := by
  obtain ⟨a, s, p, cs, rfl, ha, hp, hc⟩ := h
  have mn : ∀ x : Int, 0 ≤ x % n ∧ x % n < n := fun x => ⟨Int.emod_nonneg _ (by omega), Int.emod_lt_of_pos _ (by omega)⟩
  by_cases e0 : cs = []
  · subst e0; exact ⟨_, _, take_a a s p n, ⟨_, _, _, _, rfl, ha, hp, hc⟩, by omega, by omega⟩
  by_cases e1 : cs = [1]
  · subst e1; exact ⟨_, _, take_b a s p n, ⟨_, _, _, _, rfl, ha, hp, hc⟩, by omega, by omega⟩
  have e : ¬ (cs = [] ∨ cs = [1]) := by simp [e0, e1]
  by_cases ha0 : 0 < a
  · exact ⟨_, _, take_c a s p n cs e ha0 h1 h2, ⟨_, _, _, _, rfl, Int.ediv_nonneg ha (by omega), hp, hc⟩, mn a⟩
  have : a = 0 := by omega
  subst this
  by_cases hl : p < cs.length
  · have hc2 : cs[p.toNat]? = some (cs[p.toNat]'(by omega)) := List.getElem?_eq_getElem _
    have hn : 0 ≤ cs[p.toNat]'(by omega) := hc _ (List.getElem_mem _)
    by_cases hb : 1000000000000000000 ≤ cs[p.toNat]'(by omega)
    · exact ⟨_, _, take_d s p n _ cs e hp hc2 hb h1 h2, ⟨_, _, _, _, rfl, Int.ediv_nonneg hn (by omega), by omega, hc⟩, mn _⟩
    · exact ⟨_, _, take_e s p n _ cs e hp hc2 (by omega) h1, ⟨_, _, _, _, rfl, by omega, by omega, hc⟩, mn _⟩
  · exact ⟨_, _, take_f s p n cs e (by omega) h1, ⟨_, _, _, _, rfl, by omega, by omega, hc⟩, mn _⟩
end K84

namespace K84
open PySem L2 VL

/-! ### hands of a mask -/
def bits (m h : Nat) : List Nat := (List.range h).filter fun i => m.testBit i
def nats (l : List Nat) : List D := l.map fun i => D.int ((i : Nat) : Int)
theorem bits_succ (m k : Nat) : bits m (k + 1) = bits m k ++ (if m.testBit k then [k] else []) := by
  unfold bits
  rw [List.range_succ, List.filter_append]
  congr 1
  by_cases h : m.testBit k <;> simp [h]
theorem bits_more {m L : Nat} (h : m < 2 ^ L) : ∀ {k : Nat}, L ≤ k → bits m k = bits m L := fun {k} hk => by
  induction k with
  | zero => rw [show L = 0 by omega]
  | succ k ih =>
    by_cases e : L = k + 1
    · rw [e]
    · have hk' : L ≤ k := by omega
      rw [bits_succ, ih hk', if_neg, List.append_nil]
      rw [Nat.testBit_lt_two_pow (Nat.lt_of_lt_of_le h (Nat.pow_le_pow_right (by decide) hk'))]
      decide
/-- the size of a mask -/
theorem size_ex (m : Nat) : ∃ L, m < 2 ^ L ∧ ∀ k, k < L → 0 < m / 2 ^ k := by
  by_cases h : m = 0
  · subst h; exact ⟨0, by decide, fun k hk => absurd hk (Nat.not_lt_zero _)⟩
  · refine ⟨m.log2 + 1, Nat.lt_log2_self, fun k hk => Nat.div_pos ?_ (Nat.two_pow_pos k)⟩
    exact Nat.le_trans (Nat.pow_le_pow_right (by decide) (by omega)) (Nat.log2_self_le h)
theorem and1 (a : Nat) : Builtin.bitAnd (a : Int) 1 = ((a % 2 : Nat) : Int) := by rw [PyProof.Rows.bitAnd_m1]; omega
theorem members_ok (m : Nat) {h : Nat} (hm : m < 2 ^ h) (hh : h ≤ sizeLine) : F_members [.int (m : Int)] = .ok (.lst (nats (bits m h))) [.int 0] := by
  obtain ⟨L, hL, hpos⟩ := size_ex m
  have hLh : L ≤ h := by
    by_cases e : L ≤ h
    · exact e
    · have := hpos h (by omega)
      rw [Nat.div_eq_of_lt hm] at this
      omega
  rw [bits_more hL hLh]
  have key := whileM_inv (T := T1_members) (B := L1_members)
    (fun n ρ => ∃ k, k + n = L ∧ ρ = [.int ((m / 2 ^ k : Nat) : Int), .lst (nats (bits m k)), .int (k : Int)]) (fun ρ hρ => ?_) (fun n ρ hρ => ?_) L [.int (m : Int), .lst [], .int 0] ⟨0, by omega, by simp [bits, nats]⟩
  · obtain ⟨ρ', e, k, hk, rfl⟩ := key
    have : k = L := by omega
    subst this
    rw [Nat.div_eq_of_lt hL] at e
    unfold F_members G_members
    simp [e, z0]
  · obtain ⟨k, hk, rfl⟩ := hρ
    have : k = L := by omega
    subst this
    refine ⟨_, ?_, rfl⟩
    rw [Nat.div_eq_of_lt hL]
    unfold T1_members
    simp
  · obtain ⟨k, hk, rfl⟩ := hρ
    have hp := hpos k (by omega)
    have h1 : (0 : Int) < ((m / 2 ^ k : Nat) : Int) := by omega
    have e2 : m / 2 ^ k / 2 = m / 2 ^ (k + 1) := by rw [Nat.div_div_eq_div_mul, Nat.pow_succ]
    have e3 : m.testBit k = decide (m / 2 ^ k % 2 = 1) := by rw [Nat.testBit_eq_decide_div_mod_eq]
    have sh : shrD (.int ((m / 2 ^ k : Nat) : Int)) (.int 1) = some (.int ((m / 2 ^ (k + 1) : Nat) : Int)) := by
      rw [shr_i (by decide), ← e2]; congr 2
    have hlen : (nats (bits m k)).length < sizeLine := by
      have : (bits m k).length ≤ k := by unfold bits; exact Nat.le_trans (List.length_filter_le _ _) (by simp)
      simp [nats]; omega
    refine ⟨[.int ((m / 2 ^ k : Nat) : Int), .lst (nats (bits m k)), .int (k : Int)], [.int ((m / 2 ^ (k + 1) : Nat) : Int), .lst (nats (bits m (k + 1))), .int ((k + 1 : Nat) : Int)], ?_, ?_, k + 1, by omega, rfl⟩
    · simp only [T1_members, bnd_ap, eVar_ap', List.getElem?_cons_zero, ret_ap', gt_i, oB_bl, opt_some', decide_eq_true h1]
    · unfold L1_members
      generalize m / 2 ^ k = q at *
      generalize m / 2 ^ (k + 1) = q' at *
      by_cases hb : q % 2 = 1
      · have hb2 : m.testBit k = true := by rw [e3]; exact decide_eq_true hb
        have hb3 : ((q % 2 : Nat) : Int) = 1 := by omega
        rw [← and1] at hb3
        unfold nats at hlen ⊢
        simp [hb3, sh, appL, bits_succ, hb2]
        simp at hlen
        simp [hlen, sh]
      · have hb2 : m.testBit k = false := by rw [e3]; exact decide_eq_false hb
        have hb3 : ¬ ((q % 2 : Nat) : Int) = 1 := by omega
        rw [← and1] at hb3
        simp [hb3, sh, bits_succ, hb2, nats]
end K84

namespace K84
open PySem L2 VL

/-! ### the texts of slips and lines -/
abbrev Wd' : Type := List (List Nat)
def wordsD (W : Wd') : D := .lst (W.map fun w => .str (SX.S w))
def slipD (sl : List Nat) : D := .tup (nats sl)
def tierW (W : Wd') (m : Nat) : Wd' := (bits m W.length).map fun i => W[i]?.getD []
def tierT (W : Wd') (m : Nat) : List Nat := TL.joinL [61] (tierW W m)
def slipT (W : Wd') (sl : List Nat) : List Nat := if sl = [] then [45] else TL.joinL [62] (sl.map (tierT W))
def lineT (W : Wd') (sl : List Nat) (n : Nat) : List Nat := TL.numL n ++ 58 :: slipT W sl
structure WOk (W : Wd') : Prop where
  len : W.length ≤ 12
  short : ∀ w ∈ W, w.length ≤ 8
structure SlOk (h : Nat) (sl : List Nat) : Prop where
  lt : ∀ m ∈ sl, m < 2 ^ h
  few : sl.length ≤ 12
theorem joinL_len {sep : List Nat} {B : Nat} : ∀ {ps : Wd'}, (∀ p ∈ ps, p.length ≤ B) → (TL.joinL sep ps).length ≤ ps.length * (B + sep.length)
  | [], _ => by simp [TL.joinL]
  | [p], h => by
    have := h p (by simp)
    simp only [TL.joinL, List.length_cons, List.length_nil]
    omega
  | p :: q :: r, h => by
    have h1 := h p (by simp)
    have ih := joinL_len (sep := sep) (B := B) (ps := q :: r) fun x hx => h x (List.mem_cons_of_mem _ hx)
    simp only [TL.joinL, List.length_append, List.length_cons, Nat.add_mul, Nat.one_mul] at ih ⊢
    omega
theorem bits_len (m h : Nat) : (bits m h).length ≤ h := by unfold bits; exact Nat.le_trans (List.length_filter_le _ _) (by simp)
theorem getD_len {W : Wd'} {B : Nat} (h : ∀ w ∈ W, w.length ≤ B) (i : Nat) : (W[i]?.getD []).length ≤ B := by
  by_cases hi : i < W.length
  · rw [List.getElem?_eq_getElem hi]; exact h _ (List.getElem_mem _)
  · rw [List.getElem?_eq_none (by omega)]; simp
theorem tierT_len {W : Wd'} (h : WOk W) (m : Nat) : (tierT W m).length ≤ 108 := by
  have h1 : (tierT W m).length ≤ (tierW W m).length * (8 + 1) := joinL_len fun p hp => by
    obtain ⟨i, _, rfl⟩ := List.mem_map.mp hp
    exact getD_len h.short i
  have h2 : (tierW W m).length ≤ 12 := by
    unfold tierW; rw [List.length_map]; exact Nat.le_trans (bits_len m _) h.len
  have h3 := Nat.mul_le_mul_right 9 h2
  omega
theorem slipT_len {W : Wd'} (h : WOk W) {sl : List Nat} (hs : sl.length ≤ 12) : (slipT W sl).length ≤ 1308 := by
  unfold slipT
  split
  · decide
  · have h1 : (TL.joinL [62] (sl.map (tierT W))).length ≤ (sl.map (tierT W)).length * (108 + 1) := joinL_len fun p hp => by
      obtain ⟨m, _, rfl⟩ := List.mem_map.mp hp
      exact tierT_len h m
    rw [List.length_map] at h1
    have h3 := Nat.mul_le_mul_right 109 hs
    omega
theorem eqS : Str.ofString "=" = SX.S [61] := rfl
theorem gtS : Str.ofString ">" = SX.S [62] := rfl
theorem coS : Str.ofString ":" = SX.S [58] := rfl
theorem miS : Str.ofString "-" = SX.S [45] := rfl
/-- a join whose parts are short -/
theorem join_ok {α : Type} (sep : List Nat) (f : α → List Nat) (l : List α) {B n : Nat} (h : ∀ a ∈ l, (f a).length ≤ B) (hl : l.length ≤ n) (hz : n * (B + sep.length) ≤ 16777216) :
    joinD (.str (SX.S sep)) [.lst (l.map fun a => .str (SX.S (f a)))] = some (.str (SX.S (TL.joinL sep (l.map f)))) := by
  have hs : ((l.map fun a => SX.S (f a)).map (·.length)).sum ≤ l.length * B := by
    induction l with
    | nil => simp
    | cons a l ih =>
      have h1 := h a List.mem_cons_self
      have h2 := ih (fun a ha => h a (List.mem_cons_of_mem _ ha)) (by simp at hl; omega)
      simp only [List.map_cons, List.sum_cons, List.length_cons, Nat.add_mul, Nat.one_mul, SX.S_len] at h2 ⊢
      omega
  have hz2 : ((l.map fun a => SX.S (f a)).map (·.length)).sum + (l.map fun a => SX.S (f a)).length * (SX.S sep).length ≤ 16777216 := by
    rw [List.length_map, SX.S_len]
    have h3 := Nat.mul_le_mul_right (B + sep.length) hl
    rw [Nat.mul_add] at h3
    rw [Nat.mul_add] at hz
    rw [Nat.mul_add] at h3
    omega
  show ((asStrs (l.map fun a => D.str (SX.S (f a)))).bind fun ys => if (ys.map (·.length)).sum + ys.length * (SX.S sep).length ≤ 16777216 then some (D.str (Txt.join (SX.S sep) ys)) else none) = _
  rw [asStrs_strs]
  simp only [Option.bind, if_pos hz2]
  have : (l.map fun a => SX.S (f a)) = (l.map f).map SX.S := by rw [List.map_map]; rfl
  rw [this, SX.join_S]
theorem okEq_nats (l : List Nat) : okEq (.tup (nats l)) = true := by
  unfold okEq SeqAt.shaped nats
  have h1 : D.plains (l.map fun i => D.int ((i : Nat) : Int)) = true := plains_map _ (fun _ => by simp only [D.plain]) l
  have h2 : PyData.canLayAll0 (l.map fun i => PyData.int ((i : Nat) : Int)) = true := lays_map _ (fun _ => by simp only [PyData.canLay0]) l
  have h3 : PyData.depthAll (l.map fun a => PyData.int ((a : Nat) : Int)) = 0 := by
    clear h1 h2
    induction l with
    | nil => rfl
    | cons a l ih => simp only [List.map_cons, PyData.depthAll, PyData.depth, ih]; rfl
  simp only [D.plain, h1, D.py, pys_map, PyData.canLay0, h2, PyData.depth, h3]
  rfl
theorem eq_unit (l : List Nat) : eqD (.tup (nats l)) (.tup []) = some (.bl (decide (l = []))) := by
  have h1 : okEq (.tup []) = true := by decide
  show (if (okEq (.tup (nats l)) && okEq (.tup [])) = true then some (D.bl (PyData.eqv (D.tup (nats l)).py (D.tup []).py)) else none) = _
  rw [okEq_nats, h1]
  cases l with
  | nil => rfl
  | cons a l => simp [nats, D.py, D.pys, PyData.eqv, PyData.eqvAll]
theorem at_words {W : Wd'} {i : Nat} (h : i < W.length) : atI (W.map fun w => D.str (SX.S w)) (i : Int) = some (.str (SX.S (W[i]?.getD []))) := by
  rw [atI_nn (by omega)]
  simp [List.getElem?_eq_getElem h]
theorem bits_lt {m h i : Nat} (hi : i ∈ bits m h) : i < h := by
  unfold bits at hi
  have := (List.mem_filter.mp hi).1
  simpa using this
theorem slots4 {a b : D} : ([a, b, .non, .non] : List D)[2]? = some .non := rfl
theorem show_slip_ok {W : Wd'} (hW : WOk W) {sl : List Nat} (hs : SlOk W.length sl) : F_show_slip [slipD sl, wordsD W] = .ok (.str (SX.S (slipT W sl))) [slipD sl, wordsD W] := by
  have hl : W.length ≤ sizeLine := Nat.le_trans hW.len (by decide)
  have hl2 : sl.length ≤ sizeLine := Nat.le_trans hs.few (by decide)
  unfold F_show_slip G_show_slip slipT slipD wordsD
  by_cases h : sl = []
  · subst h
    simp [eq_unit, z0]
    rfl
  · have hn : (nats sl).length ≤ sizeLine := by simp [nats]; exact hl2
    simp [eq_unit, h, z0, hn]
    rw [show nats sl = sl.map (fun i => D.int ((i : Nat) : Int)) from rfl, lcM_mapG (fun m => D.str (SX.S (tierT W m))) sl rfl (fun m hm => ?_)]
    · have j := join_ok [62] (tierT W) sl (B := 108) (n := 12) (fun m _ => tierT_len hW m) hs.few (by decide)
      rw [← gtS] at j
      simp [j]
    · have e1 := members_ok m (hs.lt m hm) hl
      unfold C2_show_slip
      have hb : (nats (bits m W.length)).length ≤ sizeLine := by simp [nats]; exact Nat.le_trans (bits_len m _) hl
      simp [e1, hb]
      rw [show nats (bits m W.length) = (bits m W.length).map (fun i => D.int ((i : Nat) : Int)) from rfl, lcM_mapG (fun i => D.str (SX.S (W[i]?.getD []))) (bits m W.length) rfl (fun i hi => ?_)]
      · have j := join_ok [61] (fun i => W[i]?.getD []) (bits m W.length) (B := 8) (n := 12) (fun i _ => getD_len hW.short i) (Nat.le_trans (bits_len m _) hW.len) (by decide)
        rw [← eqS] at j
        simp [j, tierT, tierW]
      · simp [C1_show_slip, at_words (bits_lt hi)]
theorem log_small {n : Nat} (hn : n < 10 ^ 20) : ((n : Nat) : Int).natAbs.log2 < 1920 := by
  rw [Int.natAbs_natCast]
  by_cases h : n = 0
  · subst h; decide
  · have := (Nat.log2_lt (k := 67) h).mpr (Nat.lt_of_lt_of_le hn (by decide))
    omega
theorem line_parts {W : Wd'} (hW : WOk W) {sl : List Nat} (hs : SlOk W.length sl) {n : Nat} (hn : n < 10 ^ 20) : strD (.int (n : Int)) = some (.str (SX.S (TL.numL n))) ∧ addD (.str (SX.S (TL.numL n))) (.str (Str.ofString ":")) = some (.str (SX.S (TL.numL n ++ [58]))) ∧
    addD (.str (SX.S (TL.numL n ++ [58]))) (.str (SX.S (slipT W sl))) = some (.str (SX.S (lineT W sl n))) := by
  have hl := TL.numL_len (k := 20) (by decide) hn
  have hl2 := slipT_len hW hs.few
  refine ⟨?_, ?_, ?_⟩
  · show (if ((n : Nat) : Int).natAbs.log2 < 1920 then some (D.str (toString ((n : Nat) : Int) : Str)) else none) = _
    rw [if_pos (log_small hn), show (Str.ofString (toString ((n : Nat) : Int))) = SX.S (TL.numL n) from SX.num_S n]
  · show (if (SX.S (TL.numL n)).length + (Str.ofString ":").length ≤ sizeLine then some (D.str (SX.S (TL.numL n) ++ Str.ofString ":")) else none) = _
    rw [if_pos (by rw [SX.S_len, coS, SX.S_len]; exact Nat.le_trans (Nat.add_le_add_right hl _) (by decide)), coS, SX.S_cat]
  · show (if (SX.S (TL.numL n ++ [58])).length + (SX.S (slipT W sl)).length ≤ sizeLine then some (D.str (SX.S (TL.numL n ++ [58]) ++ SX.S (slipT W sl))) else none) = _
    rw [if_pos (by rw [SX.S_len, SX.S_len, List.length_append]; exact Nat.le_trans (Nat.add_le_add (Nat.add_le_add_right hl _) hl2) (by decide)), SX.S_cat, List.append_assoc]
    rfl
theorem show_line_ok {W : Wd'} (hW : WOk W) {sl : List Nat} (hs : SlOk W.length sl) {n : Nat} (hn : n < 10 ^ 20) : F_show_line [.tup [slipD sl, .int (n : Int)], wordsD W] = .ok (.str (SX.S (lineT W sl n))) [.tup [slipD sl, .int (n : Int)], wordsD W] := by
  have e := show_slip_ok hW hs
  obtain ⟨e1, e2, e3⟩ := line_parts hW hs hn
  unfold F_show_line G_show_line
  simp [e1, e, e2, e3]
end K84

namespace K84
open PySem L2 VL

theorem shl1 (i : Nat) (h : i ≤ 1000) : shlD (.int 1) (.int ((i : Nat) : Int)) = some (.int ((2 ^ i : Nat) : Int)) := by
  rw [shl_i (by refine ⟨by omega, by omega, by decide⟩)]
  congr 2
  rw [Int.toNat_natCast, Int.one_mul]
  push_cast
  rfl
theorem quot (m i : Nat) (h : i ≤ 20) : fdivD (.int ((m : Nat) : Int)) (.int ((2 ^ i : Nat) : Int)) = some (.int ((m / 2 ^ i : Nat) : Int)) := by
  have h1 : 2 ^ i ≤ 2 ^ 20 := Nat.pow_le_pow_right (by decide) h
  have h2 : 0 < 2 ^ i := Nat.two_pow_pos i
  rw [fdiv_i (by omega) (by omega)]
  rfl
theorem mod2 (q : Nat) : modD (.int ((q : Nat) : Int)) (.int 2) = some (.int ((q % 2 : Nat) : Int)) := by rw [mod_i (by decide)]; rfl
theorem odd (m i : Nat) : decide (((m / 2 ^ i % 2 : Nat) : Int) = 1) = m.testBit i := by
  rw [Nat.testBit_eq_decide_div_mod_eq]
  by_cases h : m / 2 ^ i % 2 = 1
  · simp only [h]; rfl
  · have : ¬ ((m / 2 ^ i % 2 : Nat) : Int) = 1 := by omega
    rw [decide_eq_false this, decide_eq_false h]
theorem filt_bits (m h : Nat) : (List.range h).filter (fun i => m.testBit i) = bits m h := rfl
theorem enum_words (W : Wd') : enumI [.lst (W.map fun w => D.str (SX.S w))] = some ((List.range W.length).map fun i => .tup [.int ((i : Nat) : Int), .str (SX.S (W[i]?.getD []))]) := enumI_map W (fun w => D.str (SX.S w)) []
theorem law_text_turn {W : Wd'} (hW : WOk W) (a : D) (s : List D) (hl : s.length < sizeLine) (m : Nat) :
    L1__law_slip_text [a, wordsD W, .lst s, .int ((m : Nat) : Int), .non, .non, .non] = .ok .nx [a, wordsD W, .lst (s ++ [.str (SX.S (tierT W m))]), .non, .non, .non, .non] := by
  have h1 : W.length ≤ sizeLine := Nat.le_trans hW.len (by decide)
  have j := join_ok [61] (fun i => W[i]?.getD []) (bits m W.length) (B := 8) (n := 12) (fun i _ => getD_len hW.short i) (Nat.le_trans (bits_len m _) hW.len) (by decide)
  rw [← eqS] at j
  unfold L1__law_slip_text wordsD
  simp [enum_words, h1]
  rw [lcM_filt2 (fun i : Nat => m.testBit i) (fun i => D.str (SX.S (W[i]?.getD []))) (by decide) (List.range W.length) rfl rfl (fun i hi => ?_) (fun i hi _ => ?_)]
  · rw [filt_bits]
    simp [j, appL, hl, tierT, tierW]
  · have hi' : i < W.length := by simpa using hi
    have h12 := hW.len
    unfold T1__law_slip_text
    have e1 := shl1 i (by omega)
    have e2 := quot m i (by omega)
    have e3 := mod2 (m / 2 ^ i)
    have e4 := odd m i
    generalize m / 2 ^ i = q at *
    generalize 2 ^ i = z at *
    simp only [bnd_ap, eVar_ap', List.set, List.getElem?_cons_zero, List.getElem?_cons_succ, ret_ap', opt_some', one_ap, int_i, eq_i, oB_bl, e1, e2, e3, e4]
  · simp [C1__law_slip_text]
theorem law_slip_text_ok {W : Wd'} (hW : WOk W) {sl : List Nat} (hs : SlOk W.length sl) : F__law_slip_text [slipD sl, wordsD W] = .ok (.str (SX.S (slipT W sl))) [slipD sl, wordsD W] := by
  unfold slipT
  by_cases h : sl = []
  · subst h
    unfold F__law_slip_text G__law_slip_text slipD
    simp [eq_unit, z0]
    rfl
  · rw [if_neg h]
    have key := loopM_steps (G := gN 3) (B := L1__law_slip_text) (fun m : Nat => D.int ((m : Nat) : Int)) (fun s : List Nat => [slipD sl, wordsD W, .lst (s.map fun m => .str (SX.S (tierT W m))), .non, .non, .non, .non]) (fun s m => s ++ [m]) (fun i s => s.length = i) sl [] rfl (fun i s m hm hp => ⟨by simp [hp], _, rfl, ?_⟩)
    · have j := join_ok [62] (tierT W) sl (B := 108) (n := 12) (fun m _ => tierT_len hW m) hs.few (by decide)
      rw [← gtS] at j
      have k1 := key.1
      rw [foldl_snoc, List.nil_append] at k1
      have eu := eq_unit sl
      unfold F__law_slip_text G__law_slip_text
      unfold slipD nats at *
      simp at k1
      simp [eu, h, z0, k1, j]
    · have hi := (List.getElem?_eq_some_iff.mp hm).1
      have := law_text_turn hW (slipD sl) (s.map fun m => .str (SX.S (tierT W m))) (by rw [List.length_map, hp]; exact Nat.lt_of_lt_of_le hi (Nat.le_trans hs.few (by decide))) m
      rw [List.map_append]
      exact this
theorem law_line_text_ok {W : Wd'} (hW : WOk W) {sl : List Nat} (hs : SlOk W.length sl) {n : Nat} (hn : n < 10 ^ 20) : F__law_line_text [.tup [slipD sl, .int (n : Int)], wordsD W] = .ok (.str (SX.S (lineT W sl n))) [.tup [slipD sl, .int (n : Int)], wordsD W] := by
  have e := law_slip_text_ok hW hs
  obtain ⟨e1, e2, e3⟩ := line_parts hW hs hn
  unfold F__law_line_text G__law_line_text
  simp [e1, e, e2, e3]
end K84

namespace K84
open PySem L2 VL

/-! ### the readers -/
structure WordsOk (W : Wd') : Prop extends WOk W where
  nd : W.Nodup
  letters : ∀ w ∈ W, w ≠ [] ∧ ∀ c ∈ w, 97 ≤ c ∧ c ≤ 122
theorem need_t : F_need [.bl true] = .ok .non [.bl true] := by unfold F_need G_need; simp
theorem need_f : F_need [.bl false] = .err "NoText" [.bl false] := by unfold F_need G_need; simp
theorem need_text_ok (x : Str) : F_need_text [.str x] = .ok .non [.str x] := by
  have h : isiD "str" (.str x) = some (.bl true) := rfl
  unfold F_need_text G_need_text
  simp [h, need_t]
theorem is_whole_ok (i : Int) : F_is_whole [.int i] = .ok (.bl true) [.int i] := by
  have h : isiD "int" (.int i) = some (.bl true) := rfl
  have h2 : isiD "bool" (.int i) = some (.bl false) := rfl
  unfold F_is_whole G_is_whole
  simp [h, h2]
/-- a slip that is one: parts not empty, of these hands, apart -/
def apartB : Nat → List Nat → Bool
  | _, [] => true
  | met, m :: r => decide (met &&& m = 0) && apartB (met ||| m) r
theorem and_n (a b : Nat) : andD (.int ((a : Nat) : Int)) (.int ((b : Nat) : Int)) = some (.int ((a &&& b : Nat) : Int)) := by
  rw [and_i, PyProof.Rows.bitAnd_pp (by omega) (by omega)]; rfl
theorem or_n (a b : Nat) : orD (.int ((a : Nat) : Int)) (.int ((b : Nat) : Int)) = some (.int ((a ||| b : Nat) : Int)) := by
  rw [or_i, bitOr_nn (by omega) (by omega)]; rfl
theorem loop_apart (a b : D) : ∀ (sl : List Nat) (met : Nat), apartB met sl = true → ∃ met' : Nat, loopM (gN 3) L1_is_slip (nats sl) [a, b, .int ((met : Nat) : Int), .non] = .ok .nx [a, b, .int ((met' : Nat) : Int), .non]
  | [], met, _ => ⟨met, rfl⟩
  | m :: r, met, h => by
    simp only [apartB, Bool.and_eq_true, decide_eq_true_eq] at h
    obtain ⟨met', e⟩ := loop_apart a b r (met ||| m) h.2
    refine ⟨met', ?_⟩
    have e2 := and_n met m
    have e3 := or_n met m
    rw [h.1] at e2
    have turn : L1_is_slip [a, b, .int ((met : Nat) : Int), .int ((m : Nat) : Int)] = .ok .nx [a, b, .int ((met ||| m : Nat) : Int), .non] := by
      generalize met ||| m = z at *
      unfold L1_is_slip
      simp [e2, e3]
    show loopM (gN 3) L1_is_slip (D.int ((m : Nat) : Int) :: nats r) _ = _
    rw [loopM_cons (ρ1 := [a, b, .int ((met : Nat) : Int), .int ((m : Nat) : Int)]) rfl turn, e]
theorem is_slip_ok {sl : List Nat} {h : Nat} (hh : h ≤ 1000) (hl : sl.length ≤ sizeLine) (h1 : ∀ m ∈ sl, 0 < m ∧ m < 2 ^ h) (h2 : apartB 0 sl = true) : F_is_slip [slipD sl, .int ((h : Nat) : Int)] = .ok (.bl true) [slipD sl, .int ((h : Nat) : Int)] := by
  have hi : isiD "tuple" (slipD sl) = some (.bl true) := rfl
  have hn : (nats sl).length ≤ sizeLine := by simp [nats]; exact hl
  obtain ⟨met', e⟩ := loop_apart (slipD sl) (.int ((h : Nat) : Int)) sl 0 h2
  have c := lcM_mapG (B := C1_is_slip) (j := 3) (ρ := [slipD sl, .int ((h : Nat) : Int), .non, .non]) (g := fun i : Nat => D.int ((i : Nat) : Int)) (fun _ => D.bl true) sl rfl (fun m hm => by
    have hm := h1 m hm
    have e1 : (0 : Int) < ((m : Nat) : Int) := by omega
    have e2 : ((m : Nat) : Int) < ((2 ^ h : Nat) : Int) := by omega
    have e3 := shl1 h hh
    generalize 2 ^ h = z at *
    unfold C1_is_slip
    simp [is_whole_ok, e3, hm.1, hm.2])
  have ha : allD (.lst (sl.map fun _ => D.bl true)) = some (.bl true) := by
    show (asBls (sl.map fun _ => D.bl true)).map _ = _
    rw [asBls_bls (fun _ => true) sl]
    simp
  unfold F_is_slip G_is_slip
  unfold slipD nats at *
  simp at e
  simp [hi, hl, c, ha, e]
/-! texts of words -/
theorem ok_str {w : List Nat} (h : ∀ c ∈ w, c < 128) : okEq (.str (SX.S w)) = true := by
  have : PyData.strOk (SX.S w) = true := by
    unfold PyData.strOk
    rw [← Array.all_toList]
    exact List.all_eq_true.mpr fun c hc => by
      have := h c hc
      exact decide_eq_true (by omega)
  unfold okEq SeqAt.shaped
  simp only [D.plain, D.py, PyData.canLay0, this, PyData.depth]
  rfl
theorem ok_words {V : Wd'} (h : ∀ w ∈ V, ∀ c ∈ w, c < 128) : okEq (wordsD V) = true := by
  have h1 : ∀ V : Wd', D.plains (V.map fun w => D.str (SX.S w)) = true := plains_map _ (fun _ => by simp only [D.plain])
  have h2 : PyData.canLayAll0 (V.map fun w => PyData.str (SX.S w)) = true := by
    induction V with
    | nil => rfl
    | cons w V ih =>
      have o := ok_str (h w List.mem_cons_self)
      unfold okEq SeqAt.shaped at o
      simp only [D.plain, D.py, Bool.true_and, Bool.and_eq_true] at o
      simp only [List.map_cons, PyData.canLayAll0, o.1, ih fun x hx => h x (List.mem_cons_of_mem _ hx), Bool.and_self]
  have h3 : PyData.depthAll (V.map fun w => PyData.str (SX.S w)) = 0 := by
    clear h h2
    induction V with
    | nil => rfl
    | cons a l ih => simp only [List.map_cons, PyData.depthAll, PyData.depth, ih]; rfl
  unfold okEq SeqAt.shaped wordsD
  simp only [D.plain, h1, D.py, pys_map, PyData.canLay0, h2, PyData.depth, h3]
  rfl
theorem in_words {V : Wd'} (h : ∀ w ∈ V, ∀ c ∈ w, c < 128) {x : List Nat} (hx : ∀ c ∈ x, c < 128) : inB false (.str (SX.S x)) (wordsD V) = some (.bl (decide (x ∈ V))) := by
  have e : ((D.pys (V.map fun w => D.str (SX.S w))).any fun z => PyData.eqv z (D.str (SX.S x)).py) = decide (x ∈ V) := by
    rw [pys_map]
    clear h
    induction V with
    | nil => rfl
    | cons w V ih =>
      simp only [List.map_cons, List.any_cons, ih, D.py, PyData.eqv, SX.S_beq_eq, List.mem_cons, Bool.decide_or]
      congr 1
      by_cases q : w = x
      · simp [q]
      · have q2 : ¬ x = w := fun z => q z.symm
        simp [q, q2]
  have o1 := ok_str hx
  have o2 := ok_words h
  show (if (okEq (D.str (SX.S x)) && okEq (wordsD V)) = true then some (D.bl (false != ((D.pys (V.map fun w => D.str (SX.S w))).any fun z => PyData.eqv z (D.str (SX.S x)).py))) else none) = _
  rw [o1, o2, e]
  simp
theorem index_words {V : Wd'} {x : List Nat} (h : x ∈ V) : indexD (wordsD V) [.str (SX.S x)] = some (.int ((V.idxOf x : Nat) : Int)) := by
  show ((asStrs (V.map fun w => D.str (SX.S w))).bind fun ys => (ys.findIdx? (· == SX.S x)).map fun j => D.int ((j : Nat) : Int)) = _
  rw [asStrs_strs]
  have : (V.map fun w => SX.S w).findIdx? (· == SX.S x) = some (V.idxOf x) := by
    rw [List.findIdx?_map]
    have e : ((fun y => y == SX.S x) ∘ fun w => SX.S w) = fun w => w == x := by
      funext w
      show (SX.S w == SX.S x) = (w == x)
      rw [SX.S_beq]
    rw [e]
    rw [List.findIdx?_eq_some_iff_findIdx_eq]
    exact ⟨List.idxOf_lt_length_iff.mpr h, rfl⟩
  simp only [Option.bind, this, Option.map_some]
end K84

namespace K84
open PySem L2 VL

/-! ### a slip's text read over the words V -/
def rdT (V : Wd') (ws : Wd') : Nat := ws.foldl (fun t w => t ||| 2 ^ V.idxOf w) 0
theorem WordsOk.lo {V : Wd'} (h : WordsOk V) : ∀ w ∈ V, ∀ c ∈ w, c < 128 := fun w hw c hc => by have := (h.letters w hw).2 c hc; omega
theorem WordsOk.no {V : Wd'} (h : WordsOk V) {w : List Nat} (hw : w ∈ V) {c : Nat} (hc : c < 97) : c ∉ w := fun z => by have := (h.letters w hw).2 c z; omega
theorem split_ok {c : Nat} (hc : c < 128) {ps : Wd'} (hne : ps ≠ []) (h : ∀ p ∈ ps, c ∉ p) (hl : (TL.joinL [c] ps).length + 2 ≤ sizeLine) {x : Str} (hx : x = SX.S [c]) : splitD (.str (SX.S (TL.joinL [c] ps))) [.str x] = some (.lst (ps.map fun p => .str (SX.S p))) := by
  subst hx
  show (if (SX.S [c]).length ≠ 0 ∧ (SX.S (TL.joinL [c] ps)).length + 2 ≤ sizeLine then some (D.lst ((Txt.split (SX.S (TL.joinL [c] ps)) (SX.S [c])).map D.str)) else none) = _
  rw [if_pos ⟨by rw [SX.S_len]; simp, by rw [SX.S_len]; exact hl⟩, SX.split_S (by simp) (by simp; omega), SX.spl_join hne h, List.map_map]
  rfl
theorem word_turn {V : Wd'} (hV : WordsOk V) (a s p : D) (t : Nat) {w : List Nat} (hw : w ∈ V) :
    L1_slip_read [a, wordsD V, s, p, .int ((t : Nat) : Int), .str (SX.S w)] = .ok .nx [a, wordsD V, s, p, .int ((t ||| 2 ^ V.idxOf w : Nat) : Int), .non] := by
  have e1 := in_words hV.lo (hV.lo w hw)
  have e2 := index_words hw
  have hlt := List.idxOf_lt_length_iff.mpr hw
  have h12 := hV.len
  have e3 := shl1 (V.idxOf w) (by omega)
  have e4 := or_n t (2 ^ V.idxOf w)
  rw [decide_eq_true hw] at e1
  have hL : isLst (wordsD V) = true := rfl
  generalize wordsD V = wd at *
  generalize t ||| 2 ^ V.idxOf w = z at *
  generalize 2 ^ V.idxOf w = y at *
  unfold L1_slip_read
  simp [e1, e2, e3, e4, need_t, hL]
theorem part_turn {V : Wd'} (hV : WordsOk V) (a : D) (acc : List D) (hl : acc.length < sizeLine) {ws : Wd'} (hne : ws ≠ []) (hw : ∀ w ∈ ws, w ∈ V) (hz : ws.length ≤ 12) :
    L2_slip_read [a, wordsD V, .lst acc, .str (SX.S (TL.joinL [61] ws)), .non, .non] = .ok .nx [a, wordsD V, .lst (acc ++ [.int ((rdT V ws : Nat) : Int)]), .non, .non, .non] := by
  have hlen : (TL.joinL [61] ws).length ≤ 12 * 9 := by
    have h1 : (TL.joinL [61] ws).length ≤ ws.length * (8 + 1) := joinL_len fun p hp => hV.short p (hw p hp)
    have := Nat.mul_le_mul_right 9 hz
    omega
  have sp := split_ok (c := 61) (by decide) hne (fun p hp => hV.no (hw p hp) (by decide)) (Nat.le_trans (Nat.add_le_add_right hlen 2) (by decide)) eqS
  have key := loopM_steps (G := gN 5) (B := L1_slip_read) (fun w : List Nat => D.str (SX.S w)) (fun t : Nat => [a, wordsD V, .lst acc, .str (SX.S (TL.joinL [61] ws)), .int ((t : Nat) : Int), .non]) (fun t w => t ||| 2 ^ V.idxOf w) (fun _ _ => True) ws 0 trivial (fun i t w hm _ => ⟨trivial, _, rfl, word_turn hV _ _ _ t (hw w (List.mem_of_getElem? hm))⟩)
  have k1 := key.1
  unfold rdT
  generalize ws.foldl (fun t w => t ||| 2 ^ V.idxOf w) 0 = z at *
  unfold L2_slip_read
  simp at k1
  simp [sp, k1, appL, hl]
theorem slip_read_ok {V : Wd'} (hV : WordsOk V) {tiers : List Wd'} (h : ∀ ws ∈ tiers, ws ≠ [] ∧ (∀ w ∈ ws, w ∈ V) ∧ ws.length ≤ 12) (hz : tiers.length ≤ 12) (hne : tiers ≠ []) :
    F_slip_read [.str (SX.S (TL.joinL [62] (tiers.map (TL.joinL [61])))), wordsD V] = .ok (slipD (tiers.map (rdT V))) [.str (SX.S (TL.joinL [62] (tiers.map (TL.joinL [61])))), wordsD V] := by
  have nopart : ∀ c, c < 61 ∨ c = 62 ∨ c = 45 → ∀ ws ∈ tiers, c ∉ TL.joinL [61] ws := fun c hc ws hws => by
    obtain ⟨h1, h2, h3⟩ := h ws hws
    clear hws h1 h3
    induction ws with
    | nil => intro z; cases z
    | cons p r ih =>
      cases r with
      | nil => exact hV.no (h2 p (by simp)) (by omega)
      | cons q r =>
        show c ∉ p ++ ([61] ++ TL.joinL [61] (q :: r))
        rw [List.mem_append, List.mem_append]
        rintro (z | z | z)
        · exact hV.no (h2 p (by simp)) (by omega) z
        · have : c = 61 := by simpa using z
          omega
        · exact ih (fun w hw => h2 w (List.mem_cons_of_mem _ hw)) z
  have hps : ∀ p ∈ tiers.map (TL.joinL [61]), p.length ≤ 108 := fun p hp => by
    obtain ⟨ws, hws, rfl⟩ := List.mem_map.mp hp
    obtain ⟨_, h2, h3⟩ := h ws hws
    have h1 : (TL.joinL [61] ws).length ≤ ws.length * (8 + 1) := joinL_len fun p hp => hV.short p (h2 p hp)
    have := Nat.mul_le_mul_right 9 h3
    omega
  have hlen : (TL.joinL [62] (tiers.map (TL.joinL [61]))).length ≤ 12 * 109 := by
    have h1 : (TL.joinL [62] (tiers.map (TL.joinL [61]))).length ≤ (tiers.map (TL.joinL [61])).length * (108 + 1) := joinL_len hps
    rw [List.length_map] at h1
    have := Nat.mul_le_mul_right 109 hz
    omega
  have sp := split_ok (c := 62) (by decide) (ps := tiers.map (TL.joinL [61])) (by simpa using hne) (fun p hp => by obtain ⟨ws, hws, rfl⟩ := List.mem_map.mp hp; exact nopart 62 (by omega) ws hws) (Nat.le_trans (Nat.add_le_add_right hlen 2) (by decide)) gtS
  have notminus : ¬ SX.S (TL.joinL [62] (tiers.map (TL.joinL [61]))) = Str.ofString "-" := fun z => by
    rw [miS] at z
    have z := SX.S_inj z
    cases tiers with
    | nil => exact hne rfl
    | cons ws r =>
      obtain ⟨h1, h2, _⟩ := h ws List.mem_cons_self
      have n := nopart 45 (by omega) ws List.mem_cons_self
      have : (45 : Nat) ∈ TL.joinL [61] ws ∨ TL.joinL [61] ws = [] := by
        cases r with
        | nil =>
          have z : TL.joinL [61] ws = [45] := z
          left; rw [z]; simp
        | cons q r =>
          have z : TL.joinL [61] ws ++ ([62] ++ TL.joinL [62] ((q :: r).map (TL.joinL [61]))) = [45] := z
          have := congrArg List.length z
          simp at this
          right
          exact List.length_eq_zero_iff.mp (by omega)
      rcases this with q | q
      · exact n q
      · cases ws with
        | nil => exact h1 rfl
        | cons p rr =>
          have hp := (hV.letters p (h2 p List.mem_cons_self)).1
          cases rr with
          | nil => exact hp q
          | cons p2 rr =>
            have q : p ++ ([61] ++ TL.joinL [61] (p2 :: rr)) = [] := q
            simp at q
  have key := loopM_steps (G := gN 3) (B := L2_slip_read) (fun ws : Wd' => D.str (SX.S (TL.joinL [61] ws))) (fun s : List D => [.str (SX.S (TL.joinL [62] (tiers.map (TL.joinL [61])))), wordsD V, .lst s, .non, .non, .non]) (fun s ws => s ++ [.int ((rdT V ws : Nat) : Int)]) (fun i s => s.length = i) tiers [] rfl (fun i s ws hm hp => by
    have hi := (List.getElem?_eq_some_iff.mp hm).1
    obtain ⟨h1, h2, h3⟩ := h ws (List.mem_of_getElem? hm)
    exact ⟨by simp [hp], _, rfl, part_turn hV _ s (by rw [hp]; exact Nat.lt_of_lt_of_le hi (Nat.le_trans hz (by decide))) h1 h2 h3⟩)
  have k1 := key.1
  have fo : ∀ (l : List Wd') (s : List D), l.foldl (fun s ws => s ++ [D.int ((rdT V ws : Nat) : Int)]) s = s ++ l.map (fun ws => D.int ((rdT V ws : Nat) : Int)) := fun l => by
    induction l with
    | nil => intro s; simp
    | cons a l ih => intro s; simp [ih]
  rw [fo, List.nil_append] at k1
  rw [List.map_map] at sp
  have sp : splitD (.str (SX.S (TL.joinL [62] (tiers.map (TL.joinL [61]))))) [.str (Str.ofString ">")] = some (.lst (tiers.map fun ws => D.str (SX.S (TL.joinL [61] ws)))) := sp
  have e : slipD (tiers.map (rdT V)) = .tup (tiers.map fun ws => D.int ((rdT V ws : Nat) : Int)) := by unfold slipD nats; rw [List.map_map]; rfl
  rw [e]
  generalize TL.joinL [62] (tiers.map (TL.joinL [61])) = text at *
  unfold F_slip_read G_slip_read
  try simp at k1
  simp [notminus, z0, sp, k1, tupleD]
theorem slip_read_nil (V : Wd') : F_slip_read [.str (SX.S [45]), wordsD V] = .ok (slipD []) [.str (SX.S [45]), wordsD V] := by
  have h : SX.S [45] = Str.ofString "-" := miS.symm
  unfold F_slip_read G_slip_read
  simp [h, z0]
  rfl
end K84

namespace K84
open PySem L2 VL

theorem num_head : ∀ (n : Nat), (TL.numL n).head? = some 48 → n = 0 := fun n => by
  induction n using Nat.strongRecOn with
  | ind n ih =>
    intro h
    by_cases hn : n < 10
    · rw [TL.numL_lt hn] at h
      have : 48 + n = 48 := Option.some.inj h
      omega
    · rw [TL.numL_step (by omega)] at h
      rw [List.head?_append] at h
      have hne := TL.numL_ne (n / 10)
      cases e : TL.numL (n / 10) with
      | nil => exact (hne e).elim
      | cons c r =>
        rw [e] at h
        have h2 : (TL.numL (n / 10)).head? = some 48 := by rw [e]; exact h
        have := ih (n / 10) (by omega) h2
        omega
theorem num_len_gt {n : Nat} (h : 10 ^ 10 ≤ n) : 10 < (TL.numL n).length := by
  have key : ∀ k n, 10 ^ k ≤ n → k < (TL.numL n).length := fun k => by
    induction k with
    | zero => intro n _; exact List.length_pos_iff.mpr (TL.numL_ne n)
    | succ k ih =>
      intro n hn
      have h10 : 10 ≤ n := Nat.le_trans (by rw [Nat.pow_succ]; have := Nat.pow_le_pow_right (n := 10) (by decide) (show 0 ≤ k by omega); omega) hn
      rw [TL.numL_step h10, List.length_append]
      have := ih (n / 10) (by rw [Nat.le_div_iff_mul_le (by decide), ← Nat.pow_succ]; exact hn)
      simp; omega
  exact key 10 n h
theorem dig_in {c : Nat} (h : 48 ≤ c ∧ c ≤ 57) : inSD false (.str ⟨#[c]⟩) (.str (Str.ofString "0123456789")) = some (.bl true) := by
  have hc : c ∈ [48, 49, 50, 51, 52, 53, 54, 55, 56, 57] := by simp; omega
  have e : (Str.ofString "0123456789").cps.toList = [48, 49, 50, 51, 52, 53, 54, 55, 56, 57] := rfl
  show (if (#[c] : Array Nat).size = 1 then some (D.bl (false != decide ((#[c] : Array Nat).getD 0 0 ∈ (Str.ofString "0123456789").cps.toList))) else none) = _
  rw [if_pos (show (#[c] : Array Nat).size = 1 from rfl), e]
  have : (#[c] : Array Nat).getD 0 0 = c := rfl
  rw [this, decide_eq_true hc]
  rfl
theorem len_s (a : List Nat) (h : a.length ≤ sizeLine) : lenD [.str (SX.S a)] = some (.int ((a.length : Nat) : Int)) := by
  show (if (SX.S a).length ≤ sizeLine then some (D.int ((SX.S a).length : Nat)) else none) = _
  rw [SX.S_len, if_pos h]
theorem zeroS : Str.ofString "0" = SX.S [48] := rfl
theorem number_ok {n : Nat} (h : n < 10 ^ 10) : F_number_read [.str (SX.S (TL.numL n))] = .ok (.int ((n : Nat) : Int)) [.str (SX.S (TL.numL n))] := by
  have hl := TL.numL_len (k := 10) (by decide) h
  have hp := List.length_pos_iff.mpr (TL.numL_ne n)
  have l1 := len_s (TL.numL n) (Nat.le_trans hl (by decide))
  have c := lcM_mapG (B := C1_number_read) (j := 1) (ρ := [.str (SX.S (TL.numL n)), .non]) (g := fun c : Nat => D.str ⟨#[c]⟩) (fun _ => D.bl true) (TL.numL n) rfl (fun c hc => by
    have := dig_in (TL.numL_digits n c hc)
    unfold C1_number_read
    simp [this])
  have hs : strI (.str (SX.S (TL.numL n))) = some ((TL.numL n).map fun c => .str ⟨#[c]⟩) := rfl
  have ha : allD (.lst ((TL.numL n).map fun _ => D.bl true)) = some (.bl true) := by
    show (asBls ((TL.numL n).map fun _ => D.bl true)).map _ = _
    rw [asBls_bls (fun _ => true) (TL.numL n)]
    simp
  have hi : intSD (.str (SX.S (TL.numL n))) = some (.int ((n : Nat) : Int)) := by
    show (if (SX.S (TL.numL n)).length ≤ 640 then (PySem.intText? (SX.S (TL.numL n))).map D.int else none) = _
    rw [SX.S_len, if_pos (by omega)]
    have := TL.int_num (n := n) (by omega)
    rw [SX.num_S n] at this
    rw [this]; rfl
  have hx : ∃ c, ixD (.str (SX.S (TL.numL n))) (.int 0) = some (.str ⟨#[c]⟩) ∧ (SX.S (TL.numL n) = Str.ofString "0" ∨ ¬ (⟨#[c]⟩ : Str) = Str.ofString "0") := by
    cases e : TL.numL n with
    | nil => exact (TL.numL_ne n e).elim
    | cons c r =>
      refine ⟨c, ?_, ?_⟩
      · show (if (SX.S (c :: r)).length ≤ sizeLine then (atI (SX.S (c :: r)).cps.toList 0).map fun c => D.str ⟨#[c]⟩ else none) = _
        rw [SX.S_len, if_pos (by rw [← e]; exact Nat.le_trans hl (by decide))]
        show (atI (c :: r) 0).map _ = _
        rw [at_0]; rfl
      · by_cases q : c = 48
        · left
          have : n = 0 := num_head n (by rw [e, q]; rfl)
          subst this
          rw [zeroS, ← e]; rfl
        · right
          intro z
          rw [zeroS] at z
          have := SX.S_inj (a := [c]) (b := [48]) z
          exact q (by simpa using this)
  obtain ⟨ch, hx, hor⟩ := hx
  have i1 : (1 : Int) ≤ ((TL.numL n).length : Nat) := by omega
  have i2 : (((TL.numL n).length : Nat) : Int) ≤ 10 := by omega
  have hz : (TL.numL n).length ≤ sizeLine := Nat.le_trans hl (by decide)
  generalize SX.S (TL.numL n) = t at *
  generalize TL.numL n = ls at *
  unfold F_number_read G_number_read
  rcases hor with hor | hor
  · subst hor
    simp [l1, i1, i2, hs, hz, c, ha, need_t, hi]
  · by_cases q : t = Str.ofString "0"
    · subst q
      simp [l1, i1, i2, hs, hz, c, ha, need_t, hi]
    · simp [l1, i1, i2, hs, hz, c, ha, need_t, hi, q, hx, hor]
theorem number_no {n : Nat} (h : 10 ^ 10 ≤ n) (h2 : n < 10 ^ 20) : F_number_read [.str (SX.S (TL.numL n))] = .err "NoText" [.str (SX.S (TL.numL n))] := by
  have hl := TL.numL_len (k := 20) (by decide) h2
  have hg := num_len_gt h
  have l1 := len_s (TL.numL n) (Nat.le_trans hl (by decide))
  have i1 : (1 : Int) ≤ ((TL.numL n).length : Nat) := by omega
  have i2 : ¬ (((TL.numL n).length : Nat) : Int) ≤ 10 := by omega
  generalize SX.S (TL.numL n) = t at *
  unfold F_number_read G_number_read
  simp [l1, i1, i2, need_f]
/-! a slip, a line read -/
def textOf (tiers : List Wd') : List Nat := if tiers = [] then [45] else TL.joinL [62] (tiers.map (TL.joinL [61]))
theorem slipT_of (W : Wd') (sl : List Nat) : slipT W sl = textOf (sl.map (tierW W)) := by
  unfold slipT textOf
  by_cases h : sl = []
  · simp [h]
  · rw [if_neg h, if_neg (by simpa using h), List.map_map]; rfl
structure TiersOk (V : Wd') (tiers : List Wd') : Prop where
  tier : ∀ ws ∈ tiers, ws ≠ [] ∧ (∀ w ∈ ws, w ∈ V) ∧ ws.length ≤ 12
  few : tiers.length ≤ 12
  pos : ∀ m ∈ tiers.map (rdT V), 0 < m ∧ m < 2 ^ V.length
  apart : apartB 0 (tiers.map (rdT V)) = true
theorem slip_read_all {V : Wd'} (hV : WordsOk V) {tiers : List Wd'} (h : TiersOk V tiers) : F_slip_read [.str (SX.S (textOf tiers)), wordsD V] = .ok (slipD (tiers.map (rdT V))) [.str (SX.S (textOf tiers)), wordsD V] := by
  unfold textOf
  by_cases q : tiers = []
  · subst q; exact slip_read_nil V
  · rw [if_neg q]; exact slip_read_ok hV h.tier h.few q
theorem len_words (V : Wd') : lenD [wordsD V] = some (.int ((V.length : Nat) : Int)) := by
  show some (D.int ((V.map fun w => D.str (SX.S w)).length : Nat)) = _
  rw [List.length_map]
theorem read_slip_ok {V : Wd'} (hV : WordsOk V) {tiers : List Wd'} (h : TiersOk V tiers) : F_read_slip [.str (SX.S (textOf tiers)), wordsD V] =
    if slipT V (tiers.map (rdT V)) = textOf tiers then .ok (slipD (tiers.map (rdT V))) [.str (SX.S (textOf tiers)), wordsD V] else .err "NoText" [.str (SX.S (textOf tiers)), wordsD V] := by
  have e1 := need_text_ok (SX.S (textOf tiers))
  have e2 := slip_read_all hV h
  have h12 := hV.len
  have few : (tiers.map (rdT V)).length ≤ 12 := by rw [List.length_map]; exact h.few
  have e3 := is_slip_ok (h := V.length) (by omega) (Nat.le_trans few (by decide)) h.pos h.apart
  have e4 := show_slip_ok (W := V) hV.toWOk (sl := tiers.map (rdT V)) ⟨fun m hm => (h.pos m hm).2, few⟩
  have e5 := len_words V
  have e6 : (SX.S (slipT V (tiers.map (rdT V))) = SX.S (textOf tiers)) ↔ slipT V (tiers.map (rdT V)) = textOf tiers := ⟨SX.S_inj, fun h => by rw [h]⟩
  generalize tiers.map (rdT V) = sl at *
  generalize wordsD V = wd at *
  unfold F_read_slip G_read_slip
  by_cases q : slipT V sl = textOf tiers
  · rw [if_pos q]
    simp [e1, e2, e3, e4, e5, q, need_t]
  · rw [if_neg q]
    have q2 : ¬ SX.S (slipT V sl) = SX.S (textOf tiers) := fun z => q (e6.mp z)
    simp [e1, e2, e3, e4, e5, q2, need_f]
theorem part_ok (n : Nat) (t : List Nat) (h : (TL.numL n ++ 58 :: t).length ≤ sizeLine) : partitionD (.str (SX.S (TL.numL n ++ 58 :: t))) [.str (Str.ofString ":")] = some (.tup [.str (SX.S (TL.numL n)), .str (Str.ofString ":"), .str (SX.S t)]) := by
  have p : Txt.partition (SX.S (TL.numL n ++ 58 :: t)) (SX.S [58]) = (SX.S (TL.numL n), SX.S [58], SX.S t) := SX.partition_some (by simp) (SX.par_head (c := 58) (sep := []) t (TL.numL_free (by omega)))
  show (if (Str.ofString ":").length ≠ 0 ∧ (SX.S (TL.numL n ++ 58 :: t)).length ≤ sizeLine then some (D.tup [.str (Txt.partition (SX.S (TL.numL n ++ 58 :: t)) (Str.ofString ":")).1, .str (Txt.partition (SX.S (TL.numL n ++ 58 :: t)) (Str.ofString ":")).2.1, .str (Txt.partition (SX.S (TL.numL n ++ 58 :: t)) (Str.ofString ":")).2.2]) else none) = _
  rw [if_pos ⟨by rw [coS, SX.S_len]; decide, by rw [SX.S_len]; exact h⟩, coS, p]
theorem is_line_ok {sl : List Nat} {h n : Nat} (hh : h ≤ 1000) (hl : sl.length ≤ sizeLine) (h1 : ∀ m ∈ sl, 0 < m ∧ m < 2 ^ h) (h2 : apartB 0 sl = true) : F_is_line [.tup [slipD sl, .int ((n : Nat) : Int)], .int ((h : Nat) : Int)] = .ok (.bl (decide (1 ≤ n))) [.tup [slipD sl, .int ((n : Nat) : Int)], .int ((h : Nat) : Int)] := by
  have e := is_slip_ok hh hl h1 h2
  have hi : ∀ xs, isiD "tuple" (.tup xs) = some (.bl true) := fun _ => rfl
  have hn : ((1 : Int) ≤ ((n : Nat) : Int)) ↔ 1 ≤ n := by omega
  unfold F_is_line G_is_line
  by_cases q : 1 ≤ n
  · simp [hi, e, is_whole_ok, q]
    omega
  · simp [hi, e, is_whole_ok, q]
    omega
theorem read_line_ok {V : Wd'} (hV : WordsOk V) {tiers : List Wd'} (h : TiersOk V tiers) {n : Nat} (hn : n < 10 ^ 20) : F_read_line [.str (SX.S (TL.numL n ++ 58 :: textOf tiers)), wordsD V] =
    if slipT V (tiers.map (rdT V)) = textOf tiers ∧ 1 ≤ n ∧ n ≤ 1000000000 then .ok (.tup [slipD (tiers.map (rdT V)), .int ((n : Nat) : Int)]) [.str (SX.S (TL.numL n ++ 58 :: textOf tiers)), wordsD V] else .err "NoText" [.str (SX.S (TL.numL n ++ 58 :: textOf tiers)), wordsD V] := by
  have e1 := need_text_ok (SX.S (TL.numL n ++ 58 :: textOf tiers))
  have h12 := hV.len
  have few : (tiers.map (rdT V)).length ≤ 12 := by rw [List.length_map]; exact h.few
  have tl : (textOf tiers).length ≤ 1308 := by
    unfold textOf
    split
    · decide
    · have h1 : (TL.joinL [62] (tiers.map (TL.joinL [61]))).length ≤ (tiers.map (TL.joinL [61])).length * (108 + 1) := joinL_len fun p hp => by
        obtain ⟨ws, hws, rfl⟩ := List.mem_map.mp hp
        obtain ⟨_, h2, h3⟩ := h.tier ws hws
        have h1 : (TL.joinL [61] ws).length ≤ ws.length * (8 + 1) := joinL_len fun p hp => hV.short p (h2 p hp)
        have := Nat.mul_le_mul_right 9 h3
        omega
      rw [List.length_map] at h1
      have := Nat.mul_le_mul_right 109 h.few
      omega
  have nl := TL.numL_len (k := 20) (by decide) hn
  have e2 := part_ok n (textOf tiers) (by rw [List.length_append, List.length_cons]; exact Nat.le_trans (show _ ≤ 1329 by omega) (by decide))
  have e3 := read_slip_ok hV h
  have e4 := len_words V
  have e5 := is_line_ok (n := n) (h := V.length) (by omega) (Nat.le_trans few (by decide)) h.pos h.apart
  have e6 := show_line_ok (W := V) hV.toWOk (sl := tiers.map (rdT V)) ⟨fun m hm => (h.pos m hm).2, few⟩ hn
  have e7 : slipT V (tiers.map (rdT V)) = textOf tiers → lineT V (tiers.map (rdT V)) n = TL.numL n ++ 58 :: textOf tiers := fun z => by unfold lineT; rw [z]
  have hs : isStr (.str (SX.S (TL.numL n ++ 58 :: textOf tiers))) = true := rfl
  have i9 : (((n : Nat) : Int) ≤ 1000000000) ↔ n ≤ 1000000000 := by omega
  by_cases q : slipT V (tiers.map (rdT V)) = textOf tiers
  · rw [if_pos q] at e3
    have e7 := e7 q
    rw [e7] at e6
    by_cases big : 10 ^ 10 ≤ n
    · have nb := number_no big hn
      rw [if_neg (by omega)]
      generalize tiers.map (rdT V) = sl at *
      generalize wordsD V = wd at *
      generalize TL.numL n ++ 58 :: textOf tiers = tx at *
      unfold F_read_line G_read_line
      simp [e1, e2, e3, nb]
    · have nb := number_ok (n := n) (by omega)
      generalize tiers.map (rdT V) = sl at *
      generalize wordsD V = wd at *
      generalize TL.numL n ++ 58 :: textOf tiers = tx at *
      by_cases b1 : 1 ≤ n
      · by_cases b2 : n ≤ 1000000000
        · rw [if_pos ⟨q, b1, b2⟩]
          have b3 : ((n : Nat) : Int) ≤ 1000000000 := by omega
          unfold F_read_line G_read_line
          simp [e1, e2, e3, nb, z2, e4, e5, e6, b1, b2, b3, need_t]
        · rw [if_neg (by omega)]
          have b3 : ¬ ((n : Nat) : Int) ≤ 1000000000 := by omega
          unfold F_read_line G_read_line
          simp [e1, e2, e3, nb, z2, e4, e5, e6, b1, b2, b3, need_f]
      · rw [if_neg (by omega)]
        unfold F_read_line G_read_line
        simp [e1, e2, e3, nb, z2, e4, e5, b1, need_f]
  · rw [if_neg q] at e3
    rw [if_neg (by intro z; exact q z.1)]
    generalize tiers.map (rdT V) = sl at *
    generalize wordsD V = wd at *
    generalize TL.numL n ++ 58 :: textOf tiers = tx at *
    unfold F_read_line G_read_line
    simp [e1, e2, e3]
end K84

namespace K84
open PySem L2 VL

/-! ### what the bag draws: words, slips -/
theorem sl_to (ds : List D) (k : Nat) : slLD (.lst ds) none (some ((k : Nat) : Int)) = some (.lst (ds.take k)) := by
  show some (D.lst ((ds.drop (HT.sIx ds.length 0 none)).take (HT.sIx ds.length ds.length (some ((k : Nat) : Int)) - HT.sIx ds.length 0 none))) = _
  rw [HT.sIx_none, HT.sIx_nat, List.drop_zero, Nat.sub_zero]
  congr 2
  rcases Nat.le_total k ds.length with h | h
  · rw [Nat.min_eq_left h]
  · rw [Nat.min_eq_right h, List.take_of_length_le h, List.take_of_length_le (Nat.le_refl _)]
theorem bag_ok {ns : List Int} (h : ns.length ≤ 63) : ∃ b, F__law_bag [.lst (ns.map D.int)] = .ok b [.lst (ns.map D.int)] ∧ BagOk b := by
  refine ⟨BagD 0 1234567891 0 (ns.map fun i => if i < 0 then -i else i), ?_, _, _, _, _, rfl, by decide, by decide, fun c hc => ?_⟩
  · have s := sl_to (ns.map D.int) 63
    rw [List.take_of_length_le (by simpa using h)] at s
    have s : slLD (.lst (ns.map D.int)) none (some 63) = some (.lst (ns.map D.int)) := s
    have c := lcM_mapG (B := C1__law_bag) (j := 1) (ρ := [.lst (ns.map D.int), .non]) (g := D.int) (fun i => D.int (if i < 0 then -i else i)) ns rfl (fun i hi => by
      unfold C1__law_bag
      simp [absD])
    have hl : ns.length ≤ sizeLine := Nat.le_trans h (by decide)
    have h4 : (4 : Nat) ≤ sizeLine := by decide
    unfold F__law_bag G__law_bag BagD
    rw [List.map_map]
    have e : ((D.int) ∘ fun i : Int => if i < 0 then -i else i) = fun i => D.int (if i < 0 then -i else i) := rfl
    rw [e]
    simp [s, c, hl, h4]
  · obtain ⟨i, _, rfl⟩ := List.mem_map.mp hc
    split <;> omega
theorem mixed_ok {b : D} (hb : BagOk b) {things : List D} (h : things.length ≤ 1000) : ∃ ys b', F__law_mixed [b, .lst things] = .ok (.lst ys) [b', .lst things] ∧ BagOk b' ∧ ys.Perm things := by
  obtain ⟨ρ', e, b', ys, rfl, hb', hp⟩ := loopM_inv (G := gN 3) (B := L1__law_mixed) (fun i ρ => ∃ b' ys, ρ = [b', .lst things, .lst ys, .non] ∧ BagOk b' ∧ ys.Perm (things.take i)) things 0 [b, .lst things, .lst [], .non] ⟨b, [], rfl, hb, by simp⟩ (fun i ρ d hd ⟨b1, ys, hρ, hb1, hp⟩ => by
    subst hρ
    rw [Nat.zero_add] at hp
    have hi := (List.getElem?_eq_some_iff.mp hd).1
    have hlen : ys.length = i := by rw [hp.length_eq, List.length_take]; omega
    obtain ⟨r, b2, e1, hb2, r0, r1⟩ := take_ok (n := ((ys.length : Nat) : Int) + 1) hb1 (by omega) (by omega)
    have hi2 : insL ys [.int r, d] = some (ys.take r.toNat ++ [d] ++ ys.drop r.toNat) := by
      show (if ys.length < sizeLine ∧ 0 ≤ r ∧ r < 2 ^ 63 then some (ys.take r.toNat ++ [d] ++ ys.drop r.toNat) else none) = _
      rw [if_pos ⟨Nat.lt_of_lt_of_le (show ys.length < 1000 by omega) (by decide), r0, by omega⟩]
    refine ⟨[b1, .lst things, .lst ys, d], [b2, .lst things, .lst (ys.take r.toNat ++ [d] ++ ys.drop r.toNat), .non], .nx, rfl, ?_, .inl rfl, b2, _, rfl, hb2, ?_⟩
    · unfold L1__law_mixed
      simp [e1, hi2]
    · rw [Nat.zero_add, List.take_succ, hd]
      have p1 : (ys.take r.toNat ++ [d] ++ ys.drop r.toNat).Perm (ys ++ [d]) := by
        rw [List.append_assoc]
        refine (List.Perm.append_left _ List.perm_append_comm).trans ?_
        rw [← List.append_assoc, List.take_append_drop]
      exact p1.trans (hp.append_right _))
  rw [Nat.zero_add, List.take_length] at hp
  refine ⟨ys, b', ?_, hb', hp⟩
  unfold F__law_mixed G__law_mixed
  simp [z0, e]
def allW : Wd' := [[97, 110, 110], [98, 111, 98], [99, 121], [97], [98], [97, 98, 99, 100, 101, 102, 103, 104], [114, 111, 108, 108], [109, 97, 105, 108], [99, 111, 109, 101, 115], [103, 111, 101, 115], [115, 116, 114, 105, 107, 101], [118, 111, 105, 100], [98, 117, 110, 100, 108, 101], [114, 101, 99, 111, 117, 110, 116], [112, 117, 116], [111, 117, 116], [110, 111, 110, 101], [97, 98], [98, 97], [122]]
theorem spS : Str.ofString " " = SX.S [32] := rfl
theorem split_all : splitD (.str "ann bob cy a b abcdefgh roll mail comes goes strike void bundle recount put out none ab ba z") [.str (Str.ofString " ")] = some (wordsD allW) := by
  have e : Str.ofString "ann bob cy a b abcdefgh roll mail comes goes strike void bundle recount put out none ab ba z" = SX.S (TL.joinL [32] allW) := by decide +kernel
  rw [e]
  exact split_ok (c := 32) (by decide) (by decide) (by decide) (by decide) spS
theorem allW_ok {W : Wd'} {ys : Wd'} (hp : ys.Perm allW) {h : Nat} (hh : h ≤ 12) : WordsOk (ys.take h) ∧ (ys.take h).length = h := by
  have sub : ∀ w ∈ ys.take h, w ∈ allW := fun w hw => hp.mem_iff.mp (List.mem_of_mem_take hw)
  have len : (ys.take h).length = h := by rw [List.length_take, hp.length_eq]; show min h 20 = h; omega
  have sh : ∀ w ∈ allW, w.length ≤ 8 ∧ w ≠ [] ∧ ∀ c ∈ w, 97 ≤ c ∧ c ≤ 122 := by decide
  have nd : ys.Nodup := hp.nodup_iff.mpr (by decide)
  exact ⟨⟨⟨by omega, fun w hw => (sh w (sub w hw)).1⟩, nd.sublist (List.take_sublist _ _), fun w hw => (sh w (sub w hw)).2⟩, len⟩
theorem perm_words {ys : List D} {W : Wd'} (h : ys.Perm (W.map fun w => D.str (SX.S w))) : ∃ V : Wd', V.Perm W ∧ ys = V.map fun w => D.str (SX.S w) := by
  have key : ∀ (zs ys : List D), zs.Perm ys → ∀ W : Wd', zs = W.map (fun w => D.str (SX.S w)) → ∃ V : Wd', V.Perm W ∧ ys = V.map fun w => D.str (SX.S w) := by
    intro zs ys hp
    induction hp with
    | nil => intro W e; cases W with
      | nil => exact ⟨[], .nil, rfl⟩
      | cons _ _ => cases e
    | cons x _ ih =>
      intro W e
      cases W with
      | nil => cases e
      | cons w W =>
        simp only [List.map_cons, List.cons.injEq] at e
        obtain ⟨V, hV, e2⟩ := ih W e.2
        exact ⟨w :: V, hV.cons w, by rw [e2, List.map_cons, e.1]⟩
    | swap x y l =>
      intro W e
      match W, e with
      | w :: v :: W, e =>
        simp only [List.map_cons, List.cons.injEq] at e
        exact ⟨v :: w :: W, List.Perm.swap _ _ _, by rw [e.1, e.2.1, e.2.2]; rfl⟩
      | [w], e => simp at e
      | [], e => cases e
    | trans _ _ ih1 ih2 =>
      intro W e
      obtain ⟨V, hV, e1⟩ := ih1 W e
      obtain ⟨U, hU, e2⟩ := ih2 V e1
      exact ⟨U, hU.trans hV, e2⟩
  exact key _ _ h.symm W rfl
theorem words_ok {b : D} (hb : BagOk b) {h : Nat} (hh : h ≤ 12) : ∃ W b', F__law_words [b, .int ((h : Nat) : Int)] = .ok (wordsD W) [b', .int ((h : Nat) : Int)] ∧ BagOk b' ∧ WordsOk W ∧ W.length = h := by
  obtain ⟨r, b1, e1, hb1, _, _⟩ := take_ok (n := 2) hb (by decide) (by decide)
  have hs : isStr (.str (Str.ofString "ann bob cy a b abcdefgh roll mail comes goes strike void bundle recount put out none ab ba z")) = true := rfl
  have sp := split_all
  by_cases hr : r = 1
  · obtain ⟨ys, b2, e2, hb2, hp⟩ := mixed_ok hb1 (things := allW.map fun w => D.str (SX.S w)) (by decide)
    obtain ⟨V, hV, rfl⟩ := perm_words hp
    obtain ⟨ok, len⟩ := allW_ok (W := V) hV hh
    have s := sl_to (V.map fun w => D.str (SX.S w)) h
    rw [← List.map_take] at s
    refine ⟨V.take h, b2, ?_, hb2, ok, len⟩
    have e2 : F__law_mixed [b1, wordsD allW] = .ok (.lst (V.map fun w => D.str (SX.S w))) [b2, wordsD allW] := e2
    unfold F__law_words G__law_words
    generalize wordsD allW = wa at *
    simp [hs, sp, e1, hr, e2, s]
    unfold wordsD
    rw [List.map_take]
  · obtain ⟨ok, len⟩ := allW_ok (W := allW) (ys := allW) (List.Perm.refl _) hh
    have s := sl_to (allW.map fun w => D.str (SX.S w)) h
    rw [← List.map_take] at s
    refine ⟨allW.take h, b1, ?_, hb1, ok, len⟩
    have s : slLD (wordsD allW) none (some ((h : Nat) : Int)) = some (wordsD (allW.take h)) := s
    unfold F__law_words G__law_words
    generalize wordsD allW = wa at *
    simp [hs, sp, e1, hr, s]
/-! a slip -/
def msk (p : Nat → Bool) (h : Nat) : Nat := (((List.range h).filter p).map fun i => 2 ^ i).sum
theorem msk_succ (p : Nat → Bool) (h : Nat) : msk p (h + 1) = msk p h + if p h then 2 ^ h else 0 := by
  unfold msk
  rw [List.range_succ, List.filter_append, List.map_append, List.sum_append]
  congr 1
  by_cases q : p h <;> simp [q]
theorem msk_lt (p : Nat → Bool) : ∀ h, msk p h < 2 ^ h
  | 0 => by simp [msk]
  | h + 1 => by
    rw [msk_succ, Nat.pow_succ]
    have := msk_lt p h
    split <;> omega
theorem msk_bit (p : Nat → Bool) : ∀ h i, (msk p h).testBit i = (decide (i < h) && p i)
  | 0, i => by simp [msk]
  | h + 1, i => by
    rw [msk_succ]
    have lt := msk_lt p h
    have ih := msk_bit p h
    by_cases q : p h
    · rw [if_pos q, Nat.add_comm]
      have e := Nat.two_pow_add_eq_or_of_lt lt 1
      rw [Nat.mul_one] at e
      rw [e, Nat.testBit_or, ih, Nat.testBit_two_pow]
      by_cases z : h = i
      · subst z; simp [q]
      · by_cases y : i < h
        · have : i < h + 1 := by omega
          simp [z, y, this]
        · have : ¬ i < h + 1 := by omega
          simp [z, y, this]
    · rw [if_neg q, Nat.add_zero, ih]
      by_cases e : i = h
      · subst e; simp [q]
      · have : decide (i < h + 1) = decide (i < h) := by
          by_cases z : i < h
          · rw [decide_eq_true z, decide_eq_true (by omega)]
          · rw [decide_eq_false z, decide_eq_false (by omega)]
        rw [this]
theorem sum_cast (l : List Nat) : (l.map fun i => ((2 ^ i : Nat) : Int)).sum = (((l.map fun i => 2 ^ i).sum : Nat) : Int) := by
  induction l with
  | nil => rfl
  | cons a l ih => simp only [List.map_cons, List.sum_cons, ih]; push_cast; rfl
theorem apart_of : ∀ (l : List Nat) (met : Nat), (∀ m ∈ l, met &&& m = 0) → l.Pairwise (fun a b => a &&& b = 0) → apartB met l = true
  | [], _, _, _ => rfl
  | m :: r, met, h1, h2 => by
    simp only [apartB, Bool.and_eq_true, decide_eq_true_eq]
    refine ⟨h1 m List.mem_cons_self, apart_of r _ (fun x hx => ?_) (List.pairwise_cons.mp h2).2⟩
    rw [Nat.and_or_distrib_right, h1 x (List.mem_cons_of_mem _ hx), (List.pairwise_cons.mp h2).1 x hx]
    rfl
def rankP (rk : List Int) (r : Int) (i : Nat) : Bool := decide (rk[i]?.getD 0 = r)
theorem range1_nat {h : Nat} (hh : h ≤ 1000) : range1I [.int ((h : Nat) : Int)] = some ((List.range h).map fun i => D.int ((i : Nat) : Int)) := by
  have c : ((h : Nat) : Int).natAbs < 4611686018427387904 := by rw [Int.natAbs_natCast]; omega
  unfold range1I
  simp only [if_pos c, Int.toNat_natCast]
  unfold rangeL
  congr 1
  apply List.map_congr_left
  intro i _
  rw [Int.zero_add]
theorem rank_turn (a b : D) {h : Nat} (hh : h ≤ 12) (s : List Nat) (hs : s.length ≤ 100) (rk : List Int) (hk : rk.length = h) (r : Int) :
    L1__law_slip [a, .int ((h : Nat) : Int), b, .lst (nats s), .lst (rk.map D.int), .int r, .non, .non] = .ok .nx [a, .int ((h : Nat) : Int), b, .lst (nats (if 0 < msk (rankP rk r) h then s ++ [msk (rankP rk r) h] else s)), .lst (rk.map D.int), .non, .non, .non] := by
  have e1 := range1_nat (h := h) (by omega)
  have hl : h ≤ sizeLine := Nat.le_trans hh (by decide)
  have e2 := lcM_filtG (T := T2__law_slip) (B := C2__law_slip) (j := 7) (ρ := [a, .int ((h : Nat) : Int), b, .lst (nats s), .lst (rk.map D.int), .int r, .non, .non]) (g := fun i : Nat => D.int ((i : Nat) : Int)) (rankP rk r) (fun i => D.int ((2 ^ i : Nat) : Int)) (List.range h) rfl (fun i hi => by
    have hi : i < rk.length := by rw [hk]; simpa using hi
    have ea : atI (rk.map D.int) ((i : Nat) : Int) = some (.int (rk[i]?.getD 0)) := by
      rw [atI_nn (by omega)]
      simp [List.getElem?_eq_getElem hi]
    unfold T2__law_slip rankP
    generalize rk[i]?.getD 0 = z at *
    generalize rk.map D.int = zz at *
    simp [ea]) (fun i hi _ => by
    have e := shl1 i (by have : i < h := by simpa using hi
                         omega)
    generalize 2 ^ i = z at *
    unfold C2__law_slip
    simp [e])
  have e3 : sumD (.lst (((List.range h).filter (rankP rk r)).map fun i => D.int ((2 ^ i : Nat) : Int))) = some (.int ((msk (rankP rk r) h : Nat) : Int)) := by
    show (asInts (((List.range h).filter (rankP rk r)).map fun i => D.int ((2 ^ i : Nat) : Int))).map _ = _
    rw [asInts_ints, Option.map_some, sum_cast]
    rfl
  have hz : (nats s).length < sizeLine := by
    have h1 : (nats s).length ≤ 100 := by simp [nats]; exact hs
    exact Nat.lt_of_le_of_lt h1 (by decide)
  have hp : ((0 : Int) < ((msk (rankP rk r) h : Nat) : Int)) ↔ 0 < msk (rankP rk r) h := by omega
  generalize msk (rankP rk r) h = m at *
  have e4 : nats (s ++ [m]) = nats s ++ [.int ((m : Nat) : Int)] := by simp [nats]
  generalize (((List.range h).filter (rankP rk r)).map fun i => D.int ((2 ^ i : Nat) : Int)) = ls at *
  unfold L1__law_slip
  by_cases q : 0 < m
  · rw [if_pos q, e4]
    have q2 : (0 : Int) < ((m : Nat) : Int) := hp.mpr q
    generalize nats s = ns at *
    generalize rk.map D.int = zz at *
    simp [e1, hl, e2, e3, q2, q, appL, hz]
  · rw [if_neg q]
    have q2 : ¬ (0 : Int) < ((m : Nat) : Int) := fun z => q (hp.mp z)
    generalize nats s = ns at *
    generalize rk.map D.int = zz at *
    simp [e1, hl, e2, e3, q2, q]
structure SlipOk (h : Nat) (sl : List Nat) : Prop where
  bits : ∀ m ∈ sl, 0 < m ∧ m < 2 ^ h
  apart : apartB 0 sl = true
  few : sl.length ≤ 3
theorem slip_ok {b : D} (hb : BagOk b) {h : Nat} (h1 : 1 ≤ h) (hh : h ≤ 12) : ∃ sl b', F__law_slip [b, .int ((h : Nat) : Int)] = .ok (slipD sl) [b', .int ((h : Nat) : Int)] ∧ BagOk b' ∧ SlipOk h sl := by
  obtain ⟨way, b1, e1, hb1, w0, w1⟩ := take_ok (n := 5) hb (by decide) (by decide)
  by_cases hw0 : way = 0
  · refine ⟨[], b1, ?_, hb1, ⟨fun m hm => (nomatch hm), rfl, by decide⟩⟩
    unfold F__law_slip G__law_slip
    simp [e1, hw0, z0, sets]
    rfl
  by_cases hw4 : way < 4
  · obtain ⟨r, b2, e2, hb2, r0, r1⟩ := take_ok (n := ((h : Nat) : Int)) hb1 (by omega) (by omega)
    obtain ⟨k, rfl⟩ := Int.eq_ofNat_of_zero_le r0
    have e3 := shl1 k (by omega)
    refine ⟨[2 ^ k], b2, ?_, hb2, ⟨fun m hm => ?_, by simp [apartB], Nat.le_add_left 1 2⟩⟩
    · have e4 : slipD [2 ^ k] = .tup [.int ((2 ^ k : Nat) : Int)] := rfl
      rw [e4]
      generalize 2 ^ k = z at *
      unfold F__law_slip G__law_slip
      simp [e1, hw0, hw4, z0, z1, sets, e2, e3]
    · have hm : m = 2 ^ k := by simpa using hm
      subst hm
      exact ⟨Nat.two_pow_pos k, Nat.pow_lt_pow_right (by decide) (by omega)⟩
  · -- ranks, then the parts of the ranks 1, 2, 3
    have er := range1_nat (h := h) (by omega)
    have hl : h ≤ sizeLine := Nat.le_trans hh (by decide)
    obtain ⟨ys, ρ', e2, b2, rk, hρ, hy, hlen, hb2⟩ := lcM_inv (G := gN 7) (T := VL.ret true) (B := C1__law_slip) (is := [7]) (fun i acc ρ => ∃ b' rk, ρ = [b', .int ((h : Nat) : Int), .int way, .lst [], .non, .non, .non, .non] ∧ acc = rk.map D.int ∧ rk.length = i ∧ BagOk b') ((List.range h).map fun i => D.int ((i : Nat) : Int)) 0 [] [b1, .int ((h : Nat) : Int), .int way, .lst [], .non, .non, .non, .non] ⟨b1, [], rfl, rfl, rfl, hb1⟩ (fun i acc ρ d hd ⟨b', rk, hρ, hacc, hrk, hb'⟩ => by
      subst hρ hacc
      obtain ⟨r, b3, e3, hb3, _, _⟩ := take_ok (n := 4) hb' (by decide) (by decide)
      refine ⟨[b', .int ((h : Nat) : Int), .int way, .lst [], .non, .non, .non, d], true, _, rfl, rfl, fun _ => ⟨.int r, [b3, .int ((h : Nat) : Int), .int way, .lst [], .non, .non, .non, d], ?_, b3, rk ++ [r], rfl, by simp, by simp [hrk], hb3⟩, fun z => nomatch z⟩
      unfold C1__law_slip
      simp [e3])
    subst hρ
    rw [List.nil_append] at hy
    subst hy
    have hlen : rk.length = h := by simpa using hlen
    have key := loopM_steps (G := gN 5) (B := L1__law_slip) D.int (fun s : List Nat => [b2, .int ((h : Nat) : Int), .int way, .lst (nats s), .lst (rk.map D.int), .non, .non, .non]) (fun s r => if 0 < msk (rankP rk r) h then s ++ [msk (rankP rk r) h] else s) (fun i s => s.length ≤ i) [1, 2, 3] [] (Nat.le_refl _) (fun i s r hr hp => by
      have hi := (List.getElem?_eq_some_iff.mp hr).1
      have hi : i < 3 := hi
      refine ⟨?_, _, rfl, rank_turn b2 (.int way) hh s (by omega) rk hlen r⟩
      show (if 0 < msk (rankP rk r) h then s ++ [msk (rankP rk r) h] else s).length ≤ i + 1
      split
      · simp; omega
      · omega)
    obtain ⟨k1, k2⟩ := key
    generalize hs : List.foldl (fun s r => if 0 < msk (rankP rk r) h then s ++ [msk (rankP rk r) h] else s) [] [1, 2, 3] = sl at *
    refine ⟨sl, b2, ?_, hb2, ?_⟩
    · have e0 : nats ([] : List Nat) = [] := rfl
      rw [e0] at k1
      have z3 : (3 : Nat) ≤ sizeLine := by decide
      have k1 : loopM (gN 5) L1__law_slip [.int 1, .int 2, .int 3] [b2, .int ((h : Nat) : Int), .int way, .lst [], .lst (rk.map D.int), .non, .non, .non] = .ok .nx [b2, .int ((h : Nat) : Int), .int way, .lst (nats sl), .lst (rk.map D.int), .non, .non, .non] := k1
      unfold F__law_slip G__law_slip slipD
      generalize rk.map D.int = zz at *
      generalize nats sl = nn at *
      simp [e1, hw0, hw4, z0, z3, sets, er, hl, e2, k1, tupleD]
    · have dis : ∀ r s : Int, r ≠ s → msk (rankP rk r) h &&& msk (rankP rk s) h = 0 := fun r s hrs => by
        apply Nat.eq_of_testBit_eq
        intro i
        rw [Nat.testBit_and, msk_bit, msk_bit, Nat.zero_testBit]
        unfold rankP
        by_cases q : rk[i]?.getD 0 = r
        · have : ¬ rk[i]?.getD 0 = s := fun z => hrs (q.symm.trans z)
          simp [this]
        · simp [q]
      have d12 := dis 1 2 (by decide)
      have d13 := dis 1 3 (by decide)
      have d23 := dis 2 3 (by decide)
      have l1 := msk_lt (rankP rk 1) h
      have l2 := msk_lt (rankP rk 2) h
      have l3 := msk_lt (rankP rk 3) h
      simp only [List.foldl_cons, List.foldl_nil] at hs
      generalize msk (rankP rk 1) h = m1 at *
      generalize msk (rankP rk 2) h = m2 at *
      generalize msk (rankP rk 3) h = m3 at *
      refine ⟨fun m hm => ?_, apart_of sl 0 (fun m _ => Nat.zero_and m) ?_, k2⟩
      · subst hs
        by_cases q1 : 0 < m1 <;> by_cases q2 : 0 < m2 <;> by_cases q3 : 0 < m3 <;> simp [q1, q2, q3] at hm <;> omega
      · subst hs
        by_cases q1 : 0 < m1 <;> by_cases q2 : 0 < m2 <;> by_cases q3 : 0 < m3 <;> simp [q1, q2, q3, d12, d13, d23]
end K84

namespace K84
open PySem L2 VL

/-! ### a slip's hands over other words -/
def spots (V W : Wd') (m : Nat) : List Nat := (bits m W.length).map fun i => V.idxOf (W[i]?.getD [])
def sums (V W : Wd') (m : Nat) : Nat := ((spots V W m).map fun i => 2 ^ i).sum
def ordered (V W : Wd') (m : Nat) : Prop := sortI ((spots V W m).map fun i => ((i : Nat) : Int)) = (spots V W m).map fun i => ((i : Nat) : Int)
theorem eqv_lists (a b : List Int) : neD (.lst (a.map D.int)) (.lst (b.map D.int)) = some (.bl (!decide (a = b))) := by
  show (if (okEq (.lst (a.map D.int)) && okEq (.lst (b.map D.int))) = true then some (D.bl (!PyData.eqv (D.lst (a.map D.int)).py (D.lst (b.map D.int)).py)) else none) = _
  rw [okEq_ints, okEq_ints]
  simp only [Bool.and_self, if_true, D.py, pys_ints, PyData.eqv, eqv_ints]
open Classical in
theorem turned_turn {V W : Wd'} (hW : WOk W) (hV : ∀ w ∈ W, w ∈ V) (hl : V.length ≤ 100) (a : D) (acc : List D) (hacc : acc.length < sizeLine) (m : Nat) :
    L1__law_turned [a, wordsD W, wordsD V, .lst acc, .int ((m : Nat) : Int), .non, .non, .non, .non] =
      if ordered V W m then .ok .nx [a, wordsD W, wordsD V, .lst (acc ++ [.int ((sums V W m : Nat) : Int)]), .non, .non, .non, .non, .non]
      else .ok (.ret .non) [a, wordsD W, wordsD V, .lst acc, .int ((m : Nat) : Int), .lst (nats (spots V W m)), .non, .non, .non] := by
  have h12 := hW.len
  have h1 : W.length ≤ sizeLine := Nat.le_trans hW.len (by decide)
  have ew := enum_words W
  have e1 := lcM_filt2 (T := T1__law_turned) (B := C1__law_turned) (i := 6) (j := 7) (ρ := [a, wordsD W, wordsD V, .lst acc, .int ((m : Nat) : Int), .non, .non, .non, .non]) (ga := fun i : Nat => D.int ((i : Nat) : Int)) (gb := fun i : Nat => D.str (SX.S (W[i]?.getD []))) (fun i : Nat => m.testBit i) (fun i => D.int ((V.idxOf (W[i]?.getD []) : Nat) : Int)) (by decide) (List.range W.length) rfl rfl (fun i hi => by
      have hi' : i < W.length := by simpa using hi
      unfold T1__law_turned
      have e1 := shl1 i (by omega)
      have e2 := quot m i (by omega)
      have e3 := mod2 (m / 2 ^ i)
      have e4 := odd m i
      generalize m / 2 ^ i = q at *
      generalize 2 ^ i = z at *
      simp only [bnd_ap, eVar_ap', List.set, List.getElem?_cons_zero, List.getElem?_cons_succ, ret_ap', opt_some', one_ap, int_i, eq_i, oB_bl, e1, e2, e3, e4]) (fun i hi _ => by
      have hi' : i < W.length := by simpa using hi
      have hw : W[i]?.getD [] ∈ V := hV _ (by rw [List.getElem?_eq_getElem hi']; exact List.getElem_mem _)
      have e := index_words hw
      have hL : isLst (wordsD V) = true := rfl
      generalize wordsD V = wv at *
      unfold C1__law_turned
      simp [hL, e])
  have es : ((List.range W.length).filter fun i => m.testBit i).map (fun i => D.int ((V.idxOf (W[i]?.getD []) : Nat) : Int)) = nats (spots V W m) := by unfold nats spots; rw [List.map_map]; rfl
  rw [es] at e1
  have hsl : (spots V W m).length ≤ 12 := by unfold spots; rw [List.length_map]; exact Nat.le_trans (bits_len _ _) h12
  have hle : ∀ i ∈ spots V W m, i ≤ 1000 := fun i hi => by
    obtain ⟨j, hj, rfl⟩ := List.mem_map.mp hi
    have := List.idxOf_le_length (l := V) (a := W[j]?.getD [])
    omega
  have eS : sortedD [.lst (nats (spots V W m))] = some (.lst ((sortI ((spots V W m).map fun i => ((i : Nat) : Int))).map D.int)) := by
    show ((asInts ((spots V W m).map fun i => D.int ((i : Nat) : Int))).bind fun ns => if ns.length < 64 then some (D.lst ((sortI ns).map D.int)) else none) = _
    rw [asInts_ints]
    simp only [Option.bind]
    rw [if_pos (by rw [List.length_map]; omega)]
  have en : nats (spots V W m) = ((spots V W m).map fun i => ((i : Nat) : Int)).map D.int := by unfold nats; rw [List.map_map]; rfl
  have eN := eqv_lists ((spots V W m).map fun i => ((i : Nat) : Int)) (sortI ((spots V W m).map fun i => ((i : Nat) : Int)))
  rw [← en] at eN
  have e2 := lcM_mapG (B := C2__law_turned) (j := 8) (ρ := [a, wordsD W, wordsD V, .lst acc, .int ((m : Nat) : Int), .lst (nats (spots V W m)), .non, .non, .non]) (g := fun i : Nat => D.int ((i : Nat) : Int)) (fun i => D.int ((2 ^ i : Nat) : Int)) (spots V W m) rfl (fun i hi => by
    have e := shl1 i (hle i hi)
    generalize 2 ^ i = z at *
    unfold C2__law_turned
    simp [e])
  have e3 : sumD (.lst ((spots V W m).map fun i => D.int ((2 ^ i : Nat) : Int))) = some (.int ((sums V W m : Nat) : Int)) := by
    show (asInts ((spots V W m).map fun i => D.int ((2 ^ i : Nat) : Int))).map _ = _
    rw [asInts_ints, Option.map_some, sum_cast]
    rfl
  have hsz : (nats (spots V W m)).length ≤ sizeLine := by simp [nats]; exact Nat.le_trans hsl (by decide)
  have e2 : lcM (gN 8) (VL.ret true) C2__law_turned [8] (nats (spots V W m)) [a, wordsD W, wordsD V, .lst acc, .int ((m : Nat) : Int), .lst (nats (spots V W m)), .non, .non, .non] = _ := e2
  have ew : enumI [wordsD W] = some ((List.range W.length).map fun i => .tup [.int ((i : Nat) : Int), .str (SX.S (W[i]?.getD []))]) := ew
  have hr : ((List.range W.length).map fun i => D.tup [.int ((i : Nat) : Int), .str (SX.S (W[i]?.getD []))]).length ≤ sizeLine := by simp; exact h1
  unfold ordered
  generalize ((List.range W.length).map fun i => D.tup [.int ((i : Nat) : Int), .str (SX.S (W[i]?.getD []))]) = pairs at *
  generalize ((spots V W m).map fun i => D.int ((2 ^ i : Nat) : Int)) = pw at *
  generalize hA : ((spots V W m).map fun i => ((i : Nat) : Int)) = A at *
  generalize sums V W m = su at *
  generalize nats (spots V W m) = ns at *
  generalize wordsD W = ww at *
  generalize wordsD V = wv at *
  unfold L1__law_turned
  by_cases q : A = sortI A
  · rw [if_pos q.symm]
    rw [← q] at eS eN
    simp [ew, hr, e1, hsz, eS, eN, e2, e3, appL, hacc]
  · rw [if_neg (fun z => q z.symm)]
    simp [ew, hr, e1, hsz, eS, eN, q]
open Classical in
theorem turned_ok {V W : Wd'} (hW : WOk W) (hV : ∀ w ∈ W, w ∈ V) (hl : V.length ≤ 100) (sl : List Nat) (hs : sl.length ≤ 100) : ∃ ρ, F__law_turned [slipD sl, wordsD W, wordsD V] = .ok (if ∀ m ∈ sl, ordered V W m then slipD (sl.map (sums V W)) else .non) ρ := by
  have loop : ∀ (r : List Nat) (acc : List D), acc.length + r.length ≤ 100 → ∃ ρ, loopM (gN 4) L1__law_turned (nats r) [slipD sl, wordsD W, wordsD V, .lst acc, .non, .non, .non, .non, .non] =
      if ∀ m ∈ r, ordered V W m then .ok .nx [slipD sl, wordsD W, wordsD V, .lst (acc ++ nats (r.map (sums V W))), .non, .non, .non, .non, .non] else .ok (.ret .non) ρ := by
    intro r
    induction r with
    | nil => intro acc _; exact ⟨[], by rw [if_pos (by simp)]; simp [nats, loopM]⟩
    | cons m r ih =>
      intro acc hacc
      simp only [List.length_cons] at hacc
      have t := turned_turn hW hV hl (slipD sl) acc (Nat.lt_of_le_of_lt (show acc.length ≤ 100 by omega) (by decide)) m
      by_cases q : ordered V W m
      · rw [if_pos q] at t
        obtain ⟨ρ, e⟩ := ih (acc ++ [.int ((sums V W m : Nat) : Int)]) (by simp; omega)
        refine ⟨ρ, ?_⟩
        show loopM (gN 4) L1__law_turned (D.int ((m : Nat) : Int) :: nats r) _ = _
        rw [loopM_cons (ρ1 := [slipD sl, wordsD W, wordsD V, .lst acc, .int ((m : Nat) : Int), .non, .non, .non, .non]) rfl t, e]
        have hc : (∀ m' ∈ m :: r, ordered V W m') ↔ ∀ m' ∈ r, ordered V W m' := by simp [q]
        by_cases z : ∀ m' ∈ r, ordered V W m'
        · rw [if_pos z, if_pos (hc.mpr z)]; simp [nats]
        · rw [if_neg z, if_neg (fun y => z (hc.mp y))]
      · rw [if_neg q] at t
        refine ⟨[slipD sl, wordsD W, wordsD V, .lst acc, .int ((m : Nat) : Int), .lst (nats (spots V W m)), .non, .non, .non], ?_⟩
        show loopM (gN 4) L1__law_turned (D.int ((m : Nat) : Int) :: nats r) _ = _
        rw [loopM_ret (ρ1 := [slipD sl, wordsD W, wordsD V, .lst acc, .int ((m : Nat) : Int), .non, .non, .non, .non]) rfl t, if_neg (fun y => q (y m List.mem_cons_self))]
  obtain ⟨ρ, e⟩ := loop sl [] (by simpa using hs)
  by_cases q : ∀ m ∈ sl, ordered V W m
  · rw [if_pos q] at e ⊢
    refine ⟨[slipD sl, wordsD W, wordsD V], ?_⟩
    have et : slipD (sl.map (sums V W)) = .tup (nats (sl.map (sums V W))) := rfl
    have ei : tupI (slipD sl) = some (nats sl) := rfl
    rw [List.nil_append] at e
    rw [et]
    unfold F__law_turned G__law_turned
    generalize nats (sl.map (sums V W)) = ns at *
    generalize slipD sl = sd at *
    generalize nats sl = nn at *
    generalize wordsD W = ww at *
    generalize wordsD V = wv at *
    simp [z0, ei, e, tupleD]
  · rw [if_neg q] at e ⊢
    refine ⟨ρ.take 3, ?_⟩
    have ei : tupI (slipD sl) = some (nats sl) := rfl
    unfold F__law_turned G__law_turned
    generalize slipD sl = sd at *
    generalize nats sl = nn at *
    generalize wordsD W = ww at *
    generalize wordsD V = wv at *
    simp [z0, ei, e]
/-! alike -/
theorem alike_ok {d : D} (h1 : eqD d d = some (.bl true)) (h2 : okRepr d = true) (h3 : isBox d = true) : F__law_alike [d, d] = .ok (.bl true) [d, d] := by
  have e : reprD [d] = some (.str d.py.shown) := by
    show (if (okRepr d && isBox d) = true then some (D.str d.py.shown) else none) = _
    rw [h2, h3]; rfl
  unfold F__law_alike G__law_alike
  simp [h1, e]
end K84

namespace K84
open PySem L2 VL

/-! ### hands, spots, texts: plain -/
theorem bits_mem {m h i : Nat} : i ∈ bits m h ↔ i < h ∧ m.testBit i = true := by
  unfold bits; rw [List.mem_filter, List.mem_range]
theorem or_bits (V : Wd') : ∀ (ws : Wd') (t j : Nat), (ws.foldl (fun t w => t ||| 2 ^ V.idxOf w) t).testBit j = (t.testBit j || ws.any fun w => decide (V.idxOf w = j))
  | [], t, j => by simp
  | w :: ws, t, j => by
    rw [List.foldl_cons, or_bits V ws, Nat.testBit_or, Nat.testBit_two_pow, List.any_cons, Bool.or_assoc]
theorem rd_bit (V ws : Wd') (j : Nat) : (rdT V ws).testBit j = ws.any fun w => decide (V.idxOf w = j) := by
  unfold rdT; rw [or_bits]; simp
/-- the hands told, in order -/
def inOrder (n : Nat) (ss : List Nat) : List Nat := (List.range n).filter fun j => decide (j ∈ ss)
theorem inOrder_perm {n : Nat} {ss : List Nat} (nd : ss.Nodup) (h : ∀ s ∈ ss, s < n) : (inOrder n ss).Perm ss := by
  refine (List.perm_ext_iff_of_nodup (List.nodup_range.filter _) nd).mpr fun j => ?_
  rw [List.mem_filter, List.mem_range, decide_eq_true_eq]
  exact ⟨fun z => z.2, fun z => ⟨h j z, z⟩⟩
theorem sum_bit {n : Nat} {ss : List Nat} (nd : ss.Nodup) (h : ∀ s ∈ ss, s < n) (j : Nat) : ((ss.map fun i => 2 ^ i).sum).testBit j = decide (j ∈ ss) := by
  have e : (ss.map fun i => 2 ^ i).sum = msk (fun j => decide (j ∈ ss)) n := ((inOrder_perm nd h).map _).sum_nat.symm
  rw [e, msk_bit]
  by_cases q : j ∈ ss
  · simp [q, h j q]
  · simp [q]
theorem ints_inj {a b : List Nat} (h : a.map (fun i => ((i : Nat) : Int)) = b.map fun i => ((i : Nat) : Int)) : a = b := by
  have := congrArg (List.map Int.toNat) h
  simpa [List.map_map, Function.comp_def] using this
theorem inOrder_sorted (n : Nat) (ss : List Nat) : ((inOrder n ss).map fun i => ((i : Nat) : Int)).Pairwise (· ≤ ·) := by
  rw [List.pairwise_map]
  have : (inOrder n ss).Pairwise (· < ·) := List.pairwise_lt_range.filter _
  exact this.imp fun h => by omega
theorem sorted_iff {n : Nat} {ss : List Nat} (nd : ss.Nodup) (h : ∀ s ∈ ss, s < n) : sortI (ss.map fun i => ((i : Nat) : Int)) = (ss.map fun i => ((i : Nat) : Int)) ↔ inOrder n ss = ss := by
  have p := (inOrder_perm nd h).map fun i => ((i : Nat) : Int)
  have so := inOrder_sorted n ss
  have e : sortI (ss.map fun i => ((i : Nat) : Int)) = (inOrder n ss).map fun i => ((i : Nat) : Int) := PySem.W.ksm_same ((sortI_perm _).trans p.symm) (sortI_sorted _) so
  rw [e]
  exact ⟨fun z => ints_inj z, fun z => by rw [z]⟩
section
variable {V W : Wd'}
structure Pair (V W : Wd') : Prop where
  v : WordsOk V
  w : WordsOk W
  p : V.Perm W
theorem Pair.mem (P : Pair V W) {w : List Nat} (h : w ∈ W) : w ∈ V := P.p.mem_iff.mpr h
theorem Pair.len (P : Pair V W) : V.length = W.length := P.p.length_eq
theorem word_at {W : Wd'} {i : Nat} (h : i < W.length) : W[i]?.getD [] = W[i] := by rw [List.getElem?_eq_getElem h]; rfl
theorem word_mem {W : Wd'} {i : Nat} (h : i < W.length) : W[i]?.getD [] ∈ W := by rw [word_at h]; exact List.getElem_mem _
theorem Pair.spot_lt (P : Pair V W) {m s : Nat} (h : s ∈ spots V W m) : s < V.length := by
  obtain ⟨i, hi, rfl⟩ := List.mem_map.mp h
  exact List.idxOf_lt_length_iff.mpr (P.mem (word_mem (bits_mem.mp hi).1))
theorem at_idx {V : Wd'} {w : List Nat} (h : w ∈ V) : V[V.idxOf w]?.getD [] = w := by
  have hl := List.idxOf_lt_length_iff.mpr h
  rw [List.getElem?_eq_getElem hl]
  simp
theorem Pair.nd (P : Pair V W) (m : Nat) : (spots V W m).Nodup := by
  unfold spots List.Nodup
  rw [List.pairwise_map]
  have nb : (bits m W.length).Nodup := List.nodup_range.filter _
  refine List.Pairwise.imp_of_mem (fun {i j} hi hj hne e => hne ?_) nb
  have hi := (bits_mem.mp hi).1
  have hj := (bits_mem.mp hj).1
  have e1 := at_idx (P.mem (word_mem hi))
  have e2 := at_idx (P.mem (word_mem hj))
  rw [e] at e1
  have e3 : W[i] = W[j] := by rw [← word_at hi, ← word_at hj, ← e1, e2]
  exact (List.getElem_inj P.w.nd).mp e3
theorem any_spots (m j : Nat) : ((tierW W m).any fun w => decide (V.idxOf w = j)) = decide (j ∈ spots V W m) := by
  unfold tierW spots
  rw [List.any_map]
  by_cases q : j ∈ (bits m W.length).map fun i => V.idxOf (W[i]?.getD [])
  · rw [decide_eq_true q, List.any_eq_true]
    obtain ⟨i, hi, e⟩ := List.mem_map.mp q
    exact ⟨i, hi, by simpa using e⟩
  · rw [decide_eq_false q, List.any_eq_false]
    intro i hi z
    exact q (List.mem_map.mpr ⟨i, hi, by simpa using z⟩)
theorem Pair.sums_eq (P : Pair V W) (m : Nat) : sums V W m = rdT V (tierW W m) := by
  apply Nat.eq_of_testBit_eq
  intro j
  unfold sums
  rw [sum_bit (P.nd m) (fun s hs => P.spot_lt hs), rd_bit, any_spots]
theorem Pair.rd_bits (P : Pair V W) (m : Nat) : bits (rdT V (tierW W m)) V.length = inOrder V.length (spots V W m) := by
  unfold bits inOrder
  congr 1
  funext j
  rw [rd_bit, any_spots]
theorem Pair.tier_spots (P : Pair V W) (m : Nat) : tierW W m = (spots V W m).map fun j => V[j]?.getD [] := by
  unfold tierW spots
  rw [List.map_map]
  apply List.map_congr_left
  intro i hi
  exact (at_idx (P.mem (word_mem (bits_mem.mp hi).1))).symm
theorem Pair.ord_iff (P : Pair V W) (m : Nat) : ordered V W m ↔ tierW V (rdT V (tierW W m)) = tierW W m := by
  unfold ordered
  rw [sorted_iff (P.nd m) (fun s hs => P.spot_lt hs)]
  have e1 : tierW V (rdT V (tierW W m)) = (inOrder V.length (spots V W m)).map fun j => V[j]?.getD [] := by
    show (bits (rdT V (tierW W m)) V.length).map _ = _
    rw [P.rd_bits m]
  rw [e1, P.tier_spots m]
  constructor
  · intro z; rw [z]
  · intro z
    have lt : ∀ j ∈ inOrder V.length (spots V W m), j < V.length := fun j hj => by unfold inOrder at hj; simpa using (List.mem_filter.mp hj).1
    have inj : ∀ (a b : List Nat), (∀ j ∈ a, j < V.length) → (∀ j ∈ b, j < V.length) → a.map (fun j => V[j]?.getD []) = b.map (fun j => V[j]?.getD []) → a = b := by
      intro a
      induction a with
      | nil => intro b _ _ h; cases b with
        | nil => rfl
        | cons _ _ => cases h
      | cons x a ih =>
        intro b ha hb h
        cases b with
        | nil => cases h
        | cons y b =>
          simp only [List.map_cons, List.cons.injEq] at h
          have hx := ha x List.mem_cons_self
          have hy := hb y List.mem_cons_self
          have e : V[x] = V[y] := by rw [← word_at hx, ← word_at hy]; exact h.1
          rw [(List.getElem_inj P.v.nd).mp e, ih b (fun j hj => ha j (List.mem_cons_of_mem _ hj)) (fun j hj => hb j (List.mem_cons_of_mem _ hj)) h.2]
    exact inj _ _ lt (fun j hj => P.spot_lt hj) z
end
end K84

namespace K84
open PySem L2 VL

theorem bits_ne {m h : Nat} (h0 : 0 < m) (hm : m < 2 ^ h) : bits m h ≠ [] := fun z => by
  have : m = 0 := by
    apply Nat.eq_of_testBit_eq
    intro i
    rw [Nat.zero_testBit]
    by_cases hi : i < h
    · cases e : m.testBit i with
      | false => rfl
      | true =>
        have := bits_mem.mpr ⟨hi, e⟩
        rw [z] at this; cases this
    · exact Nat.testBit_lt_two_pow (Nat.lt_of_lt_of_le hm (Nat.pow_le_pow_right (by decide) (by omega)))
  omega
theorem apart_pair : ∀ {l : List Nat} {met : Nat}, apartB met l = true → (∀ m ∈ l, met &&& m = 0) ∧ l.Pairwise (fun a b => a &&& b = 0)
  | [], _, _ => ⟨fun _ h => (nomatch h), .nil⟩
  | m :: r, met, h => by
    simp only [apartB, Bool.and_eq_true, decide_eq_true_eq] at h
    obtain ⟨h1, h2⟩ := apart_pair h.2
    have split : ∀ x ∈ r, met &&& x = 0 ∧ m &&& x = 0 := fun x hx => by
      have := h1 x hx
      rw [Nat.and_or_distrib_right] at this
      exact Nat.or_eq_zero_iff.mp this
    refine ⟨fun x hx => ?_, List.pairwise_cons.mpr ⟨fun x hx => (split x hx).2, h2⟩⟩
    rcases List.mem_cons.mp hx with rfl | hx
    · exact h.1
    · exact (split x hx).1
section
variable {V W : Wd'}
theorem spots_inj (P : Pair V W) {a b j : Nat} (ha : j ∈ spots V W a) (hb : j ∈ spots V W b) : ∃ i, a.testBit i = true ∧ b.testBit i = true := by
  obtain ⟨i, hi, e1⟩ := List.mem_map.mp ha
  obtain ⟨i', hi', e2⟩ := List.mem_map.mp hb
  have hi := bits_mem.mp hi
  have hi' := bits_mem.mp hi'
  have x1 := at_idx (P.mem (word_mem hi.1))
  have x2 := at_idx (P.mem (word_mem hi'.1))
  rw [e1] at x1
  rw [e2] at x2
  have e3 : W[i]'hi.1 = W[i']'hi'.1 := by rw [← word_at hi.1, ← word_at hi'.1, ← x1, x2]
  have := (List.getElem_inj P.w.nd).mp e3
  subst this
  exact ⟨i, hi.2, hi'.2⟩
theorem Pair.tiers_ok (P : Pair V W) {sl : List Nat} (hs : SlipOk W.length sl) : TiersOk V (sl.map (tierW W)) where
  tier := fun ws hws => by
    obtain ⟨m, hm, rfl⟩ := List.mem_map.mp hws
    have hb := hs.bits m hm
    refine ⟨fun z => bits_ne hb.1 hb.2 (List.map_eq_nil_iff.mp z), fun w hw => ?_, ?_⟩
    · obtain ⟨i, hi, rfl⟩ := List.mem_map.mp hw
      exact P.mem (word_mem (bits_mem.mp hi).1)
    · unfold tierW; rw [List.length_map]; exact Nat.le_trans (bits_len _ _) P.w.len
  few := by rw [List.length_map]; have := hs.few; omega
  pos := fun x hx => by
    obtain ⟨ws, hws, rfl⟩ := List.mem_map.mp hx
    obtain ⟨m, hm, rfl⟩ := List.mem_map.mp hws
    have hb := hs.bits m hm
    have ne := bits_ne hb.1 hb.2
    refine ⟨Nat.pos_of_ne_zero fun z => ?_, Nat.lt_pow_two_of_testBit _ fun i hi => ?_⟩
    · cases e : bits m W.length with
      | nil => exact ne e
      | cons i r =>
        have hj : V.idxOf (W[i]?.getD []) ∈ spots V W m := by unfold spots; rw [e]; simp
        have := rd_bit V (tierW W m) (V.idxOf (W[i]?.getD []))
        rw [any_spots, decide_eq_true hj, z, Nat.zero_testBit] at this
        cases this
    · rw [rd_bit, any_spots, decide_eq_false]
      intro z
      have := P.spot_lt z
      omega
  apart := by
    refine apart_of _ _ (fun m _ => Nat.zero_and m) ?_
    rw [List.map_map, List.pairwise_map]
    refine (apart_pair hs.apart).2.imp fun {a b} h => ?_
    apply Nat.eq_of_testBit_eq
    intro j
    rw [Nat.testBit_and, Nat.zero_testBit]
    show ((rdT V (tierW W a)).testBit j && (rdT V (tierW W b)).testBit j) = false
    rw [rd_bit, rd_bit, any_spots, any_spots]
    by_cases q1 : j ∈ spots V W a
    · by_cases q2 : j ∈ spots V W b
      · obtain ⟨i, t1, t2⟩ := spots_inj P q1 q2
        have : (a &&& b).testBit i = true := by rw [Nat.testBit_and, t1, t2]; rfl
        rw [h, Nat.zero_testBit] at this; cases this
      · simp [q2]
    · simp [q1]
/-- a tier's text tells its words -/
theorem tier_inj {a b : Wd'} (ha : a ≠ []) (hb : b ≠ []) (h1 : ∀ p ∈ a, 61 ∉ p) (h2 : ∀ p ∈ b, 61 ∉ p) (h : TL.joinL [61] a = TL.joinL [61] b) : a = b := by
  have e1 := SX.spl_join (c := 61) (sep := []) ha h1
  have e2 := SX.spl_join (c := 61) (sep := []) hb h2
  rw [← e1, ← e2, h]
theorem no_sep {c : Nat} (hc : c ≠ 61) : ∀ {ws : Wd'}, (∀ p ∈ ws, c ∉ p) → c ∉ TL.joinL [61] ws
  | [], _ => by intro z; cases z
  | [p], h => h p (by simp)
  | p :: q :: r, h => by
    show c ∉ p ++ ([61] ++ TL.joinL [61] (q :: r))
    rw [List.mem_append, List.mem_append]
    rintro (z | z | z)
    · exact h p (by simp) z
    · exact hc (by simpa using z)
    · exact no_sep hc (ws := q :: r) (fun x hx => h x (List.mem_cons_of_mem _ hx)) z
theorem text_inj {A B : List Wd'} (hl : A.length = B.length) (ha : ∀ a ∈ A, a ≠ [] ∧ ∀ p ∈ a, 61 ∉ p ∧ 62 ∉ p) (hb : ∀ b ∈ B, b ≠ [] ∧ ∀ p ∈ b, 61 ∉ p ∧ 62 ∉ p) (h : textOf A = textOf B) : A = B := by
  by_cases q : A = []
  · subst q
    have : B = [] := List.length_eq_zero_iff.mp hl.symm
    rw [this]
  · have q2 : B ≠ [] := fun z => q (by subst z; exact List.length_eq_zero_iff.mp hl)
    unfold textOf at h
    rw [if_neg q, if_neg q2] at h
    have e1 := SX.spl_join (c := 62) (sep := []) (parts := A.map (TL.joinL [61])) (by simpa using q) (fun p hp => by
      obtain ⟨a, h1, rfl⟩ := List.mem_map.mp hp
      exact no_sep (by decide) fun p hp => ((ha a h1).2 p hp).2)
    have e2 := SX.spl_join (c := 62) (sep := []) (parts := B.map (TL.joinL [61])) (by simpa using q2) (fun p hp => by
      obtain ⟨a, h1, rfl⟩ := List.mem_map.mp hp
      exact no_sep (by decide) fun p hp => ((hb a h1).2 p hp).2)
    rw [h] at e1
    have e3 : A.map (TL.joinL [61]) = B.map (TL.joinL [61]) := e1.symm.trans e2
    clear h e1 e2 q q2
    induction A generalizing B with
    | nil => exact (List.length_eq_zero_iff.mp hl.symm).symm
    | cons a A ih =>
      cases B with
      | nil => cases hl
      | cons b B =>
        simp only [List.map_cons, List.cons.injEq] at e3
        have h1 := ha a List.mem_cons_self
        have h2 := hb b List.mem_cons_self
        rw [tier_inj h1.1 h2.1 (fun p hp => (h1.2 p hp).1) (fun p hp => (h2.2 p hp).1) e3.1, ih (by simpa using hl) (fun x hx => ha x (List.mem_cons_of_mem _ hx)) (fun x hx => hb x (List.mem_cons_of_mem _ hx)) e3.2]
theorem Pair.text_iff (P : Pair V W) {sl : List Nat} (hs : SlipOk W.length sl) : slipT V ((sl.map (tierW W)).map (rdT V)) = textOf (sl.map (tierW W)) ↔ ∀ m ∈ sl, ordered V W m := by
  have T := P.tiers_ok hs
  rw [slipT_of]
  have parts : ∀ {U : Wd'}, WordsOk U → ∀ ws : Wd', (∀ w ∈ ws, w ∈ U) → ∀ p ∈ ws, 61 ∉ p ∧ 62 ∉ p := fun hU ws h p hp => ⟨hU.no (h p hp) (by decide), hU.no (h p hp) (by decide)⟩
  have memV : ∀ x, ∀ w ∈ tierW V x, w ∈ V := fun x w hw => by
    obtain ⟨i, hi, rfl⟩ := List.mem_map.mp hw
    exact word_mem (bits_mem.mp hi).1
  constructor
  · intro h m hm
    have e := text_inj (by simp) (fun a ha => ?_) (fun b hb => ?_) h
    · rw [P.ord_iff]
      rw [List.map_map, List.map_map] at e
      have := List.map_inj_left.mp e m hm
      exact this
    · obtain ⟨x, hx, rfl⟩ := List.mem_map.mp ha
      have hp := T.pos x hx
      exact ⟨fun z => bits_ne hp.1 hp.2 (List.map_eq_nil_iff.mp z), parts P.v _ (memV x)⟩
    · exact ⟨(T.tier b hb).1, parts P.v _ (T.tier b hb).2.1⟩
  · intro h
    congr 1
    rw [List.map_map, List.map_map]
    apply List.map_congr_left
    intro m hm
    exact (P.ord_iff m).mp (h m hm)
end
theorem Pair.self {W : Wd'} (h : WordsOk W) : Pair W W := ⟨h, h, List.Perm.refl _⟩
theorem self_rd {W : Wd'} (h : WordsOk W) {m : Nat} (hm : m < 2 ^ W.length) : rdT W (tierW W m) = m := by
  apply Nat.eq_of_testBit_eq
  intro j
  rw [rd_bit, any_spots]
  have e : spots W W m = bits m W.length := by
    unfold spots
    have : (bits m W.length).map (fun i => W.idxOf (W[i]?.getD [])) = (bits m W.length).map _root_.id := by
      apply List.map_congr_left
      intro i hi
      have hi := (bits_mem.mp hi).1
      rw [word_at hi, h.nd.idxOf_getElem]
      rfl
    rw [this, List.map_id]
  rw [e]
  by_cases q : j ∈ bits m W.length
  · rw [decide_eq_true q, (bits_mem.mp q).2]
  · rw [decide_eq_false q]
    by_cases hj : j < W.length
    · cases t : m.testBit j with
      | false => rfl
      | true => exact (q (bits_mem.mpr ⟨hj, t⟩)).elim
    · rw [Nat.testBit_lt_two_pow (Nat.lt_of_lt_of_le hm (Nat.pow_le_pow_right (by decide) (by omega)))]
theorem self_rds {W : Wd'} (h : WordsOk W) {sl : List Nat} (hs : SlipOk W.length sl) : (sl.map (tierW W)).map (rdT W) = sl := by
  rw [List.map_map]
  have : sl.map (rdT W ∘ tierW W) = sl.map _root_.id := by
    apply List.map_congr_left
    intro m hm
    exact self_rd h (hs.bits m hm).2
  rw [this, List.map_id]
end K84

namespace K84
open PySem L2 VL

/-! ### data compared with itself, shown -/
mutual
theorem eqv_me : ∀ d : D, d.plain = true → PyData.eqv d.py d.py = true
  | .non, _ => by simp only [D.py, PyData.eqv]
  | .bl b, _ => by simp [D.py, PyData.eqv]
  | .int b, _ => by simp [D.py, PyData.eqv]
  | .str b, _ => by simp only [D.py, PyData.eqv]; exact beq_self_eq_true b
  | .tup ds, p => by simp only [D.plain] at p; simp only [D.py, PyData.eqv]; exact eqvs_me ds p
  | .lst ds, p => by simp only [D.plain] at p; simp only [D.py, PyData.eqv]; exact eqvs_me ds p
  | .dct ds, p => by simp [D.plain] at p
  | .obj c ds, p => by simp [D.plain] at p
theorem eqvs_me : ∀ ds : List D, D.plains ds = true → PyData.eqvAll (D.pys ds) (D.pys ds) = true
  | [], _ => by simp only [D.pys, PyData.eqvAll]
  | d :: ds, p => by
    simp only [D.plains, Bool.and_eq_true] at p
    simp only [D.pys, PyData.eqvAll, eqv_me d p.1, eqvs_me ds p.2, Bool.and_self]
end
theorem eq_me {d : D} (h : okEq d = true) : eqD d d = some (.bl true) := by
  have p : d.plain = true := (Bool.and_eq_true_iff.mp h).1
  have e := eqv_me d p
  cases d <;> first | (simp [eqD]; done) | (simp only [eqD, h, Bool.and_self, if_true, e])
theorem ne_me {d : D} (h : okEq d = true) : neD d d = some (.bl false) := by
  have p : d.plain = true := (Bool.and_eq_true_iff.mp h).1
  have e := eqv_me d p
  cases d <;> first | (simp [neD]; done) | (simp only [neD, h, Bool.and_self, if_true, e, Bool.not_true])
/-- what is compared and shown: told by parts -/
structure Fine (w dp : Nat) (d : D) : Prop where
  plain : d.plain = true
  lay : d.py.canLay0 = true
  depth : d.py.depth ≤ dp
  show_ : d.py.showable = true
  leaf : d.py.leavesShort 40 = true
  weight : d.py.weight ≤ w
structure Fines (w dp : Nat) (ds : List D) : Prop where
  plain : D.plains ds = true
  lay : PyData.canLayAll0 (D.pys ds) = true
  depth : PyData.depthAll (D.pys ds) ≤ dp
  show_ : PyData.showableAll (D.pys ds) = true
  leaf : PyData.leavesShortAll 40 (D.pys ds) = true
  weight : PyData.weightAll (D.pys ds) ≤ w
theorem Fines.nil {dp : Nat} : Fines 0 dp [] := ⟨rfl, rfl, Nat.zero_le _, rfl, rfl, Nat.le_refl _⟩
theorem Fines.cons {w w' dp : Nat} {d : D} {ds : List D} (h : Fine w dp d) (t : Fines w' dp ds) : Fines (w + 1 + w') dp (d :: ds) := by
  refine ⟨?_, ?_, ?_, ?_, ?_, ?_⟩
  · simp only [D.plains, h.plain, t.plain, Bool.and_self]
  · simp only [D.pys, PyData.canLayAll0, h.lay, t.lay, Bool.and_self]
  · simp only [D.pys, PyData.depthAll]; exact Nat.max_le.mpr ⟨h.depth, t.depth⟩
  · simp only [D.pys, PyData.showableAll, h.show_, t.show_, Bool.and_self]
  · simp only [D.pys, PyData.leavesShortAll, h.leaf, t.leaf, Bool.and_self]
  · simp only [D.pys, PyData.weightAll]; have := h.weight; have := t.weight; omega
theorem Fine.tup {w dp : Nat} {ds : List D} (h : Fines w dp ds) : Fine w (dp + 1) (.tup ds) := by
  refine ⟨?_, ?_, ?_, ?_, ?_, ?_⟩
  · simp only [D.plain, h.plain]
  · simp only [D.py, PyData.canLay0, h.lay]
  · simp only [D.py, PyData.depth]; have := h.depth; omega
  · simp only [D.py, PyData.showable, h.show_]
  · simp only [D.py, PyData.leavesShort, h.leaf]
  · simp only [D.py, PyData.weight]; exact h.weight
theorem Fine.lst {w dp : Nat} {ds : List D} (h : Fines w dp ds) : Fine w (dp + 1) (.lst ds) := by
  refine ⟨?_, ?_, ?_, ?_, ?_, ?_⟩
  · simp only [D.plain, h.plain]
  · simp only [D.py, PyData.canLay0, h.lay]
  · simp only [D.py, PyData.depth]; have := h.depth; omega
  · simp only [D.py, PyData.showable, h.show_]
  · simp only [D.py, PyData.leavesShort, h.leaf]
  · simp only [D.py, PyData.weight]; exact h.weight
theorem Fine.mono {w w' dp dp' : Nat} {d : D} (h : Fine w dp d) (h1 : w ≤ w') (h2 : dp ≤ dp') : Fine w' dp' d := ⟨h.plain, h.lay, Nat.le_trans h.depth h2, h.show_, h.leaf, Nat.le_trans h.weight h1⟩
theorem Fine.str {w dp : Nat} {a : List Nat} (h : ∀ c ∈ a, c < 128) (hl : a.length ≤ w) : Fine w dp (.str (SX.S a)) := by
  have o := ok_str h
  unfold okEq SeqAt.shaped at o
  simp only [Bool.and_eq_true] at o
  refine ⟨by simp only [D.plain], o.2.1, by simp only [D.py, PyData.depth]; omega, by simp only [D.py, PyData.showable], ?_, ?_⟩
  · simp only [D.py, PyData.leavesShort]
    exact List.all_eq_true.mpr fun c hc => decide_eq_true (by have := h c hc; omega)
  · simp only [D.py, PyData.weight]
    show (SX.S a).cps.size ≤ w
    simpa using hl
theorem Fine.int {w dp n : Nat} (hn : n < 10 ^ 20) (hw : 80 ≤ w) : Fine w dp (.int ((n : Nat) : Int)) := by
  refine ⟨by simp only [D.plain], by simp only [D.py, PyData.canLay0], by simp only [D.py, PyData.depth]; omega, ?_, ?_, ?_⟩
  · simp only [D.py, PyData.showable]; exact decide_eq_true (log_small hn)
  · simp only [D.py, PyData.leavesShort, PyData.shown]
    refine decide_eq_true ?_
    rw [show (Str.ofString (toString ((n : Nat) : Int))) = SX.S (TL.numL n) from SX.num_S n, SX.S_len]
    have := TL.numL_len (k := 20) (by decide) hn
    omega
  · simp only [D.py, PyData.weight, Int.natAbs_natCast]
    split
    · omega
    · rename_i q
      have q : ¬ n = 0 := fun z => q (by subst z; rfl)
      have := (Nat.log2_lt (k := 67) q).mpr (Nat.lt_of_lt_of_le hn (by decide))
      omega
theorem Fine.non {dp : Nat} : Fine 0 dp .non := ⟨rfl, rfl, Nat.zero_le _, rfl, rfl, Nat.le_refl _⟩
theorem Fine.eq {w dp : Nat} {d : D} (h : Fine w dp d) (hd : dp ≤ 64) : okEq d = true := by
  unfold okEq SeqAt.shaped
  rw [h.plain, h.lay, decide_eq_true (Nat.le_trans h.depth hd)]
  rfl
theorem Fine.repr {w dp : Nat} {d : D} (h : Fine w dp d) (hd : dp ≤ 64) (hw : w ≤ 300000) : okRepr d = true := by
  have s := PyData.shown_le 40 (by decide) d.py h.leaf
  have hz : d.py.shown.length ≤ sizeLine := by
    have := h.weight
    have e : sizeLine = 16777216 := by decide
    rw [e]
    have : (40 + 2) * d.py.weight ≤ 42 * 300000 := Nat.mul_le_mul_left _ (by omega)
    omega
  unfold okRepr
  rw [h.plain, h.show_, decide_eq_true hz, decide_eq_true (Nat.le_trans h.depth hd)]
  rfl
theorem Fine.alike {w dp : Nat} {d : D} (h : Fine w dp d) (hd : dp ≤ 64) (hw : w ≤ 300000) (hb : isBox d = true) : F__law_alike [d, d] = .ok (.bl true) [d, d] := alike_ok (eq_me (h.eq hd)) (h.repr hd hw) hb
end K84

namespace K84
open PySem L2 VL

theorem sz1 : 1 ≤ sizeLine := by decide
theorem sz2 : 2 ≤ sizeLine := by decide
theorem pow9 : powD (.int 10) (.int 9) = some (.int 1000000000) := by rw [pow_i (by unfold CPow; decide)]; rfl
theorem pow12 : powD (.int 10) (.int 12) = some (.int 1000000000000) := by rw [pow_i (by unfold CPow; decide)]; rfl
theorem pow6 : powD (.int 10) (.int 6) = some (.int 1000000) := by rw [pow_i (by unfold CPow; decide)]; rfl
theorem p2 {b s : D} (hb : BagOk b) (x3 x4 x5 x6 x7 x8 x9 xa xb xc xd xe xf : D) : ∃ h b', P2_law [s, b, .non, x3, x4, x5, x6, x7, x8, x9, xa, xb, xc, xd, xe, xf] = .ok .nx [s, b', .int ((h : Nat) : Int), x3, x4, x5, x6, x7, x8, x9, xa, xb, xc, xd, xe, xf] ∧ BagOk b' ∧ 1 ≤ h ∧ h ≤ 12 := by
  obtain ⟨r1, b1, e1, hb1, l1, u1⟩ := take_ok (n := 5) hb (by decide) (by decide)
  obtain ⟨r2, b2, e2, hb2, l2, u2⟩ := take_ok (n := 12) hb1 (by decide) (by decide)
  obtain ⟨r3, b3, e3, hb3, l3, u3⟩ := take_ok (n := 3) hb2 (by decide) (by decide)
  have sz3 : 3 ≤ sizeLine := by decide
  by_cases h0 : r3 = 0
  · subst h0
    refine ⟨3, b3, ?_, hb3, by omega, by omega⟩
    unfold P2_law
    simp [e1, e2, e3, sz3]
  by_cases h1 : r3 = 1
  · subst h1
    obtain ⟨k, rfl⟩ := Int.eq_ofNat_of_zero_le l1
    refine ⟨1 + k, b3, ?_, hb3, by omega, by omega⟩
    unfold P2_law
    simp [e1, e2, e3, sz3]
  have h2 : r3 = 2 := by omega
  subst h2
  obtain ⟨k, rfl⟩ := Int.eq_ofNat_of_zero_le l2
  refine ⟨1 + k, b3, ?_, hb3, by omega, by omega⟩
  unfold P2_law
  simp [e1, e2, e3, sz3]
theorem p5 {b s : D} (hb : BagOk b) {h : Nat} (h1 : 1 ≤ h) (hh : h ≤ 12) (x3 x4 x5 x6 x7 x9 xa xb xc xd xe xf : D) : ∃ sl b', P5_law [s, b, .int ((h : Nat) : Int), x3, x4, x5, x6, x7, .non, x9, xa, xb, xc, xd, xe, xf] = .ok .nx [s, b', .int ((h : Nat) : Int), x3, x4, x5, x6, x7, slipD sl, x9, xa, xb, xc, xd, xe, xf] ∧ BagOk b' ∧ SlipOk h sl := by
  obtain ⟨sl, b', e, hb', hs⟩ := slip_ok hb h1 hh
  refine ⟨sl, b', ?_, hb', hs⟩
  generalize slipD sl = sd at *
  unfold P5_law
  simp [e]
theorem p6 {b s : D} (hb : BagOk b) (sd x2 x3 x4 x5 x6 x7 xa xb xc xd xe xf : D) : ∃ n b', P6_law [s, b, x2, x3, x4, x5, x6, x7, sd, .non, xa, xb, xc, xd, xe, xf] = .ok .nx [s, b', x2, x3, x4, x5, x6, x7, sd, .tup [sd, .int ((n : Nat) : Int)], xa, xb, xc, xd, xe, xf] ∧ BagOk b' ∧ 1 ≤ n ∧ n ≤ 1000000000 := by
  obtain ⟨r1, b1, e1, hb1, l1, u1⟩ := take_ok (n := 2) hb (by decide) (by decide)
  by_cases h0 : r1 = 0
  · subst h0
    obtain ⟨r2, b2, e2, hb2, l2, u2⟩ := take_ok (n := 3) hb1 (by decide) (by decide)
    obtain ⟨k, rfl⟩ := Int.eq_ofNat_of_zero_le l2
    refine ⟨1 + k, b2, ?_, hb2, by omega, by omega⟩
    unfold P6_law
    simp [e1, e2, sz2, pow9]
  · have : r1 = 1 := by omega
    subst this
    obtain ⟨r2, b2, e2, hb2, l2, u2⟩ := take_ok (n := 1000000000) hb1 (by decide) (by decide)
    obtain ⟨k, rfl⟩ := Int.eq_ofNat_of_zero_le l2
    refine ⟨1 + k, b2, ?_, hb2, by omega, by omega⟩
    unfold P6_law
    simp [e1, e2, sz2, pow9]
theorem p10 {b s : D} (hb : BagOk b) (sd x2 x3 x4 x5 x6 x7 x9 xa xc xd xe xf : D) : ∃ n b', P10_law [s, b, x2, x3, x4, x5, x6, x7, sd, x9, xa, .non, xc, xd, xe, xf] = .ok .nx [s, b', x2, x3, x4, x5, x6, x7, sd, x9, xa, .tup [sd, .int ((n : Nat) : Int)], xc, xd, xe, xf] ∧ BagOk b' ∧ 1000000001 ≤ n ∧ n ≤ 1000000000000 := by
  obtain ⟨r1, b1, e1, hb1, l1, u1⟩ := take_ok (n := 1000000) hb (by decide) (by decide)
  refine ⟨(1000000000000 - r1).toNat, b1, ?_, hb1, by omega, by omega⟩
  have e : (((1000000000000 - r1).toNat : Nat) : Int) = 1000000000000 - r1 := by omega
  rw [e]
  unfold P10_law
  simp [e1, sz2, pow12, pow6]
end K84

namespace K84
open PySem L2 VL

theorem SlipOk.sl {h : Nat} {sl : List Nat} (hs : SlipOk h sl) : SlOk h sl := ⟨fun m hm => (hs.bits m hm).2, Nat.le_trans hs.few (by decide)⟩
theorem none_ne : neD (.tup [.str "none", .non]) (.tup [.str "none", .non]) = some (.bl false) := ne_me (by decide +kernel)
section
variable {W V : Wd'} (hW : WordsOk W) {sl : List Nat} (hs : SlipOk W.length sl)
include hW hs
theorem p7 {n : Nat} (hn : n < 10 ^ 20) (s b x2 x4 x5 x6 x7 xb xc xd xe xf : D) : P7_law [s, b, x2, wordsD W, x4, x5, x6, x7, slipD sl, .tup [slipD sl, .int ((n : Nat) : Int)], .non, xb, xc, xd, xe, xf] =
    .ok .nx [s, b, x2, wordsD W, x4, x5, x6, x7, slipD sl, .tup [slipD sl, .int ((n : Nat) : Int)], .lst [.str (SX.S (slipT W sl)), .str (SX.S (lineT W sl n))], xb, xc, xd, xe, xf] := by
  have e1 := law_slip_text_ok hW.toWOk hs.sl
  have e2 := law_line_text_ok hW.toWOk hs.sl hn
  generalize slipD sl = sd at *
  generalize wordsD W = wd at *
  unfold P7_law
  simp [e1, e2, sz2]
theorem slipT_lo : ∀ c ∈ slipT W sl, c < 128 := by
  rw [slipT_of]
  unfold textOf
  split
  · decide
  · have j : ∀ {sep : Nat} {ps : Wd'}, sep < 128 → (∀ p ∈ ps, ∀ c ∈ p, c < 128) → ∀ c ∈ TL.joinL [sep] ps, c < 128 := by
      intro sep ps hsep
      induction ps with
      | nil => intro _ c hc; simp [TL.joinL] at hc
      | cons p r ih =>
        intro h
        cases r with
        | nil => exact h p (by simp)
        | cons q r =>
          intro c hc
          have hc : c ∈ p ++ ([sep] ++ TL.joinL [sep] (q :: r)) := by simpa [TL.joinL] using hc
          rcases List.mem_append.mp hc with hc | hc
          · exact h p (by simp) c hc
          · rcases List.mem_append.mp hc with hc | hc
            · simp at hc; omega
            · exact ih (fun p hp => h p (List.mem_cons_of_mem _ hp)) c hc
    refine j (by decide) fun p hp => ?_
    obtain ⟨ws, hws, rfl⟩ := List.mem_map.mp hp
    obtain ⟨m, hm, rfl⟩ := List.mem_map.mp hws
    refine j (by decide) fun p hp => ?_
    unfold tierW at hp
    obtain ⟨i, hi, rfl⟩ := List.mem_map.mp hp
    exact hW.lo _ (word_mem (bits_lt hi))
theorem lineT_lo (n : Nat) : ∀ c ∈ lineT W sl n, c < 128 := fun c hc => by
  unfold lineT at hc
  rcases List.mem_append.mp hc with hc | hc
  · apply Decidable.byContradiction; intro q; exact TL.numL_free (n := n) (s := c) (by omega) hc
  · rcases List.mem_cons.mp hc with rfl | hc
    · decide
    · exact slipT_lo hW hs c hc
theorem slipT_short : (slipT W sl).length ≤ 1308 := slipT_len hW.toWOk hs.sl.few
theorem lineT_short {n : Nat} (hn : n < 10 ^ 20) : (lineT W sl n).length ≤ 1340 := by
  unfold lineT
  have := slipT_short hW hs
  have nl := TL.numL_len (k := 20) (by decide) hn
  rw [List.length_append, List.length_cons]
  omega
theorem p9 {n : Nat} (hn : n < 10 ^ 20) (s b x2 x4 x6 x7 xb xc xd xe xf : D) : P9_law [s, b, x2, wordsD W, x4, wordsD W, x6, x7, slipD sl, .tup [slipD sl, .int ((n : Nat) : Int)], .lst [.str (SX.S (slipT W sl)), .str (SX.S (lineT W sl n))], xb, xc, xd, xe, xf] =
    .ok .nx [s, b, x2, wordsD W, x4, wordsD W, x6, x7, slipD sl, .tup [slipD sl, .int ((n : Nat) : Int)], .lst [.str (SX.S (slipT W sl)), .str (SX.S (lineT W sl n))], xb, xc, xd, xe, xf] := by
  have e1 := show_slip_ok hW.toWOk hs.sl
  have e2 := show_line_ok hW.toWOk hs.sl hn
  have f1 : Fine 1340 0 (.str (SX.S (slipT W sl))) := Fine.str (slipT_lo hW hs) (Nat.le_trans (slipT_short hW hs) (by decide))
  have f2 : Fine 1340 0 (.str (SX.S (lineT W sl n))) := Fine.str (lineT_lo hW hs n) (lineT_short hW hs hn)
  have f := Fine.lst (Fines.cons f1 (Fines.cons f2 Fines.nil))
  have e3 := f.alike (by decide) (by decide) rfl
  have e4 := ne_me (ok_words hW.lo)
  generalize slipD sl = sd at *
  generalize wordsD W = wd at *
  generalize SX.S (slipT W sl) = t1 at *
  generalize SX.S (lineT W sl n) = t2 at *
  unfold P9_law
  simp [e1, e2, e3, e4, sz2]
theorem p12 {n : Nat} (hn : n < 10 ^ 20) (s b x2 x4 x5 x6 x7 x8 x9 xa xc xd xe xf : D) : P12_law [s, b, x2, wordsD W, x4, x5, x6, x7, x8, x9, xa, .tup [slipD sl, .int ((n : Nat) : Int)], xc, xd, xe, xf] =
    .ok .nx [s, b, x2, wordsD W, x4, x5, x6, x7, x8, x9, xa, .tup [slipD sl, .int ((n : Nat) : Int)], xc, xd, xe, xf] := by
  have e1 := law_line_text_ok hW.toWOk hs.sl hn
  have e2 := show_line_ok hW.toWOk hs.sl hn
  have f2 : Fine 1340 0 (.str (SX.S (lineT W sl n))) := Fine.str (lineT_lo hW hs n) (lineT_short hW hs hn)
  have e3 := F__law_alike
  have e3 : F__law_alike [.str (SX.S (lineT W sl n)), .str (SX.S (lineT W sl n))] = .ok (.bl true) [.str (SX.S (lineT W sl n)), .str (SX.S (lineT W sl n))] := f2.alike (by decide) (by decide) rfl
  generalize slipD sl = sd at *
  generalize wordsD W = wd at *
  generalize SX.S (lineT W sl n) = t2 at *
  unfold P12_law
  simp [e1, e2, e3, sz2]
theorem l1 {n : Nat} (hn : n < 10 ^ 20) (hb : n = 0 ∨ 1000000000 < n) (s b x2 x4 x5 x6 x7 x9 xa xb xe xf : D) : L1_law [s, b, x2, wordsD W, x4, x5, x6, x7, slipD sl, x9, xa, xb, .int ((n : Nat) : Int), .non, xe, xf] =
    .ok .nx [s, b, x2, wordsD W, x4, x5, x6, x7, slipD sl, x9, xa, xb, .non, .non, xe, xf] := by
  have e1 := law_line_text_ok hW.toWOk hs.sl hn
  have e2 := read_line_ok hW ((Pair.self hW).tiers_ok hs) hn
  rw [if_neg (by omega), ← slipT_of] at e2
  have e2 : F_read_line [.str (SX.S (lineT W sl n)), wordsD W] = .err "NoText" [.str (SX.S (lineT W sl n)), wordsD W] := e2
  have e3 := none_ne
  generalize slipD sl = sd at *
  generalize wordsD W = wd at *
  generalize SX.S (lineT W sl n) = t2 at *
  unfold L1_law P13_law P15_law
  simp [e1, sz2]
  simp [readM, e2, m1T, mergeE_self, e3, sz2]
end
end K84

namespace K84
open PySem L2 VL

theorem back_3v (ds ρ : List D) : backK [.val, .val, .val] ds ρ = ρ := by
  rcases ds with _ | ⟨a, _ | ⟨b, _ | ⟨c, r⟩⟩⟩ <;> rfl
theorem fine_nats : ∀ l : List Nat, (∀ m ∈ l, m < 10 ^ 20) → Fines (81 * l.length) 0 (nats l)
  | [], _ => Fines.nil
  | m :: l, h => by
    have := Fines.cons (Fine.int (dp := 0) (n := m) (h m (by simp)) (Nat.le_refl 80)) (fine_nats l fun x hx => h x (List.mem_cons_of_mem _ hx))
    rw [List.length_cons]
    rw [show 81 * (l.length + 1) = 80 + 1 + 81 * l.length by omega]
    exact this
def toldD (sl : List Nat) (n : Nat) : D := .lst [.tup [.str "told", slipD sl], .tup [.str "told", .tup [slipD sl, .int ((n : Nat) : Int)]]]
theorem fine_told : Fine 4 0 (.str "told") := by
  rw [show ("told" : Str) = SX.S [116, 111, 108, 100] from rfl]
  exact Fine.str (by decide) (by decide)
theorem told_alike {sl : List Nat} (h : ∀ m ∈ sl, m < 10 ^ 20) (hl : sl.length ≤ 3) {n : Nat} (hn : n < 10 ^ 20) : F__law_alike [toldD sl n, toldD sl n] = .ok (.bl true) [toldD sl n, toldD sl n] := by
  have f := Fine.tup (fine_nats sl h)
  have f : Fine 243 1 (slipD sl) := f.mono (by omega) (by omega)
  have g : Fine 80 1 (.int ((n : Nat) : Int)) := Fine.int hn (Nat.le_refl _)
  have t : Fine 4 2 (.str "told") := fine_told.mono (Nat.le_refl _) (by omega)
  have l := Fine.tup (Fines.cons f (Fines.cons g Fines.nil))
  have a := Fine.tup (Fines.cons t (Fines.cons (f.mono (Nat.le_refl _) (by decide)) Fines.nil))
  have b := Fine.tup (Fines.cons t (Fines.cons l Fines.nil))
  have z := Fine.lst (Fines.cons a (Fines.cons b Fines.nil))
  exact z.alike (by decide) (by decide) rfl
section
variable {W V : Wd'} (P : Pair V W) {sl : List Nat} (hs : SlipOk W.length sl)
include P hs
theorem rds_eq : (sl.map (tierW W)).map (rdT V) = sl.map (sums V W) := by
  rw [List.map_map]
  exact List.map_congr_left fun m _ => (P.sums_eq m).symm
theorem rdS_t (q : ∀ m ∈ sl, ordered V W m) : F_read_slip [.str (SX.S (slipT W sl)), wordsD V] = .ok (slipD (sl.map (sums V W))) [.str (SX.S (slipT W sl)), wordsD V] := by
  have e := read_slip_ok P.v (P.tiers_ok hs)
  rw [if_pos ((P.text_iff hs).mpr q), rds_eq P hs, ← slipT_of] at e
  exact e
theorem rdS_f (q : ¬ ∀ m ∈ sl, ordered V W m) : F_read_slip [.str (SX.S (slipT W sl)), wordsD V] = .err "NoText" [.str (SX.S (slipT W sl)), wordsD V] := by
  have e := read_slip_ok P.v (P.tiers_ok hs)
  rw [if_neg (fun z => q ((P.text_iff hs).mp z)), ← slipT_of] at e
  exact e
theorem rdL_t {n : Nat} (h1 : 1 ≤ n) (h2 : n ≤ 1000000000) (q : ∀ m ∈ sl, ordered V W m) : F_read_line [.str (SX.S (lineT W sl n)), wordsD V] = .ok (.tup [slipD (sl.map (sums V W)), .int ((n : Nat) : Int)]) [.str (SX.S (lineT W sl n)), wordsD V] := by
  have e := read_line_ok P.v (P.tiers_ok hs) (n := n) (Nat.lt_of_le_of_lt h2 (by decide))
  rw [if_pos ⟨(P.text_iff hs).mpr q, h1, h2⟩, rds_eq P hs, ← slipT_of] at e
  exact e
theorem rdL_f {n : Nat} (hn : n < 10 ^ 20) (q : ¬ ∀ m ∈ sl, ordered V W m) : F_read_line [.str (SX.S (lineT W sl n)), wordsD V] = .err "NoText" [.str (SX.S (lineT W sl n)), wordsD V] := by
  have e := read_line_ok P.v (P.tiers_ok hs) (n := n) hn
  rw [if_neg (fun z => q ((P.text_iff hs).mp z.1)), ← slipT_of] at e
  exact e
theorem sums_lt : ∀ m ∈ sl.map (sums V W), m < 10 ^ 20 := fun m hm => by
  have := ((P.tiers_ok hs).pos m (by rw [rds_eq P hs]; exact hm)).2
  have l := P.v.len
  exact Nat.lt_of_lt_of_le this (Nat.le_trans (Nat.pow_le_pow_right (by decide) l) (by decide))
end
section
variable {W : Wd'} (hW : WordsOk W) {sl : List Nat} (hs : SlipOk W.length sl)
include hW hs
theorem own_ord : ∀ m ∈ sl, ordered W W m := ((Pair.self hW).text_iff hs).mp (by rw [self_rds hW hs, slipT_of])
theorem own_sums : sl.map (sums W W) = sl := by rw [← rds_eq (Pair.self hW) hs, self_rds hW hs]
theorem own_S : F_read_slip [.str (SX.S (slipT W sl)), wordsD W] = .ok (slipD sl) [.str (SX.S (slipT W sl)), wordsD W] := by
  have e := rdS_t (Pair.self hW) hs (own_ord hW hs)
  rwa [own_sums hW hs] at e
theorem own_L {n : Nat} (h1 : 1 ≤ n) (h2 : n ≤ 1000000000) : F_read_line [.str (SX.S (lineT W sl n)), wordsD W] = .ok (.tup [slipD sl, .int ((n : Nat) : Int)]) [.str (SX.S (lineT W sl n)), wordsD W] := by
  have e := rdL_t (Pair.self hW) hs h1 h2 (own_ord hW hs)
  rwa [own_sums hW hs] at e
theorem p16 (s b x2 x4 x5 x6 x7 x8 x9 xb xc xd xf t2 : D) : P16_law [s, b, x2, wordsD W, x4, x5, x6, x7, x8, x9, .lst [.str (SX.S (slipT W sl)), t2], xb, xc, xd, .non, xf] =
    .ok .nx [s, b, x2, wordsD W, x4, x5, x6, x7, x8, x9, .lst [.str (SX.S (slipT W sl)), t2], xb, xc, xd, .lst [.tup [.str "told", slipD sl]], xf] := by
  have e := own_S hW hs
  generalize slipD sl = sd at *
  generalize wordsD W = wd at *
  generalize SX.S (slipT W sl) = t at *
  unfold P16_law
  simp [readM, e, sz1]
theorem p17 {n : Nat} (h1 : 1 ≤ n) (h2 : n ≤ 1000000000) (s b x2 x4 x5 x6 x7 x8 x9 xb xc xd xf t1 : D) : P17_law [s, b, x2, wordsD W, x4, x5, x6, x7, x8, x9, .lst [t1, .str (SX.S (lineT W sl n))], xb, xc, xd, .lst [.tup [.str "told", slipD sl]], xf] =
    .ok .nx [s, b, x2, wordsD W, x4, x5, x6, x7, x8, x9, .lst [t1, .str (SX.S (lineT W sl n))], xb, xc, xd, toldD sl n, xf] := by
  have e := own_L hW hs h1 h2
  unfold toldD
  generalize slipD sl = sd at *
  generalize wordsD W = wd at *
  generalize SX.S (lineT W sl n) = t at *
  unfold P17_law
  simp [readM, e, sz1, appL, show 1 < sizeLine from by decide]
end
def KnOk (W : Wd') (k : Nat) (ks : List (Key × D)) : Prop := ks.length ≤ k ∧ ∀ kv ∈ ks, ∃ sl, SlipOk W.length sl ∧ kv = (.inr (SX.S (slipT W sl)), slipD sl)
theorem known_ok {W : Wd'} (hW : WordsOk W) {sl : List Nat} (hs : SlipOk W.length sl) {k : Nat} {ks : List (Key × D)} (h : KnOk W k ks) : (valD ks (.inr (SX.S (slipT W sl))) = some (slipD sl)) ∨ (valD ks (.inr (SX.S (slipT W sl))) = none ∧ KnOk W (k + 1) (putD ks (.inr (SX.S (slipT W sl))) (slipD sl))) := by
  cases e : valD ks (.inr (SX.S (slipT W sl))) with
  | some d =>
    refine .inl ?_
    unfold valD at e
    obtain ⟨kv, hf, rfl⟩ := Option.map_eq_some_iff.mp e
    have hm := List.mem_of_find?_eq_some hf
    have hk := List.find?_some hf
    have hk : kv.1 = .inr (SX.S (slipT W sl)) := by simpa using hk
    obtain ⟨sl2, hs2, rfl⟩ := h.2 kv hm
    have hk : SX.S (slipT W sl2) = SX.S (slipT W sl) := by injection hk
    have e1 := own_S hW hs2
    rw [hk, own_S hW hs] at e1
    injection e1 with e1
    rw [e1]
  | none =>
    refine .inr ⟨rfl, ?_⟩
    unfold valD at e
    have e := List.find?_eq_none.mp (Option.map_eq_none_iff.mp e)
    have na : ¬ (ks.any fun kv => decide (kv.1 = .inr (SX.S (slipT W sl)))) = true := by
      intro z
      obtain ⟨kv, hm, hk⟩ := List.any_eq_true.mp z
      exact e kv hm hk
    unfold putD
    rw [if_neg na]
    refine ⟨by rw [List.length_append]; have := h.1; simp; omega, fun kv hm => ?_⟩
    rcases List.mem_append.mp hm with hm | hm
    · exact h.2 kv hm
    · rw [List.mem_singleton] at hm
      exact ⟨sl, hs, hm⟩
theorem p19 {W : Wd'} (hW : WordsOk W) {sl : List Nat} (hs : SlipOk W.length sl) {k : Nat} {ks : List (Key × D)} (h : KnOk W k ks) (hk : k ≤ 1000) {n : Nat} (hn : n < 10 ^ 20) (s b x2 x3 x4 x5 x7 t2 xb xc xd xf : D) :
    ∃ ks', P19_law [s, b, x2, x3, x4, x5, .dct ks, x7, slipD sl, .tup [slipD sl, .int ((n : Nat) : Int)], .lst [.str (SX.S (slipT W sl)), t2], xb, xc, xd, toldD sl n, xf] =
      .ok .nx [s, b, x2, x3, x4, x5, .dct ks', x7, slipD sl, .tup [slipD sl, .int ((n : Nat) : Int)], .lst [.str (SX.S (slipT W sl)), t2], xb, xc, xd, toldD sl n, xf] ∧ KnOk W (k + 1) ks' := by
  have l12 := hW.len
  have e1 := told_alike (sl := sl) (fun m hm => Nat.lt_of_lt_of_le (hs.bits m hm).2 (Nat.le_trans (Nat.pow_le_pow_right (by decide) l12) (by decide))) hs.few hn
  have e2 : neD (slipD sl) (slipD sl) = some (.bl false) := ne_me (okEq_nats _)
  have hz : ks.length < sizeLine := Nat.lt_of_le_of_lt h.1 (Nat.lt_of_le_of_lt hk (by decide))
  have kk := known_ok hW hs h
  have e4 : ∀ x : Str, keyD (.str x) = some (.inr x) := fun _ => rfl
  rcases kk with e3 | ⟨e3, h3⟩
  · refine ⟨ks, ?_, ⟨by have := h.1; omega, h.2⟩⟩
    unfold toldD at *
    generalize slipD sl = sd at *
    generalize SX.S (slipT W sl) = t at *
    unfold P19_law
    simp [e1, sz2, dctS, setdM, e4, e3, hz, e2]
  · refine ⟨_, ?_, h3⟩
    unfold toldD at *
    generalize slipD sl = sd at *
    generalize SX.S (slipT W sl) = t at *
    unfold P19_law
    simp [e1, sz2, dctS, setdM, e4, e3, hz, e2]
section
variable {W V : Wd'} (P : Pair V W) {sl : List Nat} (hs : SlipOk W.length sl)
include P hs
open Classical in
theorem p20 (s b x2 x5 x6 x7 x9 xa xb xc xd xe : D) : P20_law [s, b, x2, wordsD W, wordsD V, x5, x6, x7, slipD sl, x9, xa, xb, xc, xd, xe, .non] =
    .ok .nx [s, b, x2, wordsD W, wordsD V, x5, x6, x7, slipD sl, x9, xa, xb, xc, xd, xe, if ∀ m ∈ sl, ordered V W m then slipD (sl.map (sums V W)) else .non] := by
  have l12 := P.v.len
  obtain ⟨ρ, e⟩ := turned_ok P.w.toWOk (fun w hw => P.mem hw) (by omega) sl (Nat.le_trans hs.few (by decide))
  generalize (if ∀ m ∈ sl, ordered V W m then slipD (sl.map (sums V W)) else D.non) = due at *
  generalize slipD sl = sd at *
  generalize wordsD W = wd at *
  generalize wordsD V = vd at *
  unfold P20_law
  simp [e, back_3v]
theorem p21t (q : ∀ m ∈ sl, ordered V W m) (s b x2 x3 x5 x6 x7 x8 x9 xb xc xd xe xf t2 : D) : P21_law [s, b, x2, x3, wordsD V, x5, x6, x7, x8, x9, .lst [.str (SX.S (slipT W sl)), t2], xb, xc, xd, xe, xf] =
    .ok .nx [s, b, x2, x3, wordsD V, x5, x6, x7, x8, x9, .lst [.str (SX.S (slipT W sl)), t2], xb, xc, xd, .lst [.tup [.str "told", slipD (sl.map (sums V W))]], xf] := by
  have e := rdS_t P hs q
  generalize slipD (sl.map (sums V W)) = sd at *
  generalize wordsD V = wd at *
  generalize SX.S (slipT W sl) = t at *
  unfold P21_law
  simp [readM, e, sz1]
theorem p21f (q : ¬ ∀ m ∈ sl, ordered V W m) (s b x2 x3 x5 x6 x7 x8 x9 xb xc xd xe xf t2 : D) : P21_law [s, b, x2, x3, wordsD V, x5, x6, x7, x8, x9, .lst [.str (SX.S (slipT W sl)), t2], xb, xc, xd, xe, xf] =
    .ok .nx [s, b, x2, x3, wordsD V, x5, x6, x7, x8, x9, .lst [.str (SX.S (slipT W sl)), t2], xb, xc, xd, .lst [.tup [.str "none", .non]], xf] := by
  have e := rdS_f P hs q
  generalize wordsD V = wd at *
  generalize SX.S (slipT W sl) = t at *
  unfold P21_law
  simp [readM, e, sz1, m1T, mergeE_self]
theorem p22t (q : ∀ m ∈ sl, ordered V W m) {n : Nat} (h1 : 1 ≤ n) (h2 : n ≤ 1000000000) (s b x2 x3 x5 x6 x7 x8 x9 xb xc xd xf t1 : D) : P22_law [s, b, x2, x3, wordsD V, x5, x6, x7, x8, x9, .lst [t1, .str (SX.S (lineT W sl n))], xb, xc, xd, .lst [.tup [.str "told", slipD (sl.map (sums V W))]], xf] =
    .ok .nx [s, b, x2, x3, wordsD V, x5, x6, x7, x8, x9, .lst [t1, .str (SX.S (lineT W sl n))], xb, xc, xd, toldD (sl.map (sums V W)) n, xf] := by
  have e := rdL_t P hs h1 h2 q
  unfold toldD
  generalize slipD (sl.map (sums V W)) = sd at *
  generalize wordsD V = wd at *
  generalize SX.S (lineT W sl n) = t at *
  unfold P22_law
  simp [readM, e, sz1, appL, show 1 < sizeLine from by decide]
theorem p22f (q : ¬ ∀ m ∈ sl, ordered V W m) {n : Nat} (hn : n < 10 ^ 20) (s b x2 x3 x5 x6 x7 x8 x9 xb xc xd xf t1 : D) : P22_law [s, b, x2, x3, wordsD V, x5, x6, x7, x8, x9, .lst [t1, .str (SX.S (lineT W sl n))], xb, xc, xd, .lst [.tup [.str "none", .non]], xf] =
    .ok .nx [s, b, x2, x3, wordsD V, x5, x6, x7, x8, x9, .lst [t1, .str (SX.S (lineT W sl n))], xb, xc, xd, .lst [.tup [.str "none", .non], .tup [.str "none", .non]], xf] := by
  have e := rdL_f P hs hn q
  generalize wordsD V = wd at *
  generalize SX.S (lineT W sl n) = t at *
  unfold P22_law
  simp [readM, e, sz1, appL, m1T, mergeE_self, show 1 < sizeLine from by decide]
theorem p26t {n : Nat} (hn : n < 10 ^ 20) (s b x2 x3 x4 x5 x6 x7 x8 x9 xa xb xc xd : D) :
    P24_law [s, b, x2, x3, x4, x5, x6, x7, x8, .tup [x9, .int ((n : Nat) : Int)], xa, xb, xc, xd, toldD (sl.map (sums V W)) n, slipD (sl.map (sums V W))] = .ok .nx [s, b, x2, x3, x4, x5, x6, x7, x8, .tup [x9, .int ((n : Nat) : Int)], xa, xb, xc, xd, toldD (sl.map (sums V W)) n, slipD (sl.map (sums V W))] ∧
    P26_law [s, b, x2, x3, x4, x5, x6, x7, x8, .tup [x9, .int ((n : Nat) : Int)], xa, xb, xc, xd, toldD (sl.map (sums V W)) n, slipD (sl.map (sums V W))] = .ok .nx [s, b, x2, x3, x4, x5, x6, .non, .non, .non, .non, .non, xc, xd, .non, .non] := by
  have e := told_alike (n := n) (sums_lt P hs) (by rw [List.length_map]; exact hs.few) hn
  have i1 : isND (slipD (sl.map (sums V W))) .non = some (.bl false) := rfl
  have i2 : notND (slipD (sl.map (sums V W))) .non = some (.bl true) := rfl
  unfold toldD at *
  generalize slipD (sl.map (sums V W)) = sd at *
  refine ⟨?_, ?_⟩
  · unfold P24_law
    simp [i1]
  · unfold P26_law
    simp [i2, e, sz2]
end
theorem nones_ne : neD (.lst [.tup [.str "none", .non], .tup [.str "none", .non]]) (.lst [.tup [.str "none", .non], .tup [.str "none", .non]]) = some (.bl false) := ne_me (by decide +kernel)
theorem p26f (s b x2 x3 x4 x5 x6 x7 x8 x9 xa xb xc xd : D) :
    P24_law [s, b, x2, x3, x4, x5, x6, x7, x8, x9, xa, xb, xc, xd, .lst [.tup [.str "none", .non], .tup [.str "none", .non]], .non] = .ok .nx [s, b, x2, x3, x4, x5, x6, x7, x8, x9, xa, xb, xc, xd, .lst [.tup [.str "none", .non], .tup [.str "none", .non]], .non] ∧
    P26_law [s, b, x2, x3, x4, x5, x6, x7, x8, x9, xa, xb, xc, xd, .lst [.tup [.str "none", .non], .tup [.str "none", .non]], .non] = .ok .nx [s, b, x2, x3, x4, x5, x6, .non, .non, .non, .non, .non, xc, xd, .non, .non] := by
  have e := nones_ne
  have i1 : isND .non .non = some (.bl true) := rfl
  have i2 : notND .non .non = some (.bl false) := rfl
  refine ⟨?_, ?_⟩
  · unfold P24_law
    simp [i1, sz2, e]
  · unfold P26_law
    simp [i2]
end K84

namespace K84
open PySem L2 VL

theorem loop3 {W : Wd'} (hW : WordsOk W) {sl : List Nat} (hs : SlipOk W.length sl) {g : Nat} (h1 : 1000000001 ≤ g) (h2 : g ≤ 1000000000000) (s b x2 x4 x5 x6 x7 x9 xa xb xe xf : D) :
    loopM (gN 12) L1_law [.int ((g : Nat) : Int), .int 1000000001, .int 0] [s, b, x2, wordsD W, x4, x5, x6, x7, slipD sl, x9, xa, xb, .non, .non, xe, xf] =
      .ok .nx [s, b, x2, wordsD W, x4, x5, x6, x7, slipD sl, x9, xa, xb, .non, .non, xe, xf] := by
  have a1 := l1 hW hs (n := g) (Nat.lt_of_le_of_lt h2 (by decide)) (.inr (by omega)) s b x2 x4 x5 x6 x7 x9 xa xb xe xf
  have a2 : L1_law [s, b, x2, wordsD W, x4, x5, x6, x7, slipD sl, x9, xa, xb, .int 1000000001, .non, xe, xf] = _ := l1 hW hs (n := 1000000001) (by decide) (.inr (by decide)) s b x2 x4 x5 x6 x7 x9 xa xb xe xf
  have a3 : L1_law [s, b, x2, wordsD W, x4, x5, x6, x7, slipD sl, x9, xa, xb, .int 0, .non, xe, xf] = _ := l1 hW hs (n := 0) (by decide) (.inl rfl) s b x2 x4 x5 x6 x7 x9 xa xb xe xf
  rw [loopM_cons (gN_ap _ _ _) a1, loopM_cons (gN_ap _ _ _) a2, loopM_cons (gN_ap _ _ _) a3]
  simp [loopM]
theorem l2 {W V : Wd'} (P : Pair V W) {h : Nat} (hl : W.length = h) (h1 : 1 ≤ h) {b s : D} (hb : BagOk b) {k : Nat} {ks : List (Key × D)} (hk : KnOk W k ks) (hk2 : k ≤ 1000) (tn : D) :
    ∃ b' ks', L2_law [s, b, .int ((h : Nat) : Int), wordsD W, wordsD V, wordsD W, .dct ks, tn, .non, .non, .non, .non, .non, .non, .non, .non] =
      .ok .nx [s, b', .int ((h : Nat) : Int), wordsD W, wordsD V, wordsD W, .dct ks', .non, .non, .non, .non, .non, .non, .non, .non, .non] ∧ BagOk b' ∧ KnOk W (k + 1) ks' := by
  have hW := P.w
  have l12 := hW.len
  obtain ⟨sl, b1, e5, hb1, hs⟩ := p5 (s := s) hb h1 (by omega) (wordsD W) (wordsD V) (wordsD W) (.dct ks) tn .non .non .non .non .non .non .non
  obtain ⟨n, b2, e6, hb2, n1, n2⟩ := p6 (s := s) hb1 (slipD sl) (.int ((h : Nat) : Int)) (wordsD W) (wordsD V) (wordsD W) (.dct ks) tn .non .non .non .non .non .non
  have hs : SlipOk W.length sl := by rw [hl]; exact hs
  have hn : n < 10 ^ 20 := Nat.lt_of_le_of_lt n2 (by decide)
  have e7 := p7 hW hs hn s b2 (.int ((h : Nat) : Int)) (wordsD V) (wordsD W) (.dct ks) tn .non .non .non .non .non
  have e9 := p9 hW hs hn s b2 (.int ((h : Nat) : Int)) (wordsD V) (.dct ks) tn .non .non .non .non .non
  obtain ⟨g, b3, e10, hb3, g1, g2⟩ := p10 (s := s) hb2 (slipD sl) (.int ((h : Nat) : Int)) (wordsD W) (wordsD V) (wordsD W) (.dct ks) tn (.tup [slipD sl, .int ((n : Nat) : Int)]) (.lst [.str (SX.S (slipT W sl)), .str (SX.S (lineT W sl n))]) .non .non .non .non
  have hg : g < 10 ^ 20 := Nat.lt_of_le_of_lt g2 (by decide)
  have e12 := p12 hW hs hg s b3 (.int ((h : Nat) : Int)) (wordsD V) (wordsD W) (.dct ks) tn (slipD sl) (.tup [slipD sl, .int ((n : Nat) : Int)]) (.lst [.str (SX.S (slipT W sl)), .str (SX.S (lineT W sl n))]) .non .non .non .non
  have e13 := loop3 hW hs g1 g2 s b3 (.int ((h : Nat) : Int)) (wordsD V) (wordsD W) (.dct ks) tn (.tup [slipD sl, .int ((n : Nat) : Int)]) (.lst [.str (SX.S (slipT W sl)), .str (SX.S (lineT W sl n))]) (.tup [slipD sl, .int ((g : Nat) : Int)]) .non .non
  have e16 := p16 hW hs s b3 (.int ((h : Nat) : Int)) (wordsD V) (wordsD W) (.dct ks) tn (slipD sl) (.tup [slipD sl, .int ((n : Nat) : Int)]) (.tup [slipD sl, .int ((g : Nat) : Int)]) .non .non .non (.str (SX.S (lineT W sl n)))
  have e17 := p17 hW hs n1 n2 s b3 (.int ((h : Nat) : Int)) (wordsD V) (wordsD W) (.dct ks) tn (slipD sl) (.tup [slipD sl, .int ((n : Nat) : Int)]) (.tup [slipD sl, .int ((g : Nat) : Int)]) .non .non .non (.str (SX.S (slipT W sl)))
  obtain ⟨ks', e19, hk'⟩ := p19 hW hs hk hk2 hn s b3 (.int ((h : Nat) : Int)) (wordsD W) (wordsD V) (wordsD W) tn (.str (SX.S (lineT W sl n))) (.tup [slipD sl, .int ((g : Nat) : Int)]) .non .non .non
  have e20 := p20 P hs s b3 (.int ((h : Nat) : Int)) (wordsD W) (.dct ks') tn (.tup [slipD sl, .int ((n : Nat) : Int)]) (.lst [.str (SX.S (slipT W sl)), .str (SX.S (lineT W sl n))]) (.tup [slipD sl, .int ((g : Nat) : Int)]) .non .non (toldD sl n)
  refine ⟨b3, ks', ?_, hb3, hk'⟩
  have f9 : addD (.int 1000000000) (.int 1) = some (.int 1000000001) := rfl
  have sz3 : 3 ≤ sizeLine := by decide
  by_cases q : ∀ m ∈ sl, ordered V W m
  · rw [if_pos q] at e20
    have e21 := p21t P hs q s b3 (.int ((h : Nat) : Int)) (wordsD W) (wordsD W) (.dct ks') tn (slipD sl) (.tup [slipD sl, .int ((n : Nat) : Int)]) (.tup [slipD sl, .int ((g : Nat) : Int)]) .non .non (toldD sl n) (slipD (sl.map (sums V W))) (.str (SX.S (lineT W sl n)))
    have e22 := p22t P hs q n1 n2 s b3 (.int ((h : Nat) : Int)) (wordsD W) (wordsD W) (.dct ks') tn (slipD sl) (.tup [slipD sl, .int ((n : Nat) : Int)]) (.tup [slipD sl, .int ((g : Nat) : Int)]) .non .non (slipD (sl.map (sums V W))) (.str (SX.S (slipT W sl)))
    obtain ⟨e24, e26⟩ := p26t P hs hn s b3 (.int ((h : Nat) : Int)) (wordsD W) (wordsD V) (wordsD W) (.dct ks') tn (slipD sl) (slipD sl) (.lst [.str (SX.S (slipT W sl)), .str (SX.S (lineT W sl n))]) (.tup [slipD sl, .int ((g : Nat) : Int)]) .non .non
    generalize slipD (sl.map (sums V W)) = due at *
    generalize toldD (sl.map (sums V W)) n = td2 at *
    generalize toldD sl n = td at *
    generalize slipD sl = sd at *
    generalize wordsD W = wd at *
    generalize wordsD V = vd at *
    unfold L2_law
    simp only [seqF_ap, e5, e6, e7, e9, e10, e12]
    simp [pow9, sz3]
    simp [e13, e16, e17, e19, e20, e21, e22, e24, e26]
  · rw [if_neg q] at e20
    have e21 := p21f P hs q s b3 (.int ((h : Nat) : Int)) (wordsD W) (wordsD W) (.dct ks') tn (slipD sl) (.tup [slipD sl, .int ((n : Nat) : Int)]) (.tup [slipD sl, .int ((g : Nat) : Int)]) .non .non (toldD sl n) .non (.str (SX.S (lineT W sl n)))
    have e22 := p22f P hs q hn s b3 (.int ((h : Nat) : Int)) (wordsD W) (wordsD W) (.dct ks') tn (slipD sl) (.tup [slipD sl, .int ((n : Nat) : Int)]) (.tup [slipD sl, .int ((g : Nat) : Int)]) .non .non .non (.str (SX.S (slipT W sl)))
    obtain ⟨e24, e26⟩ := p26f s b3 (.int ((h : Nat) : Int)) (wordsD W) (wordsD V) (wordsD W) (.dct ks') tn (slipD sl) (.tup [slipD sl, .int ((n : Nat) : Int)]) (.lst [.str (SX.S (slipT W sl)), .str (SX.S (lineT W sl n))]) (.tup [slipD sl, .int ((g : Nat) : Int)]) .non .non
    generalize toldD sl n = td at *
    generalize slipD sl = sd at *
    generalize wordsD W = wd at *
    generalize wordsD V = vd at *
    unfold L2_law
    simp only [seqF_ap, e5, e6, e7, e9, e10, e12]
    simp [pow9, sz3]
    simp [e13, e16, e17, e19, e20, e21, e22, e24, e26]
theorem plain : ∀ ns : List Int, ns.length ≤ 63 → (∀ z ∈ ns, Builtin.Int.intBits z ≤ 1048576) → ∃ ρ, F_law [.lst (ns.map D.int)] = .ok (.bl true) ρ := by
  intro ns hn _
  obtain ⟨b1, f1, hb1⟩ := bag_ok hn
  generalize D.lst (ns.map D.int) = s at *
  have e1 : P1_law [s, .non, .non, .non, .non, .non, .non, .non, .non, .non, .non, .non, .non, .non, .non, .non] = .ok .nx [s, b1, .non, .non, .non, .non, .non, .non, .non, .non, .non, .non, .non, .non, .non, .non] := by
    unfold P1_law
    simp [f1]
  obtain ⟨h, b2, e2, hb2, h1, h2⟩ := p2 (s := s) hb1 .non .non .non .non .non .non .non .non .non .non .non .non .non
  obtain ⟨W, b3, f3, hb3, hW, hl⟩ := words_ok hb2 h2
  have e3 : P3_law [s, b2, .int ((h : Nat) : Int), .non, .non, .non, .non, .non, .non, .non, .non, .non, .non, .non, .non, .non] = .ok .nx [s, b3, .int ((h : Nat) : Int), wordsD W, .non, .non, .non, .non, .non, .non, .non, .non, .non, .non, .non, .non] := by
    unfold P3_law
    simp [f3]
  obtain ⟨ys, b4, f4, hb4, hp⟩ := mixed_ok (things := W.map fun w => D.str (SX.S w)) hb3 (by rw [List.length_map]; omega)
  obtain ⟨V, hV, rfl⟩ := perm_words hp
  have f4 : F__law_mixed [b3, wordsD W] = .ok (wordsD V) [b4, wordsD W] := f4
  have ll : listD [wordsD W] = some (wordsD W) := rfl
  have e4 : P4_law [s, b3, .int ((h : Nat) : Int), wordsD W, .non, .non, .non, .non, .non, .non, .non, .non, .non, .non, .non, .non] = .ok .nx [s, b4, .int ((h : Nat) : Int), wordsD W, wordsD V, wordsD W, .dct [], .non, .non, .non, .non, .non, .non, .non, .non, .non] := by
    generalize wordsD W = wd at *
    generalize wordsD V = vd at *
    unfold P4_law
    simp [f4, ll, sets]
  have hVo : WordsOk V := ⟨⟨by rw [hV.length_eq]; exact hW.len, fun w hw => hW.short w (hV.mem_iff.mp hw)⟩, hV.nodup_iff.mpr hW.nd, fun w hw => hW.letters w (hV.mem_iff.mp hw)⟩
  have P : Pair V W := ⟨hVo, hW, hV⟩
  obtain ⟨ρ', eL, b5, ks, rfl, _, _⟩ := loopM_inv (G := gN 7) (B := L2_law) (fun i ρ => ∃ b ks, ρ = [s, b, .int ((h : Nat) : Int), wordsD W, wordsD V, wordsD W, .dct ks, .non, .non, .non, .non, .non, .non, .non, .non, .non] ∧ BagOk b ∧ KnOk W i ks) ((List.range 6).map fun i => D.int ((i : Nat) : Int)) 0 _ ⟨b4, [], rfl, hb4, by simp, fun _ z => (nomatch z)⟩ (fun i ρ d hd ⟨b, ks, hρ, hb, hk⟩ => by
    subst hρ
    have hi := (List.getElem?_eq_some_iff.mp hd).1
    rw [List.length_map, List.length_range] at hi
    rw [Nat.zero_add] at hk
    obtain ⟨b', ks', e, hb', hk'⟩ := l2 (s := s) P hl h1 hb hk (by omega) d
    refine ⟨_, _, .nx, rfl, e, .inl rfl, b', ks', rfl, hb', ?_⟩
    simpa using hk')
  have r6 : range1I [.int 6] = some ((List.range 6).map fun i => D.int ((i : Nat) : Int)) := range1_nat (h := 6) (by decide)
  have ee : eqD (wordsD W) (wordsD W) = some (.bl true) := eq_me (ok_words hW.lo)
  generalize (List.range 6).map (fun i => D.int ((i : Nat) : Int)) = rg at *
  generalize wordsD W = wd at *
  generalize wordsD V = vd at *
  unfold F_law G_law P27_law
  exact ⟨_, by simp [e1, e2, e3, e4, r6, eL, ee]; rfl⟩
end K84

open PySem PySem.W PyProof.Rows in
set_option maxRecDepth 100000 in
set_option maxHeartbeats 0 in
theorem PySem.Challenge.cw_wholepoll_k84_slips_and_lines_written_holds : PySem.Challenge.rw_wholepoll_k84_slips_and_lines_written.Holds := by
  w_on; o_law; k_head; (case hw => w_witness2)
  k_fill
  refine VL.walk_ofV (l := PySem.Challenge.rw_wholepoll_k84_slips_and_lines_written) (n := 63) (k := 7) (x := "_law_script") rfl (by decide) rfl ⟨rfl, by decide, by decide⟩ (by decide +kernel) (fun w h Y => by first | exact PySem.W.kIn_of Y | exact PySem.W.km_in_of Y) ?F
  case F =>
    intro w mg fa h Y KX G hmg own
    refine' K84.all_mk KX G hmg own K84.plain ?a0 ?l0 ?c0 ?k0 ?a1 ?l1 ?c1 ?k1 ?a2 ?l2 ?c2 ?k2 ?a3 ?l3 ?c3 ?k3 ?a4 ?l4 ?c4 ?k4 ?a5 ?l5 ?c5 ?k5 ?a6 ?l6 ?c6 ?k6 ?a7 ?l7 ?c7 ?k7 ?a8 ?l8 ?c8 ?k8 ?a9 ?l9 ?c9 ?k9 ?a10 ?l10 ?c10 ?k10 ?a11 ?l11 ?c11 ?k11 ?a12 ?l12 ?c12 ?k12 ?a13 ?l13 ?c13 ?k13 ?a14 ?l14 ?c14 ?k14 ?a15 ?l15 ?c15 ?k15 ?a16 ?l16 ?c16 ?k16 ?a17 ?l17 ?c17 ?k17 ?a18 ?l18 ?c18 ?k18 ?a19 ?l19 ?c19 ?k19 ?a20 ?l20 ?c20 ?k20 ?a21 ?l21 ?c21 ?k21 ?a22 ?l22 ?c22 ?k22 ?b_abs ?b_all ?b_bool ?b_enumerate ?b_int ?b_isinstance ?b_len ?b_list ?b_range ?b_repr ?b_sorted ?b_str ?b_sum ?b_tuple ?g_FIGURES ?g_MOST_BALLOTS ?g_MOST_FIGURES ?e_PollError ?e_NoText ?x_NoText ?y_NoText ?s_NoText ?t_NoText ?m_NoText_NoText ?lc ?v11 ?nP
    (case a0 => first | k_is | kernel_rfl)
    (case l0 => first | k_is | kernel_rfl)
    (case c0 => first | k_is | kernel_rfl)
    (case k0 => first | k_is | kernel_rfl)
    (case a1 => first | k_is | kernel_rfl)
    (case l1 => first | k_is | kernel_rfl)
    (case c1 => first | k_is | kernel_rfl)
    (case k1 => first | k_is | kernel_rfl)
    (case a2 => first | k_is | kernel_rfl)
    (case l2 => first | k_is | kernel_rfl)
    (case c2 => first | k_is | kernel_rfl)
    (case k2 => first | k_is | kernel_rfl)
    (case a3 => first | k_is | kernel_rfl)
    (case l3 => first | k_is | kernel_rfl)
    (case c3 => first | k_is | kernel_rfl)
    (case k3 => first | k_is | kernel_rfl)
    (case a4 => first | k_is | kernel_rfl)
    (case l4 => first | k_is | kernel_rfl)
    (case c4 => first | k_is | kernel_rfl)
    (case k4 => first | k_is | kernel_rfl)
    (case a5 => first | k_is | kernel_rfl)
    (case l5 => first | k_is | kernel_rfl)
    (case c5 => first | k_is | kernel_rfl)
    (case k5 => first | k_is | kernel_rfl)
    (case a6 => first | k_is | kernel_rfl)
    (case l6 => first | k_is | kernel_rfl)
    (case c6 => first | k_is | kernel_rfl)
    (case k6 => first | k_is | kernel_rfl)
    (case a7 => first | k_is | kernel_rfl)
    (case l7 => first | k_is | kernel_rfl)
    (case c7 => first | k_is | kernel_rfl)
    (case k7 => first | k_is | kernel_rfl)
    (case a8 => first | k_is | kernel_rfl)
    (case l8 => first | k_is | kernel_rfl)
    (case c8 => first | k_is | kernel_rfl)
    (case k8 => first | k_is | kernel_rfl)
    (case a9 => first | k_is | kernel_rfl)
    (case l9 => first | k_is | kernel_rfl)
    (case c9 => first | k_is | kernel_rfl)
    (case k9 => first | k_is | kernel_rfl)
    (case a10 => first | k_is | kernel_rfl)
    (case l10 => first | k_is | kernel_rfl)
    (case c10 => first | k_is | kernel_rfl)
    (case k10 => first | k_is | kernel_rfl)
    (case a11 => first | k_is | kernel_rfl)
    (case l11 => first | k_is | kernel_rfl)
    (case c11 => first | k_is | kernel_rfl)
    (case k11 => first | k_is | kernel_rfl)
    (case a12 => first | k_is | kernel_rfl)
    (case l12 => first | k_is | kernel_rfl)
    (case c12 => first | k_is | kernel_rfl)
    (case k12 => first | k_is | kernel_rfl)
    (case a13 => first | k_is | kernel_rfl)
    (case l13 => first | k_is | kernel_rfl)
    (case c13 => first | k_is | kernel_rfl)
    (case k13 => first | k_is | kernel_rfl)
    (case a14 => first | k_is | kernel_rfl)
    (case l14 => first | k_is | kernel_rfl)
    (case c14 => first | k_is | kernel_rfl)
    (case k14 => first | k_is | kernel_rfl)
    (case a15 => first | k_is | kernel_rfl)
    (case l15 => first | k_is | kernel_rfl)
    (case c15 => first | k_is | kernel_rfl)
    (case k15 => first | k_is | kernel_rfl)
    (case a16 => first | k_is | kernel_rfl)
    (case l16 => first | k_is | kernel_rfl)
    (case c16 => first | k_is | kernel_rfl)
    (case k16 => first | k_is | kernel_rfl)
    (case a17 => first | k_is | kernel_rfl)
    (case l17 => first | k_is | kernel_rfl)
    (case c17 => first | k_is | kernel_rfl)
    (case k17 => first | k_is | kernel_rfl)
    (case a18 => first | k_is | kernel_rfl)
    (case l18 => first | k_is | kernel_rfl)
    (case c18 => first | k_is | kernel_rfl)
    (case k18 => first | k_is | kernel_rfl)
    (case a19 => first | k_is | kernel_rfl)
    (case l19 => first | k_is | kernel_rfl)
    (case c19 => first | k_is | kernel_rfl)
    (case k19 => first | k_is | kernel_rfl)
    (case a20 => first | k_is | kernel_rfl)
    (case l20 => first | k_is | kernel_rfl)
    (case c20 => first | k_is | kernel_rfl)
    (case k20 => first | k_is | kernel_rfl)
    (case a21 => first | k_is | kernel_rfl)
    (case l21 => first | k_is | kernel_rfl)
    (case c21 => first | k_is | kernel_rfl)
    (case k21 => first | k_is | kernel_rfl)
    (case a22 => first | k_is | kernel_rfl)
    (case l22 => first | k_is | kernel_rfl)
    (case c22 => first | k_is | kernel_rfl)
    (case k22 => first | k_is | kernel_rfl)
    (case b_abs => first | k_is | kernel_rfl)
    (case b_all => first | k_is | kernel_rfl)
    (case b_bool => first | k_is | kernel_rfl)
    (case b_enumerate => first | k_is | kernel_rfl)
    (case b_int => first | k_is | kernel_rfl)
    (case b_isinstance => first | k_is | kernel_rfl)
    (case b_len => first | k_is | kernel_rfl)
    (case b_list => first | k_is | kernel_rfl)
    (case b_range => first | k_is | kernel_rfl)
    (case b_repr => first | k_is | kernel_rfl)
    (case b_sorted => first | k_is | kernel_rfl)
    (case b_str => first | k_is | kernel_rfl)
    (case b_sum => first | k_is | kernel_rfl)
    (case b_tuple => first | k_is | kernel_rfl)
    (case g_FIGURES => first | k_is | kernel_rfl)
    (case g_MOST_BALLOTS => first | k_is | kernel_rfl)
    (case g_MOST_FIGURES => first | k_is | kernel_rfl)
    (case e_PollError => first | k_is | kernel_rfl)
    (case e_NoText => first | k_is | kernel_rfl)
    (case x_NoText => first | k_is | kernel_rfl)
    (case y_NoText => first | k_is | kernel_rfl)
    (case s_NoText => first | k_is | kernel_rfl)
    (case t_NoText => first | k_is | kernel_rfl)
    (case m_NoText_NoText => first | k_is | kernel_rfl)
    (case lc => first | k_is | kernel_rfl)
    (case v11 => exact rfl)
    (case nP => first | k_is | kernel_rfl)

