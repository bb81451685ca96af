import PyProof.Rows.All
import Wide.All
import OpenK.AllK
import Wide.FinOn
import HandS.ForMost
import HandS.Exc
import HandS.Wide
import HandS.Gcd
import HandS.IsInst
import HandS.Style
import HandS.Flow
import HandS.WordsExc
import HandS.Zip
import HandS.Defaults
import HandS.OwnEq
import PySem.Challenge.RW_stillarms_k20_whole_heights_and_belts_fo
import HandS.TupAny
import HandS.CallSlots
import KE.KExcSuper
import KE.KSuper
import KE.KExcMake
import HandS.ExcInit
import HandS.TryMany
import HandS.ExcOwn
import HandS.SetBool
import HandS.Strs
import HandS.Conv
import HandS.Iter
import KE.GoesEnum
import KE.GoesMore
import KE.KStateDown

import HandS.More
import HandS.Head0
import HandS.Head1
import HandS.Head2
import HandS.Head3
import HandS.HeadEnd
import HandS.HeadHook1
import HandS.HeadHook2
import HandS.HeadHook3
import HandS.HeadHook4
import HandS.HeadNt
section
set_option Elab.async false
set_option linter.all false
set_option maxRecDepth 100000
set_option maxHeartbeats 4000000

namespace DL
open PySem PySem.Spec PyProof.Rows L2


inductive D where
  | non | bl (b : Bool) | int (i : Int) | str (s : Str) | tup (xs : List D) | lst (xs : List D)
  | ins (C : Addr) (ns : List Str) (xs : List D)

/-- a list that is frozen for good -/
def SqZ (H : Hp) (a : Addr) (vs : List V) : Prop := ∃ o, H a = some (.frz o (.lst vs))
theorem SqZ.l {K : PySem.W.Frag} {H : Hp} {a : Addr} {vs : List V} (h : SqZ H a vs) : SqL K H a vs := by
  obtain ⟨o, h⟩ := h
  exact .inl (.inr ⟨o, h⟩)

mutual
def Rep (K : PySem.W.Frag) (H : Hp) : D → V → Prop
  | .non, v => v = .non
  | .bl b, v => v = .bl b
  | .int i, v => v = .int i
  | .str s, v => v = .str s
  | .tup xs, v => ∃ a vs, v = .ref a ∧ SqT K H a vs ∧ Reps K H xs vs
  | .lst xs, v => ∃ a vs, v = .ref a ∧ SqZ H a vs ∧ Reps K H xs vs
  | .ins C ns xs, v => ∃ a dx vs, v = .ref a ∧ H a = some (.ins C dx (ns.zip vs)) ∧ Reps K H xs vs ∧ ns.length = xs.length
def Reps (K : PySem.W.Frag) (H : Hp) : List D → List V → Prop
  | [], vs => vs = []
  | x :: xs, vs => ∃ v ws, vs = v :: ws ∧ Rep K H x v ∧ Reps K H xs ws
end

/-- what never changes -/
def Imm : HO → Prop
  | .tup _ => True
  | .frz _ _ => True
  | .ins _ _ _ => True
  | _ => False
def Keep (H H' : Hp) : Prop := ∀ a o, Imm o → H a = some o → H' a = some o
theorem Keep.refl (H : Hp) : Keep H H := fun _ _ _ h => h
theorem Keep.trans {H H1 H2 : Hp} (a : Keep H H1) (b : Keep H1 H2) : Keep H H2 := fun x o i h => b x o i (a x o i h)
theorem Keep.sqT {K : PySem.W.Frag} {H H' : Hp} (k : Keep H H') {a : Addr} {vs : List V} (h : SqT K H a vs) : SqT K H' a vs := by
  rcases h with (h | ⟨o, h⟩) | h
  · exact .inl (.inl (k _ _ trivial h))
  · exact .inl (.inr ⟨o, k _ _ trivial h⟩)
  · exact .inr h
theorem Keep.sqZ {H H' : Hp} (k : Keep H H') {a : Addr} {vs : List V} (h : SqZ H a vs) : SqZ H' a vs := by
  obtain ⟨o, h⟩ := h
  exact ⟨o, k _ _ trivial h⟩
mutual
theorem Rep.mono {K : PySem.W.Frag} {H H' : Hp} (k : Keep H H') : ∀ {x : D} {v : V}, Rep K H x v → Rep K H' x v
  | .non, _, h => h
  | .bl _, _, h => h
  | .int _, _, h => h
  | .str _, _, h => h
  | .tup xs, v, h => by
    unfold Rep at h ⊢
    obtain ⟨a, vs, e, s, r⟩ := h
    exact ⟨a, vs, e, k.sqT s, Reps.mono k r⟩
  | .lst xs, v, h => by
    unfold Rep at h ⊢
    obtain ⟨a, vs, e, s, r⟩ := h
    exact ⟨a, vs, e, k.sqZ s, Reps.mono k r⟩
  | .ins C ns xs, v, h => by
    unfold Rep at h ⊢
    obtain ⟨a, dx, vs, e, s, r, l⟩ := h
    exact ⟨a, dx, vs, e, k _ _ trivial s, Reps.mono k r, l⟩
theorem Reps.mono {K : PySem.W.Frag} {H H' : Hp} (k : Keep H H') : ∀ {xs : List D} {vs : List V}, Reps K H xs vs → Reps K H' xs vs
  | [], _, h => h
  | x :: xs, vs, h => by
    unfold Reps at h ⊢
    obtain ⟨v, ws, e, r, rs⟩ := h
    exact ⟨v, ws, e, Rep.mono k r, Reps.mono k rs⟩
end
section
variable {K : PySem.W.Frag} {H : Hp}
theorem Reps.len : ∀ {xs : List D} {vs : List V}, Reps K H xs vs → vs.length = xs.length
  | [], _, h => by
    unfold Reps at h
    subst h
    rfl
  | x :: xs, vs, h => by
    unfold Reps at h
    obtain ⟨v, ws, e, r, rs⟩ := h
    subst e
    rw [List.length_cons, List.length_cons, Reps.len rs]
theorem Reps.get : ∀ {xs : List D} {vs : List V} {i : Nat} {x : D}, Reps K H xs vs → xs[i]? = some x → ∃ v, vs[i]? = some v ∧ Rep K H x v
  | [], _, i, x, h, e => by simp at e
  | y :: xs, vs, 0, x, h, e => by
    unfold Reps at h
    obtain ⟨v, ws, e1, r, rs⟩ := h
    subst e1
    simp at e
    subst e
    exact ⟨v, rfl, r⟩
  | y :: xs, vs, i + 1, x, h, e => by
    unfold Reps at h
    obtain ⟨v, ws, e1, r, rs⟩ := h
    subst e1
    simp at e
    obtain ⟨u, h1, h2⟩ := Reps.get (i := i) rs e
    exact ⟨u, by simpa using h1, h2⟩
theorem Reps.get' : ∀ {xs : List D} {vs : List V} {i : Nat} {v : V}, Reps K H xs vs → vs[i]? = some v → ∃ x, xs[i]? = some x ∧ Rep K H x v := fun {xs vs i v} h e => by
  have hl := h.len
  have hi : i < vs.length := (List.getElem?_eq_some_iff.mp e).1
  have q : xs[i]? = some xs[i] := List.getElem?_eq_getElem (by omega)
  obtain ⟨u, h1, h2⟩ := h.get q
  rw [e] at h1
  cases h1
  exact ⟨_, q, h2⟩
theorem Reps.append : ∀ {xs ys : List D} {vs ws : List V}, Reps K H xs vs → Reps K H ys ws → Reps K H (xs ++ ys) (vs ++ ws)
  | [], ys, vs, ws, h, h2 => by
    unfold Reps at h
    subst h
    exact h2
  | x :: xs, ys, vs, ws, h, h2 => by
    unfold Reps at h
    obtain ⟨v, us, e1, r, rs⟩ := h
    subst e1
    show Reps K H (x :: (xs ++ ys)) (v :: (us ++ ws))
    unfold Reps
    exact ⟨v, _, rfl, r, Reps.append rs h2⟩
theorem Reps.one {x : D} {v : V} (h : Rep K H x v) : Reps K H [x] [v] := by
  unfold Reps
  exact ⟨v, [], rfl, h, by unfold Reps; rfl⟩
theorem Reps.cons {x : D} {xs : List D} {v : V} {vs : List V} (h : Rep K H x v) (t : Reps K H xs vs) : Reps K H (x :: xs) (v :: vs) := by
  rw [Reps]
  exact ⟨v, vs, rfl, h, t⟩
theorem Reps.nil : Reps K H [] [] := by
  rw [Reps]
theorem Reps.set : ∀ {xs : List D} {vs : List V} (i : Nat) {x : D} {v : V}, Reps K H xs vs → Rep K H x v → Reps K H (xs.set i x) (vs.set i v)
  | [], vs, i, x, v, h, r => by
    unfold Reps at h
    subst h
    exact Reps.nil
  | y :: xs, vs, 0, x, v, h, r => by
    unfold Reps at h
    obtain ⟨u, us, e1, r1, rs⟩ := h
    subst e1
    exact Reps.cons r rs
  | y :: xs, vs, i + 1, x, v, h, r => by
    unfold Reps at h
    obtain ⟨u, us, e1, r1, rs⟩ := h
    subst e1
    exact Reps.cons r1 (Reps.set i rs r)
theorem Reps.drop : ∀ {xs : List D} {vs : List V} (i : Nat), Reps K H xs vs → Reps K H (xs.drop i) (vs.drop i)
  | _, _, 0, h => h
  | [], vs, i + 1, h => by
    unfold Reps at h
    subst h
    exact Reps.nil
  | y :: xs, vs, i + 1, h => by
    unfold Reps at h
    obtain ⟨u, us, e1, r1, rs⟩ := h
    subst e1
    exact Reps.drop i rs
theorem Reps.map_int : ∀ (ns : List Int), Reps K H (ns.map D.int) (ns.map V.int)
  | [] => Reps.nil
  | n :: ns => Reps.cons (by unfold Rep; rfl) (Reps.map_int ns)
theorem Reps.cons_inv {x : D} {xs : List D} {vs : List V} (h : Reps K H (x :: xs) vs) : ∃ v ws, vs = v :: ws ∧ Rep K H x v ∧ Reps K H xs ws := by
  rw [Reps] at h
  exact h
theorem Reps.nil_inv {vs : List V} (h : Reps K H [] vs) : vs = [] := by
  rw [Reps] at h
  exact h
theorem Rep.tup_inv {xs : List D} {v : V} (h : Rep K H (.tup xs) v) : ∃ a vs, v = .ref a ∧ SqT K H a vs ∧ Reps K H xs vs := by
  rw [Rep] at h
  exact h
theorem Rep.lst_inv {xs : List D} {v : V} (h : Rep K H (.lst xs) v) : ∃ a vs, v = .ref a ∧ SqZ H a vs ∧ Reps K H xs vs := by
  rw [Rep] at h
  exact h
theorem Rep.ins_inv {C : Addr} {ns : List Str} {xs : List D} {v : V} (h : Rep K H (.ins C ns xs) v) : ∃ a dx vs, v = .ref a ∧ H a = some (.ins C dx (ns.zip vs)) ∧ Reps K H xs vs ∧ ns.length = xs.length := by
  rw [Rep] at h
  exact h
theorem Rep.int_inv {i : Int} {v : V} (h : Rep K H (.int i) v) : v = .int i := by
  rw [Rep] at h
  exact h
theorem Rep.bl_inv {i : Bool} {v : V} (h : Rep K H (.bl i) v) : v = .bl i := by
  rw [Rep] at h
  exact h
theorem Rep.str_inv {i : Str} {v : V} (h : Rep K H (.str i) v) : v = .str i := by
  rw [Rep] at h
  exact h
theorem Rep.non_inv {v : V} (h : Rep K H .non v) : v = .non := by
  rw [Rep] at h
  exact h
theorem Rep.int' {i : Int} : Rep K H (.int i) (.int i) := by rw [Rep]
theorem Rep.bl' {i : Bool} : Rep K H (.bl i) (.bl i) := by rw [Rep]
theorem Rep.str' {i : Str} : Rep K H (.str i) (.str i) := by rw [Rep]
theorem Rep.non' : Rep K H .non .non := by rw [Rep]
theorem Rep.tup' {xs : List D} {a : Addr} {vs : List V} (h : SqT K H a vs) (r : Reps K H xs vs) : Rep K H (.tup xs) (.ref a) := by
  rw [Rep]
  exact ⟨a, vs, rfl, h, r⟩
theorem Rep.lst' {xs : List D} {a : Addr} {vs : List V} (h : SqZ H a vs) (r : Reps K H xs vs) : Rep K H (.lst xs) (.ref a) := by
  rw [Rep]
  exact ⟨a, vs, rfl, h, r⟩
theorem Rep.ins' {C : Addr} {ns : List Str} {xs : List D} {a dx : Addr} {vs : List V} (h : H a = some (.ins C dx (ns.zip vs))) (r : Reps K H xs vs) (l : ns.length = xs.length) : Rep K H (.ins C ns xs) (.ref a) := by
  rw [Rep]
  exact ⟨a, dx, vs, rfl, h, r, l⟩
end


def Ext (H H' : Hp) : Prop := ∀ a o, H a = some o → H' a = some o
theorem Ext.refl (H : Hp) : Ext H H := fun _ _ h => h
theorem Ext.trans {H H1 H2 : Hp} (a : Ext H H1) (b : Ext H1 H2) : Ext H H2 := fun x o h => b x o (a x o h)
theorem Ext.new {H : Hp} {p : Addr} {o : HO} (h : H p = none) : Ext H (upd H p o) := fun a u e => by
  rw [upd_ne (ne_of_none e h)]
  exact e
theorem Ext.keep {H H' : Hp} (e : Ext H H') : Keep H H' := fun a o _ h => e a o h
/-- the hand: a list of a list of great numbers and two numbers -/
def HandAt (H : Hp) (L g : Addr) : Prop := ∃ (xs : List Int) (m c : Int), H L = some (.lst [.ref g, .int m, .int c]) ∧ H g = some (.lst (xs.map V.int)) ∧ g ≠ L ∧ xs.length ≤ 63
theorem HandAt.fn {H : Hp} {L g g' : Addr} (a : HandAt H L g) (b : HandAt H L g') : g = g' := by
  obtain ⟨_, _, _, e, _⟩ := a
  obtain ⟨_, _, _, e', _⟩ := b
  rw [e] at e'
  injection e' with e'
  injection e' with e'
  injection e' with e' _
  injection e' with e'
theorem HandAt.ext {H H' : Hp} {L g : Addr} (e : Ext H H') (a : HandAt H L g) : HandAt H' L g := by
  obtain ⟨xs, m, c, h1, h2, h3, h4⟩ := a
  exact ⟨xs, m, c, e _ _ h1, e _ _ h2, h3, h4⟩
def HandOk (hd : Option Addr) (H : Hp) : Prop := ∀ L, hd = some L → ∃ g, HandAt H L g
def Off (hd : Option Addr) (H : Hp) (l : Addr) : Prop := ∀ L g, hd = some L → HandAt H L g → l ≠ L ∧ l ≠ g
/-- one step on: all is kept but the hand's own lists -/
def Stp (hd : Option Addr) (H H' : Hp) : Prop := match hd with
  | none => Ext H H'
  | some L => (∀ g, HandAt H L g → ∃ g', HandAt H' L g' ∧ (g' = g ∨ H g' = none) ∧ ∀ a o, H a = some o → a ≠ L → a ≠ g → H' a = some o) ∧ ∀ a, H' a = none → H a = none
section
variable {hd : Option Addr} {H H1 H2 H' : Hp}
theorem Ext.back {H H' : Hp} (e : Ext H H') {p : Addr} (h : H' p = none) : H p = none := by
  cases q : H p with
  | none => rfl
  | some o =>
    rw [e p o q] at h
    cases h
theorem Stp.of (e : Ext H H') : Stp hd H H' := by
  cases hd with
  | none => exact e
  | some L => exact ⟨fun g h => ⟨g, h.ext e, .inl rfl, fun a o q _ _ => e a o q⟩, fun a h => e.back h⟩
theorem Stp.back (s : Stp hd H H') {p : Addr} (h : H' p = none) : H p = none := by
  cases hd with
  | none => exact Ext.back (H := H) s h
  | some L => exact s.2 p h
theorem Stp.refl : Stp hd H H := Stp.of (Ext.refl H)
theorem Stp.trans (a : Stp hd H H1) (b : Stp hd H1 H2) : Stp hd H H2 := by
  cases hd with
  | none => exact Ext.trans (H1 := H1) a b
  | some L =>
    obtain ⟨a, a'⟩ := a
    obtain ⟨b, b'⟩ := b
    refine ⟨fun g h => ?_, fun p h => a' p (b' p h)⟩
    obtain ⟨g1, h1, n1, k1⟩ := a g h
    obtain ⟨g2, h2, n2, k2⟩ := b g1 h1
    refine ⟨g2, h2, ?_, fun x o q x1 x2 => ?_⟩
    · rcases n2 with e | n2
      · rw [e]
        exact n1
      · exact .inr (a' _ n2)
    · refine k2 x o (k1 x o q x1 x2) x1 fun z => ?_
      rcases n1 with e | n1
      · exact x2 (z.trans e)
      · rw [z, n1] at q
        cases q
theorem Stp.hand (h : HandOk hd H) (s : Stp hd H H') : HandOk hd H' := fun L e => by
  subst e
  obtain ⟨g, hg⟩ := h L rfl
  obtain ⟨g', h', _⟩ := s.1 g hg
  exact ⟨g', h'⟩
theorem Stp.keep (h : HandOk hd H) (s : Stp hd H H') : Keep H H' := by
  cases hd with
  | none => exact fun a o _ e => s a o e
  | some L =>
    intro a o i e
    obtain ⟨g, hg⟩ := h L rfl
    obtain ⟨_, _, _, k⟩ := s.1 g hg
    obtain ⟨xs, m, c, h1, h2, _⟩ := hg
    refine k a o e (fun z => ?_) (fun z => ?_)
    · rw [z, h1] at e
      cases e
      exact i
    · rw [z, h2] at e
      cases e
      exact i
theorem Off.stp {l : Addr} {o : HO} (h : HandOk hd H) (s : Stp hd H H') (f : Off hd H l) (e : H l = some o) : H' l = some o ∧ Off hd H' l := by
  cases hd with
  | none => exact ⟨s l o e, fun L g z => by cases z⟩
  | some L =>
    obtain ⟨g, hg⟩ := h L rfl
    obtain ⟨g', hg', n, k⟩ := s.1 g hg
    obtain ⟨f1, f2⟩ := f L g rfl hg
    refine ⟨k l o e f1 f2, fun L' g2 z h2 => ?_⟩
    cases z
    refine ⟨f1, fun z => ?_⟩
    have e2 := h2.fn hg'
    rcases n with n | n
    · exact f2 (z.trans (e2.trans n))
    · rw [z, e2, n] at e
      cases e
/-- a new thing -/
theorem Stp.new {p : Addr} {o : HO} (h : H p = none) : Stp hd H (upd H p o) := Stp.of (Ext.new h)
theorem Off.new {l : Addr} (h : H l = none) : Off hd H l := fun L g _ hg => by
  obtain ⟨_, _, _, h1, h2, _⟩ := hg
  refine ⟨fun z => ?_, fun z => ?_⟩
  · rw [z, h1] at h
    cases h
  · rw [z, h2] at h
    cases h
end


/-- the hand's address (where the def has it), the abstract heap at the entry -/
structure Wd where
  hd : Option Addr
  h0 : Hp
/-- what a slot holds -/
inductive Sl where
  | d (x : D) | own (xs : List D) | hand
abbrev Env := List (Option Sl)
def SlRep (W : Wd) (K : PySem.W.Frag) (H : Hp) (so : Option (Option V)) : Sl → Prop
  | .d x => ∃ v, so = some (some v) ∧ Rep K H x v
  | .own xs => ∃ l vs, so = some (some (.ref l)) ∧ H l = some (.lst vs) ∧ Reps K H xs vs ∧ W.h0 l = none ∧ Off W.hd H l
  | .hand => ∃ L, so = some (some (.ref L)) ∧ W.hd = some L
structure EnvRep (W : Wd) (K : PySem.W.Frag) (H : Hp) (σ : L2.St) (ρ : Env) : Prop where
  stp : Stp W.hd W.h0 H
  hand : HandOk W.hd H
  len : ρ.length = σ.length
  sl : ∀ (i : Nat) s, ρ[i]? = some (some s) → SlRep W K H σ[i]? s
  ap : ∀ (i j : Nat) xs ys l, ρ[i]? = some (some (.own xs)) → ρ[j]? = some (some (.own ys)) → σ[i]? = some (some (.ref l)) → σ[j]? = some (some (.ref l)) → i = j
section
variable {W : Wd} {K : PySem.W.Frag} {H H' : Hp} {σ : L2.St} {ρ : Env}
theorem SlRep.mono {so : Option (Option V)} {s : Sl} (h : HandOk W.hd H) (st : Stp W.hd H H') (r : SlRep W K H so s) : SlRep W K H' so s := by
  cases s with
  | d x =>
    obtain ⟨v, e, r⟩ := r
    exact ⟨v, e, r.mono (st.keep h)⟩
  | own xs =>
    obtain ⟨l, vs, e, hl, r, n, f⟩ := r
    obtain ⟨h1, f1⟩ := f.stp h st hl
    exact ⟨l, vs, e, h1, r.mono (st.keep h), n, f1⟩
  | hand => exact r
theorem EnvRep.mono (r : EnvRep W K H σ ρ) (st : Stp W.hd H H') : EnvRep W K H' σ ρ :=
  ⟨r.stp.trans st, st.hand r.hand, r.len, fun i s e => (r.sl i s e).mono r.hand st, r.ap⟩
theorem EnvRep.keep (r : EnvRep W K H σ ρ) (st : Stp W.hd H H') : Keep H H' := st.keep r.hand
/-- a slot takes a datum -/
theorem EnvRep.set (r : EnvRep W K H σ ρ) (i : Nat) {x : D} {v : V} (h : Rep K H x v) (hi : i < ρ.length) : EnvRep W K H (σ.set i (some v)) (ρ.set i (some (.d x))) := by
  refine ⟨r.stp, r.hand, by rw [List.length_set, List.length_set, r.len], fun j s e => ?_, fun a b xs ys l e1 e2 e3 e4 => ?_⟩
  · by_cases hj : i = j
    · subst hj
      rw [List.getElem?_set_self hi] at e
      cases e
      exact ⟨v, by rw [List.getElem?_set_self (by rw [← r.len]; exact hi)], h⟩
    · rw [List.getElem?_set_ne hj] at e
      rw [List.getElem?_set_ne hj]
      exact r.sl j s e
  · have ha : i ≠ a := fun z => by
      subst z
      rw [List.getElem?_set_self hi] at e1
      cases e1
    have hb : i ≠ b := fun z => by
      subst z
      rw [List.getElem?_set_self hi] at e2
      cases e2
    rw [List.getElem?_set_ne ha] at e1 e3
    rw [List.getElem?_set_ne hb] at e2 e4
    exact r.ap a b xs ys l e1 e2 e3 e4
theorem EnvRep.fresh (r : EnvRep W K H σ ρ) {p : Addr} (h : H p = none) : W.h0 p = none := r.stp.back h
theorem EnvRep.lt (r : EnvRep W K H σ ρ) {i : Nat} (h : i < ρ.length) : i < σ.length := by rw [← r.len]; exact h
/-- a slot takes a list of its own: one that no other slot holds -/
theorem EnvRep.put (r : EnvRep W K H σ ρ) (i : Nat) {xs : List D} {vs : List V} {p : Addr} (hi : i < ρ.length) (hp : H p = some (.lst vs)) (h : Reps K H xs vs) (n0 : W.h0 p = none) (f : Off W.hd H p)
    (ap : ∀ (j : Nat) ys, j ≠ i → ρ[j]? = some (some (.own ys)) → σ[j]? ≠ some (some (.ref p))) : EnvRep W K H (σ.set i (some (.ref p))) (ρ.set i (some (.own xs))) := by
  have hi' := r.lt hi
  refine ⟨r.stp, r.hand, by rw [List.length_set, List.length_set, r.len], fun j s e => ?_, fun a b xs ys l e1 e2 e3 e4 => ?_⟩
  · by_cases hj : i = j
    · subst hj
      rw [List.getElem?_set_self hi] at e
      cases e
      exact ⟨p, vs, by rw [List.getElem?_set_self hi'], hp, h, n0, f⟩
    · rw [List.getElem?_set_ne hj] at e
      rw [List.getElem?_set_ne hj]
      exact r.sl j s e
  · by_cases ha : i = a
    · subst ha
      by_cases hb : i = b
      · exact hb
      · rw [List.getElem?_set_self hi'] at e3
        cases e3
        rw [List.getElem?_set_ne hb] at e2 e4
        exact absurd e4 (ap b ys (Ne.symm hb) e2)
    · rw [List.getElem?_set_ne ha] at e1 e3
      by_cases hb : i = b
      · subst hb
        rw [List.getElem?_set_self hi'] at e4
        cases e4
        exact absurd e3 (ap a xs (Ne.symm ha) e1)
      · rw [List.getElem?_set_ne hb] at e2 e4
        exact r.ap a b xs ys l e1 e2 e3 e4
/-- .. a new one -/
theorem EnvRep.setOwn (r : EnvRep W K H σ ρ) (i : Nat) {xs : List D} {vs : List V} {p : Addr} (hp : H p = none) (h : Reps K H xs vs) (hi : i < ρ.length) : EnvRep W K (upd H p (.lst vs)) (σ.set i (some (.ref p))) (ρ.set i (some (.own xs))) := by
  have st : Stp W.hd H (upd H p (.lst vs)) := Stp.new hp
  refine (r.mono st).put i hi upd_same (h.mono (st.keep r.hand)) (r.fresh hp) (fun L g e hg => ?_) (fun j ys hj e z => ?_)
  · obtain ⟨g0, hg0⟩ := r.hand L e
    have hg1 := hg0.ext (Ext.new (o := .lst vs) hp)
    have eg := hg.fn hg1
    subst eg
    exact Off.new hp L g e hg0
  · obtain ⟨l, ws, e2, h2, _⟩ := r.sl j _ e
    rw [z] at e2
    cases e2
    rw [hp] at h2
    cases h2
/-- the list of the i-th slot is changed -/
theorem EnvRep.upd (r : EnvRep W K H σ ρ) {i : Nat} {xs : List D} {l : Addr} {ws : List V} {ys : List D} (e : ρ[i]? = some (some (.own xs))) (el : σ[i]? = some (some (.ref l))) (h : Reps K H ys ws) :
    EnvRep W K (L2.upd H l (.lst ws)) σ (ρ.set i (some (.own ys))) := by
  obtain ⟨l', vs, e1, hl, _, n0, f⟩ := r.sl i _ e
  rw [el] at e1
  cases e1
  have hi : i < ρ.length := (List.getElem?_eq_some_iff.mp e).1
  have kp : Keep H (L2.upd H l (.lst ws)) := fun a o im ea => by
    have ne : a ≠ l := fun z => by
      rw [z, hl] at ea
      cases ea
      exact im
    rw [upd_ne ne]
    exact ea
  have hat : ∀ {L g}, W.hd = some L → HandAt H L g → HandAt (L2.upd H l (.lst ws)) L g := fun {L g} eL hg => by
    obtain ⟨f1, f2⟩ := f L g eL hg
    obtain ⟨xs, m, c, h1, h2, h3, h4⟩ := hg
    exact ⟨xs, m, c, by rw [upd_ne (Ne.symm f1)]; exact h1, by rw [upd_ne (Ne.symm f2)]; exact h2, h3, h4⟩
  have hok : HandOk W.hd (L2.upd H l (.lst ws)) := fun L eL => by
    obtain ⟨g, hg⟩ := r.hand L eL
    exact ⟨g, hat eL hg⟩
  have off : ∀ {q : Addr}, Off W.hd H q → Off W.hd (L2.upd H l (.lst ws)) q := fun {q} fq L g eL hg => by
    obtain ⟨g0, hg0⟩ := r.hand L eL
    have eg := hg.fn (hat eL hg0)
    subst eg
    exact fq L g eL hg0
  have none' : ∀ {a : Addr}, L2.upd H l (.lst ws) a = none → H a = none := fun {a} z => by
    by_cases ea : a = l
    · rw [ea, upd_same] at z
      cases z
    · rw [upd_ne ea] at z
      exact z
  refine ⟨?_, hok, by rw [List.length_set, r.len], fun j s ej => ?_, fun a b xs' ys' q e1 e2 e3 e4 => ?_⟩
  · have hs := r.stp
    cases hh : W.hd with
    | none =>
      rw [hh] at hs
      intro a o ea
      have ne : a ≠ l := fun z => by
        rw [z, n0] at ea
        cases ea
      show L2.upd H l (.lst ws) a = some o
      rw [upd_ne ne]
      exact hs a o ea
    | some L =>
      rw [hh] at hs
      refine ⟨fun g hg => ?_, fun a z => hs.2 a (none' z)⟩
      obtain ⟨g', h', n, k⟩ := hs.1 g hg
      refine ⟨g', hat hh h', n, fun a o ea x1 x2 => ?_⟩
      have ne : a ≠ l := fun z => by
        rw [z, n0] at ea
        cases ea
      rw [upd_ne ne]
      exact k a o ea x1 x2
  · by_cases hj : i = j
    · subst hj
      rw [List.getElem?_set_self hi] at ej
      cases ej
      exact ⟨l, ws, el, upd_same, h.mono kp, n0, off f⟩
    · rw [List.getElem?_set_ne hj] at ej
      have q := r.sl j s ej
      cases s with
      | d x =>
        obtain ⟨v, e1, rx⟩ := q
        exact ⟨v, e1, rx.mono kp⟩
      | own zs =>
        obtain ⟨p, us, e1, hp, rz, np, fp⟩ := q
        have ne : p ≠ l := fun z => by
          subst z
          exact hj (r.ap i j xs zs p e ej el e1)
        exact ⟨p, us, e1, by rw [upd_ne ne]; exact hp, rz.mono kp, np, off fp⟩
      | hand => exact q
  · have g1 : ∃ zs, ρ[a]? = some (some (.own zs)) := by
      by_cases ha : i = a
      · subst ha
        exact ⟨xs, e⟩
      · rw [List.getElem?_set_ne ha] at e1
        exact ⟨_, e1⟩
    have g2 : ∃ zs, ρ[b]? = some (some (.own zs)) := by
      by_cases hb : i = b
      · subst hb
        exact ⟨xs, e⟩
      · rw [List.getElem?_set_ne hb] at e2
        exact ⟨_, e2⟩
    obtain ⟨z1, g1⟩ := g1
    obtain ⟨z2, g2⟩ := g2
    exact r.ap a b z1 z2 q g1 g2 e3 e4
/-- fewer slots are told -/
theorem EnvRep.weak {σ' : L2.St} {ρ' : Env} (r : EnvRep W K H σ ρ) (hl : ρ'.length = σ'.length) (h : ∀ (i : Nat) s, ρ'[i]? = some (some s) → ρ[i]? = some (some s) ∧ σ'[i]? = σ[i]?) : EnvRep W K H σ' ρ' :=
  ⟨r.stp, r.hand, hl, fun i s e => by
    obtain ⟨h1, h2⟩ := h i s e
    rw [h2]
    exact r.sl i s h1, fun a b xs ys l e1 e2 e3 e4 => by
    obtain ⟨h1, h2⟩ := h a _ e1
    obtain ⟨h3, h4⟩ := h b _ e2
    rw [h2] at e3
    rw [h4] at e4
    exact r.ap a b xs ys l h1 h3 e3 e4⟩
end
end DL
end

section
set_option Elab.async false
set_option linter.all false
set_option maxRecDepth 100000
set_option maxHeartbeats 4000000

namespace DL
open PySem PySem.Spec PyProof.Rows L2


abbrev DE := Env → (D → Prop) → Prop
abbrev DT := Env → (Bool → Prop) → Prop
abbrev DA := Env → (List D → Prop) → Prop
def lift (W : Wd) (K : PySem.W.Frag) (t : DE) : TE := fun σ H k => ∃ ρ Q, EnvRep W K H σ ρ ∧ t ρ Q ∧ ∀ v H' x, Stp W.hd H H' → Rep K H' x v → Q x → k v H'
def liftT (W : Wd) (K : PySem.W.Frag) (t : DT) : TT := fun σ H k => ∃ ρ Q, EnvRep W K H σ ρ ∧ t ρ Q ∧ ∀ b H', Stp W.hd H H' → Q b → k b H'
def liftA (W : Wd) (K : PySem.W.Frag) (t : DA) : TA := fun σ H k => ∃ ρ Q, EnvRep W K H σ ρ ∧ t ρ Q ∧ ∀ vs H' xs, Stp W.hd H H' → Reps K H' xs vs → Q xs → k vs H'
/-- a new list, not yet frozen -/
def liftO (W : Wd) (K : PySem.W.Frag) (t : DA) : TE := fun σ H k => ∃ ρ Q, EnvRep W K H σ ρ ∧ t ρ Q ∧ ∀ p vs H' xs, Stp W.hd H H' → H p = none → H' p = some (.lst vs) → Off W.hd H' p → Reps K H' xs vs → Q xs → k (.ref p) H'
/-- arguments behind the hand -/
def liftH (W : Wd) (K : PySem.W.Frag) (t : DA) : TA := fun σ H k => ∃ ρ Q, EnvRep W K H σ ρ ∧ t ρ Q ∧ ∀ L vs H' xs, W.hd = some L → Stp W.hd H H' → HandOk W.hd H' → Reps K H' xs vs → Q xs → k (.ref L :: vs) H'
abbrev ED (W : Wd) (X : Cx) (e : Expr) (t : DE) : Prop := PE X e (lift W X.K t)
abbrev EO (W : Wd) (X : Cx) (e : Expr) (t : DA) : Prop := PE X e (liftO W X.K t)
abbrev TD (W : Wd) (X : Cx) (e : Expr) (t : DT) : Prop := PT X e (liftT W X.K t)
abbrev WD (W : Wd) (X : Cx) (e : Expr) (t : DT) : Prop := PW X e (liftT W X.K t)
abbrev AD (W : Wd) (X : Cx) (es : List Expr) (t : DA) : Prop := PA X es (liftA W X.K t)
abbrev AH (W : Wd) (X : Cx) (es : List Expr) (t : DA) : Prop := PA X es (liftH W X.K t)
section
variable {X : Cx} {e : Expr} {es : List Expr}
theorem _root_.L2.PE.weak {t t' : TE} (h : PE X e t) (w : ∀ σ H k, t' σ H k → t σ H k) : PE X e t' := ⟨fun pins s σ H Q I q => h.run pins s σ H Q I (w σ H Q q)⟩
theorem _root_.L2.PT.weak {t t' : TT} (h : PT X e t) (w : ∀ σ H k, t' σ H k → t σ H k) : PT X e t' := ⟨fun pins s σ H Q I q => h.run pins s σ H Q I (w σ H Q q)⟩
theorem _root_.L2.PW.weak {t t' : TT} (h : PW X e t) (w : ∀ σ H k, t' σ H k → t σ H k) : PW X e t' := ⟨fun wh pins s σ H Q I q => h.run wh pins s σ H Q I (w σ H Q q)⟩
theorem _root_.L2.PA.weak {t t' : TA} (h : PA X es t) (w : ∀ σ H k, t' σ H k → t σ H k) : PA X es t' := ⟨fun ps pins s σ H Q I q => h.run ps pins s σ H Q I (w σ H Q q)⟩
end
section
variable {W : Wd} {X : Cx} {e a b c : Expr} {es : List Expr} {pos : Pos} {ta tb tc : DE}


def dVar (i : Nat) : DE := fun ρ Q => ∃ x, ρ[i]? = some (some (.d x)) ∧ Q x
def dC (x : D) : DE := fun _ Q => Q x
theorem ed_var (i : Nat) {x : Str} {pos : Pos} (hN : X.N[i]? = some x := by rfl) (hv : Vis X.env.scope x := by first | exact Or.inl rfl | exact Or.inr (Or.inl rfl) | exact Or.inr (Or.inr rfl)) (hd : (x == ("__debug__" : Str)) = false := by decide)
    (hcd : (x == ("__classdict__" : Str)) = false := by decide) : ED W X (.Name x pos) (dVar i) := (pe_var hN hv hd hcd).weak fun σ H k h => by
  obtain ⟨ρ, Q, er, ⟨x, e, q⟩, kk⟩ := h
  obtain ⟨v, ev, r⟩ := er.sl i _ e
  exact ⟨v, ev, kk v H x Stp.refl r q⟩
theorem ed_lit {v : V} {x : D} (h : PE X e (tC v)) (r : ∀ H, Rep X.K H x v) : ED W X e (dC x) := h.weak fun σ H k h => by
  obtain ⟨ρ, Q, er, q, kk⟩ := h
  exact kk v H x Stp.refl (r H) q
theorem ed_int {i j pos} : ED W X (.Constant (.int i) j pos) (dC (.int i)) := ed_lit pe_int fun _ => Rep.int'
theorem ed_bl {i j pos} : ED W X (.Constant (.bool i) j pos) (dC (.bl i)) := ed_lit pe_bl fun _ => Rep.bl'
theorem ed_non {j pos} : ED W X (.Constant .none j pos) (dC .non) := ed_lit pe_non fun _ => Rep.non'
theorem ed_str {i j pos} : ED W X (.Constant (.str i) j pos) (dC (.str i)) := ed_lit pe_str fun _ => Rep.str'
/-- a constant of the module -/
theorem ed_glob {x : Str} {v : V} {u : Value} {y : D} (hg : Gl X x) (hm : X.mg x = some u) (r : RelV v u) (ry : ∀ H, Rep X.K H y v) (hd : (x == ("__debug__" : Str)) = false := by decide) : ED W X (.Name x pos) (dC y) := ed_lit (pe_glob hg hm r hd) ry


abbrev DR := D → D → (D → Prop) → Prop
def SimR (K : PySem.W.Frag) (r : R2) (d : DR) : Prop := ∀ H x y u v Q k, Rep K H x u → Rep K H y v → d x y Q → (∀ w H' z, Ext H H' → Rep K H' z w → Q z → k w H') → r u v H k
def dOp (r : DR) (ta tb : DE) : DE := fun ρ Q => ta ρ fun x => tb ρ fun y => r x y Q
theorem sim_op {r : R2} {d : DR} (s : SimR X.K r d) : ∀ σ H k, lift W X.K (dOp d ta tb) σ H k → tOp r (lift W X.K ta) (lift W X.K tb) σ H k := fun σ H k h => by
  obtain ⟨ρ, Q, er, q, kk⟩ := h
  refine ⟨ρ, _, er, q, fun u H1 x s1 rx q1 => ⟨ρ, _, er.mono s1, q1, fun v H2 y s2 ry q2 => ?_⟩⟩
  have er1 := er.mono s1
  exact s H2 x y u v Q k (rx.mono (er1.keep s2)) ry q2 fun w H' z e rz qz => kk w H' z (s1.trans (s2.trans (Stp.of e))) rz qz
theorem ed_op {op : Operator} {r : R2} {d : DR} (ho : OpR X (binaryOp op) r) (s : SimR X.K r d) (ha : ED W X a ta) (hb : ED W X b tb) : ED W X (.BinOp a op b pos) (dOp d ta tb) := (pe_op ho ha hb).weak (sim_op s)
theorem ed_cmp {op : CmpOp} {r : R2} {d : DR} (ho : OpR X (compareOp op) r) (s : SimR X.K r d) (ha : ED W X a ta) (hb : ED W X b tb) (hm : behindInMarks op b = false) : ED W X (.Compare a [op] [b] pos) (dOp d ta tb) := (pe_cmpR ho ha hb hm).weak (sim_op s)
/-- two ints -/
def dI (C : Int → Int → Prop) (f : Int → Int → Int) : DR := fun x y Q => ∃ i, x = .int i ∧ ∃ j, y = .int j ∧ C i j ∧ Q (.int (f i j))
def dI0 (f : Int → Int → Int) : DR := fun x y Q => ∃ i, x = .int i ∧ ∃ j, y = .int j ∧ Q (.int (f i j))
def dB (f : Int → Int → Bool) : DR := fun x y Q => ∃ i, x = .int i ∧ ∃ j, y = .int j ∧ Q (.bl (f i j))
theorem sim_I {K : PySem.W.Frag} {C : Int → Int → Prop} {f : Int → Int → Int} : SimR K (rI C fun i j => .int (f i j)) (dI C f) := fun H x y u v Q k rx ry h kk => by
  obtain ⟨i, rfl, j, rfl, c, q⟩ := h
  exact ⟨i, j, rx.int_inv, ry.int_inv, c, kk _ H _ (Ext.refl H) Rep.int' q⟩
theorem sim_I0 {K : PySem.W.Frag} {f : Int → Int → Int} : SimR K (rI0 fun i j => .int (f i j)) (dI0 f) := fun H x y u v Q k rx ry h kk => by
  obtain ⟨i, rfl, j, rfl, q⟩ := h
  exact ⟨i, j, rx.int_inv, ry.int_inv, kk _ H _ (Ext.refl H) Rep.int' q⟩
theorem sim_B {K : PySem.W.Frag} {f : Int → Int → Bool} : SimR K (rI0 fun i j => .bl (f i j)) (dB f) := fun H x y u v Q k rx ry h kk => by
  obtain ⟨i, rfl, j, rfl, q⟩ := h
  exact ⟨i, j, rx.int_inv, ry.int_inv, kk _ H _ (Ext.refl H) Rep.bl' q⟩
theorem ed_add (ha : ED W X a ta) (hb : ED W X b tb) : ED W X (.BinOp a .Add b pos) (dOp (dI0 (· + ·)) ta tb) := ed_op op_add sim_I0 ha hb
theorem ed_sub (ha : ED W X a ta) (hb : ED W X b tb) : ED W X (.BinOp a .Sub b pos) (dOp (dI0 (· - ·)) ta tb) := ed_op op_sub sim_I0 ha hb
theorem ed_mul (ha : ED W X a ta) (hb : ED W X b tb) : ED W X (.BinOp a .Mult b pos) (dOp (dI CMul (· * ·)) ta tb) := ed_op op_mul sim_I ha hb
theorem ed_mulW (ha : ED W X a ta) (hb : ED W X b tb) : ED W X (.BinOp a .Mult b pos) (dOp (dI CMulW (· * ·)) ta tb) := ed_op op_mulW sim_I ha hb
theorem ed_fdiv (ha : ED W X a ta) (hb : ED W X b tb) : ED W X (.BinOp a .FloorDiv b pos) (dOp (dI CDiv (· / ·)) ta tb) := ed_op op_fdiv sim_I ha hb
theorem ed_fdivW (ha : ED W X a ta) (hb : ED W X b tb) : ED W X (.BinOp a .FloorDiv b pos) (dOp (dI CDivW (· / ·)) ta tb) := ed_op op_fdivW sim_I ha hb
theorem ed_mod (ha : ED W X a ta) (hb : ED W X b tb) : ED W X (.BinOp a .Mod b pos) (dOp (dI (fun _ j => 0 < j) (· % ·)) ta tb) := ed_op op_mod sim_I ha hb
theorem ed_pow (ha : ED W X a ta) (hb : ED W X b tb) : ED W X (.BinOp a .Pow b pos) (dOp (dI CPow fun i j => i ^ j.toNat) ta tb) := ed_op op_pow sim_I ha hb
theorem ed_lt (ha : ED W X a ta) (hb : ED W X b tb) : ED W X (.Compare a [.Lt] [b] pos) (dOp (dB fun i j => decide (i < j)) ta tb) := ed_cmp op_lt sim_B ha hb (nomark _)
theorem ed_le (ha : ED W X a ta) (hb : ED W X b tb) : ED W X (.Compare a [.LtE] [b] pos) (dOp (dB fun i j => decide (i ≤ j)) ta tb) := ed_cmp op_le sim_B ha hb (nomark _)
theorem ed_gt (ha : ED W X a ta) (hb : ED W X b tb) : ED W X (.Compare a [.Gt] [b] pos) (dOp (dB fun i j => decide (j < i)) ta tb) := ed_cmp op_gt sim_B ha hb (nomark _)
theorem ed_ge (ha : ED W X a ta) (hb : ED W X b tb) : ED W X (.Compare a [.GtE] [b] pos) (dOp (dB fun i j => decide (j ≤ i)) ta tb) := ed_cmp op_ge sim_B ha hb (nomark _)
/-- ints, texts, True, None by == -/
def scalD : D → D → Bool
  | .int i, .int j => decide (i = j)
  | .str x, .str y => decide (x = y)
  | .bl x, .bl y => decide (x = y)
  | _, _ => false
def scalO : D → D → Bool
  | .int _, .int _ => true
  | .str _, .str _ => true
  | .bl _, .bl _ => true
  | _, _ => false
def dEq : DR := fun x y Q => scalO x y = true ∧ Q (.bl (scalD x y))
def dNe : DR := fun x y Q => scalO x y = true ∧ Q (.bl (!scalD x y))
theorem scal_rep {K : PySem.W.Frag} {H : Hp} {x y : D} {u v : V} (rx : Rep K H x u) (ry : Rep K H y v) (h : scalO x y = true) : scal u v = true ∧ decide (u = v) = scalD x y := by
  cases x <;> cases y <;> first | (exact absurd h Bool.false_ne_true) | skip
  · rw [rx.bl_inv, ry.bl_inv]
    refine ⟨rfl, ?_⟩
    simp [scalD]
  · rw [rx.int_inv, ry.int_inv]
    refine ⟨rfl, ?_⟩
    simp [scalD]
  · rw [rx.str_inv, ry.str_inv]
    refine ⟨rfl, ?_⟩
    simp [scalD]
theorem ed_eq (ha : ED W X a ta) (hb : ED W X b tb) : ED W X (.Compare a [.Eq] [b] pos) (dOp dEq ta tb) := ed_cmp op_eq (fun H x y u v Q k rx ry h kk => by
  obtain ⟨h1, h2⟩ := scal_rep rx ry h.1
  exact ⟨h1, kk _ H _ (Ext.refl H) (by rw [h2]; exact Rep.bl') h.2⟩) ha hb (nomark _)
theorem ed_ne (ha : ED W X a ta) (hb : ED W X b tb) : ED W X (.Compare a [.NotEq] [b] pos) (dOp dNe ta tb) := ed_cmp op_ne (fun H x y u v Q k rx ry h kk => by
  obtain ⟨h1, h2⟩ := scal_rep rx ry h.1
  exact ⟨h1, kk _ H _ (Ext.refl H) (by rw [h2]; exact Rep.bl') h.2⟩) ha hb (nomark _)
def isNon : D → Bool
  | .non => true
  | _ => false
theorem isNon_rep {K : PySem.W.Frag} {H : Hp} {x : D} {u : V} (r : Rep K H x u) : decide (u = .non) = isNon x := by
  cases x
  · rw [r.non_inv]
    simp [isNon]
  · rw [r.bl_inv]
    simp [isNon]
  · rw [r.int_inv]
    simp [isNon]
  · rw [r.str_inv]
    simp [isNon]
  · obtain ⟨_, _, e, _⟩ := r.tup_inv
    rw [e]
    simp [isNon]
  · obtain ⟨_, _, e, _⟩ := r.lst_inv
    rw [e]
    simp [isNon]
  · obtain ⟨_, _, _, e, _⟩ := r.ins_inv
    rw [e]
    simp [isNon]
/-- x is None, x is not None -/
def dUn (f : D → (D → Prop) → Prop) (ta : DE) : DE := fun ρ Q => ta ρ fun x => f x Q
theorem ed_isN {j pos'} (ha : ED W X a ta) : ED W X (.Compare a [.Is] [.Constant .none j pos'] pos) (dUn (fun x Q => Q (.bl (isNon x))) ta) := (pe_cmp (pc_isN ha)).weak fun σ H k h => by
  obtain ⟨ρ, Q, er, q, kk⟩ := h
  exact ⟨ρ, _, er, q, fun u H1 x s1 rx q1 => kk _ H1 _ s1 (by rw [isNon_rep rx]; exact Rep.bl') q1⟩
theorem ed_notN {j pos'} (ha : ED W X a ta) : ED W X (.Compare a [.IsNot] [.Constant .none j pos'] pos) (dUn (fun x Q => Q (.bl (!isNon x))) ta) := (pe_cmp (pc_notN ha)).weak fun σ H k h => by
  obtain ⟨ρ, Q, er, q, kk⟩ := h
  exact ⟨ρ, _, er, q, fun u H1 x s1 rx q1 => kk _ H1 _ s1 (by rw [isNon_rep rx]; exact Rep.bl') q1⟩
theorem ed_neg (ha : ED W X a ta) : ED W X (.UnaryOp .USub a pos) (dUn (fun x Q => ∃ i, x = .int i ∧ Q (.int (-i))) ta) := (pe_un un_neg ha).weak fun σ H k h => by
  obtain ⟨ρ, Q, er, q, kk⟩ := h
  refine ⟨ρ, _, er, q, fun u H1 x s1 rx q1 => ?_⟩
  obtain ⟨i, rfl, q1⟩ := q1
  exact ⟨i, rx.int_inv, kk _ H1 _ s1 Rep.int' q1⟩


def dTest (ta : DE) : DT := fun ρ Q => ta ρ fun x => ∃ b, x = .bl b ∧ Q b
theorem td_val (ha : ED W X e ta) (he : ∀ whole, isTrue e X.env whole = (do let v ← whole; standAt e.pos; holding [v] (truthy v)) := by intro _; rfl) : TD W X e (dTest ta) := (pt_val ha he).weak fun σ H k h => by
  obtain ⟨ρ, Q, er, q, kk⟩ := h
  refine ⟨ρ, _, er, q, fun u H1 x s1 rx q1 => ?_⟩
  obtain ⟨b, rfl, q1⟩ := q1
  exact ⟨b, rx.bl_inv, kk b H1 s1 q1⟩
/-- a comparison as a test -/
theorem td_cmp {op : CmpOp} {r : R2} {d : DR} (ho : OpR X (compareOp op) r) (s : SimR X.K r d) (ha : ED W X a ta) (hb : ED W X b tb) (hm : behindInMarks op b = false) : TD W X (.Compare a [op] [b] pos) (dTest (dOp d ta tb)) := (pt_cmpR ho ha hb hm).weak fun σ H k h => by
  obtain ⟨ρ, Q, er, q, kk⟩ := h
  refine sim_op (W := W) (ta := ta) (tb := tb) s σ H _ ⟨ρ, _, er, q, fun u H1 x s1 rx q1 => ?_⟩
  obtain ⟨b, rfl, q1⟩ := q1
  exact ⟨b, rx.bl_inv, kk b H1 s1 q1⟩
theorem td_lt (ha : ED W X a ta) (hb : ED W X b tb) : TD W X (.Compare a [.Lt] [b] pos) (dTest (dOp (dB fun i j => decide (i < j)) ta tb)) := td_cmp op_lt sim_B ha hb (nomark _)
theorem td_le (ha : ED W X a ta) (hb : ED W X b tb) : TD W X (.Compare a [.LtE] [b] pos) (dTest (dOp (dB fun i j => decide (i ≤ j)) ta tb)) := td_cmp op_le sim_B ha hb (nomark _)
theorem td_gt (ha : ED W X a ta) (hb : ED W X b tb) : TD W X (.Compare a [.Gt] [b] pos) (dTest (dOp (dB fun i j => decide (j < i)) ta tb)) := td_cmp op_gt sim_B ha hb (nomark _)
theorem td_ge (ha : ED W X a ta) (hb : ED W X b tb) : TD W X (.Compare a [.GtE] [b] pos) (dTest (dOp (dB fun i j => decide (j ≤ i)) ta tb)) := td_cmp op_ge sim_B ha hb (nomark _)
theorem sim_eq {K : PySem.W.Frag} : SimR K rEq dEq := fun H x y u v Q k rx ry h kk => by
  obtain ⟨h1, h2⟩ := scal_rep rx ry h.1
  exact ⟨h1, kk _ H _ (Ext.refl H) (by rw [h2]; exact Rep.bl') h.2⟩
theorem sim_ne {K : PySem.W.Frag} : SimR K rNe dNe := fun H x y u v Q k rx ry h kk => by
  obtain ⟨h1, h2⟩ := scal_rep rx ry h.1
  exact ⟨h1, kk _ H _ (Ext.refl H) (by rw [h2]; exact Rep.bl') h.2⟩
theorem td_eq (ha : ED W X a ta) (hb : ED W X b tb) : TD W X (.Compare a [.Eq] [b] pos) (dTest (dOp dEq ta tb)) := td_cmp op_eq sim_eq ha hb (nomark _)
theorem td_ne (ha : ED W X a ta) (hb : ED W X b tb) : TD W X (.Compare a [.NotEq] [b] pos) (dTest (dOp dNe ta tb)) := td_cmp op_ne sim_ne ha hb (nomark _)
/-- a comparison with None as a test -/
theorem td_pc {op : CmpOp} {t : TE} {d : DE} (h : PC X op a b t) (w : ∀ σ H k, lift W X.K d σ H k → t σ H k) (h1 : behindInMarks op b = false := by first | exact nobehind _ (by decide) (by decide) | rfl) : TD W X (.Compare a [op] [b] pos) (dTest d) := (pt_cmp h h1).weak fun σ H k h => by
  obtain ⟨ρ, Q, er, q, kk⟩ := h
  refine w σ H _ ⟨ρ, _, er, q, fun u H1 x s1 rx q1 => ?_⟩
  obtain ⟨b, rfl, q1⟩ := q1
  exact ⟨b, rx.bl_inv, kk b H1 s1 q1⟩
theorem td_isN {j pos'} (ha : ED W X a ta) : TD W X (.Compare a [.Is] [.Constant .none j pos'] pos) (dTest (dUn (fun x Q => Q (.bl (isNon x))) ta)) := td_pc (pc_isN ha) fun σ H k h => by
  obtain ⟨ρ, Q, er, q, kk⟩ := h
  exact ⟨ρ, _, er, q, fun u H1 x s1 rx q1 => kk _ H1 _ s1 (by rw [isNon_rep rx]; exact Rep.bl') q1⟩
theorem td_notN {j pos'} (ha : ED W X a ta) : TD W X (.Compare a [.IsNot] [.Constant .none j pos'] pos) (dTest (dUn (fun x Q => Q (.bl (!isNon x))) ta)) := td_pc (pc_notN ha) fun σ H k h => by
  obtain ⟨ρ, Q, er, q, kk⟩ := h
  exact ⟨ρ, _, er, q, fun u H1 x s1 rx q1 => kk _ H1 _ s1 (by rw [isNon_rep rx]; exact Rep.bl') q1⟩
def dAnd (t u : DT) : DT := fun ρ Q => t ρ fun c => if c = true then u ρ Q else Q false
def dOr (t u : DT) : DT := fun ρ Q => t ρ fun c => if c = true then Q true else u ρ Q
def dNot (t : DT) : DT := fun ρ Q => t ρ fun c => Q (!c)
variable {rest : List Expr} {tA tB' : DT}
theorem wd_and1 (ha : TD W X a tA) : WD W X (.BoolOp .And [a] pos) tA := pw_and1 ha
theorem wd_or1 (ha : TD W X a tA) : WD W X (.BoolOp .Or [a] pos) tA := pw_or1 ha
theorem wd_and (ha : TD W X a tA) (hb : WD W X (.BoolOp .And (b :: rest) pos) tB') : WD W X (.BoolOp .And (a :: b :: rest) pos) (dAnd tA tB') := (pw_and ha hb).weak fun σ H k h => by
  obtain ⟨ρ, Q, er, q, kk⟩ := h
  refine ⟨ρ, _, er, q, fun b H1 s1 q1 => ?_⟩
  cases b with
  | true => exact iteT ⟨ρ, Q, er.mono s1, (by simpa using q1), fun b H2 s2 q2 => kk b H2 (s1.trans s2) q2⟩
  | false => exact iteF (kk false H1 s1 (by simpa using q1))
theorem wd_or (ha : TD W X a tA) (hb : WD W X (.BoolOp .Or (b :: rest) pos) tB') : WD W X (.BoolOp .Or (a :: b :: rest) pos) (dOr tA tB') := (pw_or ha hb).weak fun σ H k h => by
  obtain ⟨ρ, Q, er, q, kk⟩ := h
  refine ⟨ρ, _, er, q, fun b H1 s1 q1 => ?_⟩
  cases b with
  | false => exact iteF ⟨ρ, Q, er.mono s1, (by simpa using q1), fun b H2 s2 q2 => kk b H2 (s1.trans s2) q2⟩
  | true => exact iteT (kk true H1 s1 (by simpa using q1))
theorem td_not (ha : TD W X a tA) : TD W X (.UnaryOp .Not a pos) (dNot tA) := (pt_not ha).weak fun σ H k h => by
  obtain ⟨ρ, Q, er, q, kk⟩ := h
  exact ⟨ρ, _, er, q, fun b H1 s1 q1 => kk _ H1 s1 q1⟩
/-- and, or, not as values -/
def dAndV (ta tb : DE) : DE := fun ρ Q => ta ρ fun x => ∃ c, x = .bl c ∧ if c = true then tb ρ Q else Q (.bl false)
def dOrV (ta tb : DE) : DE := fun ρ Q => ta ρ fun x => ∃ c, x = .bl c ∧ if c = true then Q (.bl true) else tb ρ Q
theorem ed_one {op} (h : ED W X a ta) : ED W X (.BoolOp op [a] pos) ta := pe_one h
theorem ed_and (ha : ED W X a ta) (hb : ED W X (.BoolOp .And (b :: rest) pos) tb) : ED W X (.BoolOp .And (a :: b :: rest) pos) (dAndV ta tb) := (pe_and ha hb).weak fun σ H k h => by
  obtain ⟨ρ, Q, er, q, kk⟩ := h
  refine ⟨ρ, _, er, q, fun u H1 x s1 rx q1 => ?_⟩
  obtain ⟨c, rfl, q1⟩ := q1
  refine ⟨c, rx.bl_inv, ?_⟩
  cases c with
  | true => exact iteT ⟨ρ, Q, er.mono s1, (by simpa using q1), fun b H2 x s2 r2 q2 => kk b H2 x (s1.trans s2) r2 q2⟩
  | false => exact iteF (kk _ H1 _ s1 Rep.bl' (by simpa using q1))
theorem ed_or (ha : ED W X a ta) (hb : ED W X (.BoolOp .Or (b :: rest) pos) tb) : ED W X (.BoolOp .Or (a :: b :: rest) pos) (dOrV ta tb) := (pe_or ha hb).weak fun σ H k h => by
  obtain ⟨ρ, Q, er, q, kk⟩ := h
  refine ⟨ρ, _, er, q, fun u H1 x s1 rx q1 => ?_⟩
  obtain ⟨c, rfl, q1⟩ := q1
  refine ⟨c, rx.bl_inv, ?_⟩
  cases c with
  | false => exact iteF ⟨ρ, Q, er.mono s1, (by simpa using q1), fun b H2 x s2 r2 q2 => kk b H2 x (s1.trans s2) r2 q2⟩
  | true => exact iteT (kk _ H1 _ s1 Rep.bl' (by simpa using q1))
theorem ed_not (ha : ED W X a ta) : ED W X (.UnaryOp .Not a pos) (dUn (fun x Q => ∃ c, x = .bl c ∧ Q (.bl (!c))) ta) := (pe_not ha).weak fun σ H k h => by
  obtain ⟨ρ, Q, er, q, kk⟩ := h
  refine ⟨ρ, _, er, q, fun u H1 x s1 rx q1 => ?_⟩
  obtain ⟨c, rfl, q1⟩ := q1
  exact ⟨c, rx.bl_inv, kk _ H1 _ s1 Rep.bl' q1⟩
def dIf (t : DT) (ta tb : DE) : DE := fun ρ Q => t ρ fun c => if c = true then ta ρ Q else tb ρ Q
theorem ed_ifExp (hc : TD W X c tA) (ha : ED W X a ta) (hb : ED W X b tb) : ED W X (.IfExp c a b pos) (dIf tA ta tb) := (pe_ifExp hc ha hb).weak fun σ H k h => by
  obtain ⟨ρ, Q, er, q, kk⟩ := h
  refine ⟨ρ, _, er, q, fun b H1 s1 q1 => ?_⟩
  cases b with
  | true => exact iteT ⟨ρ, Q, er.mono s1, (by simpa using q1), fun b H2 x s2 r2 q2 => kk b H2 x (s1.trans s2) r2 q2⟩
  | false => exact iteF ⟨ρ, Q, er.mono s1, (by simpa using q1), fun b H2 x s2 r2 q2 => kk b H2 x (s1.trans s2) r2 q2⟩


def dNil : DA := fun _ Q => Q []
def dCons (ta : DE) (tr : DA) : DA := fun ρ Q => ta ρ fun x => tr ρ fun xs => Q (x :: xs)
theorem ad_nil : AD W X [] dNil := pa_nil.weak fun σ H k h => by
  obtain ⟨ρ, Q, er, q, kk⟩ := h
  exact kk [] H [] Stp.refl Reps.nil q
theorem ad_cons {tr : DA} (ha : ED W X e ta) (hr : AD W X es tr) (hs : starEach (e :: es) X.env = (false, eval e X.env) :: starEach es X.env := by rfl) : AD W X (e :: es) (dCons ta tr) := (pa_cons ha hr hs).weak fun σ H k h => by
  obtain ⟨ρ, Q, er, q, kk⟩ := h
  refine ⟨ρ, _, er, q, fun u H1 x s1 rx q1 => ⟨ρ, _, er.mono s1, q1, fun us H2 xs s2 rs q2 => ?_⟩⟩
  exact kk _ H2 _ (s1.trans s2) (Reps.cons (rx.mono ((er.mono s1).keep s2)) rs) q2
/-- the hand ahead of the others -/
def dHand (i : Nat) (tr : DA) : DA := fun ρ Q => ρ[i]? = some (some .hand) ∧ tr ρ Q
theorem ah_cons (i : Nat) {x : Str} {pos : Pos} {tr : DA} (hr : AD W X es tr) (hs : starEach (.Name x pos :: es) X.env = (false, eval (.Name x pos) X.env) :: starEach es X.env := by rfl)
    (hN : X.N[i]? = some x := by rfl) (hv : Vis X.env.scope x := by first | exact Or.inl rfl | exact Or.inr (Or.inl rfl) | exact Or.inr (Or.inr rfl)) (hd : (x == ("__debug__" : Str)) = false := by decide)
    (hcd : (x == ("__classdict__" : Str)) = false := by decide) : AH W X (.Name x pos :: es) (dHand i tr) := (pa_cons (pe_var hN hv hd hcd) hr hs).weak fun σ H k h => by
  obtain ⟨ρ, Q, er, ⟨e, q⟩, kk⟩ := h
  obtain ⟨L, ev, eL⟩ := er.sl i _ e
  exact ⟨_, ev, ρ, _, er, q, fun us H2 xs s2 rs q2 => kk L us H2 xs eL s2 (s2.hand er.hand) rs q2⟩
def dTup (t : DA) : DE := fun ρ Q => t ρ fun xs => Nat.ble xs.length 1000 = true ∧ Q (.tup xs)
theorem le1000 {n : Nat} (h : n ≤ 1000) : n ≤ sizeLine := Nat.le_of_lt (small1000 h)
theorem ed_tup {x1} {t : DA} (h : AD W X es t) : ED W X (.Tuple es x1 pos) (dTup t) := (pe_tup h).weak fun σ H k h => by
  obtain ⟨ρ, Q, er, q, kk⟩ := h
  refine ⟨ρ, _, er, q, fun us H1 xs s1 rs ⟨hl, q1⟩ => ⟨le1000 (by rw [rs.len]; exact Nat.le_of_ble_eq_true hl), fun p hp => ?_⟩⟩
  exact kk _ _ _ (s1.trans (Stp.new hp)) (Rep.tup' (SqT.of upd_same) (rs.mono (Ext.new hp).keep)) q1
def dLst (t : DA) : DA := fun ρ Q => t ρ fun xs => Nat.ble xs.length 1000 = true ∧ Q xs
theorem Off.upd {hd : Option Addr} {H : Hp} {p : Addr} {o : HO} (hok : HandOk hd H) (h : H p = none) : Off hd (L2.upd H p o) p := fun L g e hg => by
  obtain ⟨g0, hg0⟩ := hok L e
  have hg1 := hg0.ext (Ext.new (o := o) h)
  have eg := hg.fn hg1
  subst eg
  exact Off.new h L g e hg0
theorem eo_lst {t : DA} (h : AD W X es t) : EO W X (.List es pos) (dLst t) := (pe_lst h).weak fun σ H k h => by
  obtain ⟨ρ, Q, er, q, kk⟩ := h
  refine ⟨ρ, _, er, q, fun us H1 xs s1 rs ⟨hl, q1⟩ => ⟨le1000 (by rw [rs.len]; exact Nat.le_of_ble_eq_true hl), fun p hp => ?_⟩⟩
  exact kk p us _ xs (s1.trans (Stp.new hp)) (s1.back hp) upd_same (Off.upd (s1.hand er.hand) hp) (rs.mono (Ext.new hp).keep) q1


theorem frz_inv {pins : List (Addr × Obj)} {σ : L2.St} {H : Hp} {s : Shared} {p : Addr} {vs : List V} (I : Inv X pins σ H s) (h : H p = some (.lst vs)) : ∃ o, Inv X pins σ (L2.upd H p (.frz o (.lst vs))) s := by
  obtain ⟨z, its, n, r, e⟩ := I.hok p _ h
  refine ⟨_, I.un (t' := s.toks) (h' := s.heap) (H' := L2.upd H p (.frz { cls := .type "list", data := .seq its.toArray n } (.lst vs))) ?_ ?_⟩
  · have ne : ∀ {b : Addr}, H b = none → b ≠ p := fun {b} q z => by rw [z, h] at q; cases q
    have ne2 : ∀ {b : Addr} {u : HO}, H b = some u → u ≠ .lst vs → b ≠ p := fun {b u} q d z => by
      rw [z, h] at q
      cases q
      exact d rfl
    exact ⟨fun b o q _ _ _ => q, fun b o q _ _ _ => ⟨o.slots, q⟩, fun b o _ q _ => by rw [upd_ne (ne q)]; exact q, fun b o q _ => ⟨o, q⟩,
      fun b xs q => by rw [upd_ne (ne2 q (fun z => by cases z))]; exact q, fun b o u q => by rw [upd_ne (ne2 q (fun z => by cases z))]; exact q,
      fun b ps q => ⟨#[], by rw [upd_ne (ne2 q (fun z => by cases z)), q]; simp⟩⟩
  · intro b u q
    by_cases hb : b = p
    · subst hb
      rw [upd_same] at q
      cases q
      exact ⟨e, z, its, n, r, e⟩
    · rw [upd_ne hb] at q
      refine (I.hok b u q).stay (fun c v _ z => z) (fun c z => ?_) (fun c xs z => ?_)
      · have : c ≠ p := fun y => by rw [y, h] at z; cases z
        rw [upd_ne this]
        exact z
      · have : c ≠ p := fun y => by rw [y, h] at z; cases z
        rw [upd_ne this]
        exact z
def tFrz (t : TE) : TE := fun σ H k => t σ H fun v H' => ∃ p vs, v = .ref p ∧ H' p = some (.lst vs) ∧ ∀ o, k v (L2.upd H' p (.frz o (.lst vs)))
theorem pe_frz {t : TE} (h : PE X e t) : PE X e (tFrz t) := ⟨fun pins s σ H Q I hq => thn (h.run pins s σ H _ I hq) fun u s' ⟨v, H', I', r, p, vs, ev, hp, k⟩ => by
  obtain ⟨o, J⟩ := frz_inv I' hp
  exact ⟨v, _, J, r, k o⟩⟩
def dFrz (t : DA) : DE := fun ρ Q => t ρ fun xs => Q (.lst xs)
theorem keep_frz {H : Hp} {p : Addr} {vs : List V} {o : Obj} (h : H p = some (.lst vs)) : Keep H (L2.upd H p (.frz o (.lst vs))) := fun a u im ea => by
  have ne : a ≠ p := fun z => by
    rw [z, h] at ea
    cases ea
    exact im
  rw [upd_ne ne]
  exact ea
theorem ed_frz {t : DA} (h : EO W X e t) : ED W X e (dFrz t) := (pe_frz h).weak fun σ H k h => by
  obtain ⟨ρ, Q, er, q, kk⟩ := h
  refine ⟨ρ, _, er, q, fun p vs H' xs s1 hp hl off rs q1 => ⟨p, vs, rfl, hl, fun o => ?_⟩⟩
  have kp := keep_frz (o := o) hl
  refine kk _ _ _ ?_ (Rep.lst' ⟨o, upd_same⟩ (rs.mono kp)) q1
  revert s1 off
  have hok := er.hand
  revert hok
  cases W.hd with
  | none =>
    intro hok s1 off a u ea
    have ne : a ≠ p := fun z => by rw [z, hp] at ea; cases ea
    show L2.upd H' p (.frz o (.lst vs)) a = some u
    rw [upd_ne ne]
    exact s1 a u ea
  | some L =>
    intro hok s1 off
    refine ⟨fun g hg => ?_, fun a z => ?_⟩
    · obtain ⟨g', hg', n, k⟩ := s1.1 g hg
      obtain ⟨f1, f2⟩ := off L g' rfl hg'
      obtain ⟨zs, m, c, h1, h2, h3, h4⟩ := hg'
      refine ⟨g', ⟨zs, m, c, by rw [upd_ne (Ne.symm f1)]; exact h1, by rw [upd_ne (Ne.symm f2)]; exact h2, h3, h4⟩, n, fun a u ea x1 x2 => ?_⟩
      have ne : a ≠ p := fun z => by rw [z, hp] at ea; cases ea
      rw [upd_ne ne]
      exact k a u ea x1 x2
    · by_cases ea : a = p
      · rw [ea]
        exact hp
      · rw [upd_ne ea] at z
        exact s1.2 a z


theorem atI_rep {K : PySem.W.Frag} {H : Hp} {xs : List D} {vs : List V} {i : Int} {x : D} (r : Reps K H xs vs) (h : atI xs i = some x) : ∃ v, atI vs i = some v ∧ Rep K H x v := by
  unfold atI at h
  obtain ⟨j, h1, h2⟩ := Option.bind_eq_some_iff.mp h
  obtain ⟨v, h3, h4⟩ := r.get h2
  refine ⟨v, ?_, h4⟩
  unfold atI
  rw [r.len, h1]
  exact h3
def itemsD : D → Option (List D)
  | .tup xs => some xs
  | .lst xs => some xs
  | _ => none
theorem itemsD_inv : ∀ {x : D} {xs : List D}, itemsD x = some xs → x = .tup xs ∨ x = .lst xs
  | .tup _, _, h => .inl (congrArg D.tup (Option.some.inj h))
  | .lst _, _, h => .inr (congrArg D.lst (Option.some.inj h))
  | .non, _, h => nomatch h
  | .bl _, _, h => nomatch h
  | .int _, _, h => nomatch h
  | .str _, _, h => nomatch h
  | .ins _ _ _, _, h => nomatch h
def dIx : DR := fun x y Q => ∃ xs, itemsD x = some xs ∧ ∃ i, y = .int i ∧ ∃ z, atI xs i = some z ∧ Q z
theorem sim_ix {K : PySem.W.Frag} : SimR K (rIx K) dIx := fun H x y u v Q k rx ry h kk => by
  obtain ⟨xs, hx, i, rfl, z, hz, q⟩ := h
  rcases itemsD_inv hx with rfl | rfl
  · obtain ⟨p, vs, rfl, s, r⟩ := rx.tup_inv
    obtain ⟨w, h1, h2⟩ := atI_rep r hz
    exact .inr (.inl ⟨p, vs, i, w, rfl, ry.int_inv, s, h1, kk _ H _ (Ext.refl H) h2 q⟩)
  · obtain ⟨p, vs, rfl, s, r⟩ := rx.lst_inv
    obtain ⟨w, h1, h2⟩ := atI_rep r hz
    exact .inl ⟨p, vs, i, w, rfl, ry.int_inv, s.l, h1, kk _ H _ (Ext.refl H) h2 q⟩
end
end DL
end

section
set_option Elab.async false
set_option linter.all false
set_option maxRecDepth 100000
set_option maxHeartbeats 4000000

namespace DL
open PySem PySem.Spec PyProof.Rows L2
section
variable {W : Wd} {X : Cx} {e a b c o : Expr} {es : List Expr} {pos : Pos} {ta tb tc : DE} {t : DA}

theorem ed_ix (ha : ED W X a ta) (hb : ED W X b tb) (hs : PlainIx b := by exact (fun _ _ => rfl)) : ED W X (.Subscript a b pos) (dOp dIx ta tb) := (pe_ix ix_seq ha hb hs).weak (sim_op sim_ix)
/-- an item of a list of the def's own -/
def dIxO (i : Nat) (tb : DE) : DE := fun ρ Q => ∃ xs, ρ[i]? = some (some (.own xs)) ∧ tb ρ fun y => ∃ k, y = .int k ∧ ∃ z, atI xs k = some z ∧ Q z
theorem ed_ixO (i : Nat) {x : Str} {p : Pos} (hb : ED W X b tb) (hs : PlainIx b := by exact (fun _ _ => rfl)) (hN : X.N[i]? = some x := by rfl) (hv : Vis X.env.scope x := by first | exact Or.inl rfl | exact Or.inr (Or.inl rfl) | exact Or.inr (Or.inr rfl))
    (hd : (x == ("__debug__" : Str)) = false := by decide) (hcd : (x == ("__classdict__" : Str)) = false := by decide) : ED W X (.Subscript (.Name x p) b pos) (dIxO i tb) := (pe_ix ix_list (pe_var hN hv hd hcd) hb hs).weak fun σ H k h => by
  obtain ⟨ρ, Q, er, ⟨xs, e, q⟩, kk⟩ := h
  obtain ⟨l, vs, el, hl, rs, n0, off⟩ := er.sl i _ e
  refine ⟨_, el, ρ, _, er, q, fun u H1 y s1 ry q1 => ?_⟩
  obtain ⟨n, rfl, z, hz, q1⟩ := q1
  obtain ⟨w, h1, h2⟩ := atI_rep (rs.mono (er.keep s1)) hz
  exact ⟨l, vs, n, w, rfl, ry.int_inv, SqL.of (off.stp er.hand s1 hl).1, h1, kk _ H1 _ s1 h2 q1⟩
/-- t[1:] of a tuple that is not empty -/
def tailD : D → Option (List D)
  | .tup (_ :: ys) => some ys
  | _ => none
theorem tailD_inv : ∀ {x : D} {ys : List D}, tailD x = some ys → ∃ y, x = .tup (y :: ys)
  | .tup (y :: _), _, h => ⟨y, by rw [← Option.some.inj h]⟩
  | .tup [], _, h => nomatch h
  | .lst _, _, h => nomatch h
  | .non, _, h => nomatch h
  | .bl _, _, h => nomatch h
  | .int _, _, h => nomatch h
  | .str _, _, h => nomatch h
  | .ins _ _ _, _, h => nomatch h
def dTail (ta : DE) : DE := fun ρ Q => ta ρ fun x => ∃ ys, tailD x = some ys ∧ Q (.tup ys)
theorem cut1 (xs : List V) : cutV xs (some 1) none = xs.drop 1 := by
  unfold cutV
  rw [show HT.sIx xs.length 0 (some 1) = min 1 xs.length from HT.sIx_nat xs.length 0 1, HT.sIx_none]
  cases xs with
  | nil => rfl
  | cons x r =>
    rw [show min 1 (x :: r).length = 1 by rw [List.length_cons]; omega]
    show (List.take ((x :: r).length - 1) r) = r
    rw [List.length_cons, Nat.add_sub_cancel]
    exact List.take_length
theorem ed_tail {j p1 p2} (ha : ED W X a ta) : ED W X (.Subscript a (.Slice (some (.Constant (.int 1) j p1)) none none p2) pos) (dTail ta) := (pe_slice sl_tup ha (po_some pe_int) po_none).weak fun σ H k h => by
  obtain ⟨ρ, Q, er, q, kk⟩ := h
  refine ⟨ρ, _, er, q, fun u H1 x s1 rx q1 => ⟨1, rfl, ?_⟩⟩
  obtain ⟨ys, hy, q1⟩ := q1
  obtain ⟨y, rfl⟩ := tailD_inv hy
  obtain ⟨p, vs, rfl, st, r⟩ := rx.tup_inv
  obtain ⟨v, ws, rfl, r1, r2⟩ := r.cons_inv
  refine ⟨p, _, rfl, st, fun z => ?_, fun q hq => ?_⟩
  · have z1 := z.1
    rw [show HT.sIx (v :: ws).length 0 (some 1) = min 1 (v :: ws).length from HT.sIx_nat _ 0 1, List.length_cons] at z1
    omega
  · rw [cut1]
    exact kk _ _ _ (s1.trans (Stp.new hq)) (Rep.tup' (SqT.of upd_same) (r2.mono (Ext.new hq).keep)) q1


/-- a def's promise by data: the arguments, what is wanted of the answer, what is wanted of a class raised -/
abbrev DSp := List D → (D → Prop) → (Addr → Prop) → Prop
def spP (K : PySem.W.Frag) (s : DSp) : Sp := fun vs H k E => ∃ ds Q EQ, Reps K H ds vs ∧ s ds Q EQ ∧ (∀ v H' x, Ext H H' → Rep K H' x v → Q x → k v H') ∧ ∀ c d H', Ext H H' → EQ c → E (.ref c) d H'
/-- .. of a def whose first argument is the hand -/
def spH (K : PySem.W.Frag) (s : DSp) : Sp := fun vs H k _ => ∃ L us ds Q, vs = .ref L :: us ∧ HandOk (some L) H ∧ Reps K H ds us ∧ s ds Q (fun _ => False) ∧ ∀ v H' x, Stp (some L) H H' → Rep K H' x v → Q x → k v H'
def dCall (s : DSp) (t : DA) : DE := fun ρ Q => t ρ fun ds => s ds Q fun _ => False
def dCallX (s : DSp) (EX : Addr → Prop) (t : DA) : DE := fun ρ Q => t ρ fun ds => s ds Q EX
/-- what an exception that leaves is known by -/
def XKof (W : Wd) (EX : Addr → Prop) : XK := fun u _ H' => ∃ c, u = .ref c ∧ EX c ∧ Stp W.hd W.h0 H'
variable {k : Nat} {f C : Addr} {fd : FuncData} {ps : List Str} {s : DSp} {x m : Str} {p apos : Pos} {EX : Addr → Prop}
theorem sim_call {dxs : List D} {dvs : List V} (hd : ∀ H, Reps X.K H dxs dvs) : ∀ σ H k, lift W X.K (fun ρ Q => t ρ fun ds => s (ds ++ dxs) Q EX) σ H k → tCall (spP X.K s) dvs (XKof W EX) (liftA W X.K t) σ H k := fun σ H k h => by
  obtain ⟨ρ, Q, er, q, kk⟩ := h
  refine ⟨ρ, _, er, q, fun vs H1 ds s1 rs q1 => ⟨ds ++ dxs, Q, EX, rs.append (hd H1), q1, fun v H' x e r qx => kk v H' x (s1.trans (Stp.of e)) r qx, fun c d H' e ec => ⟨c, rfl, ec, (er.stp.trans s1).trans (Stp.of e)⟩⟩⟩
theorem passF {CX : CXT} {E : XK} (h : ∀ u d H, ¬ E u d H) (hx : Passes CX X E0) (mono : ∀ l H s e s', CX l H s E e s' → CX l H s E0 e s') : Passes CX X E := fun pins σ H s e s' I c => hx pins σ H s e s' I (mono _ _ _ _ _ c)
/-- a call of a def that raises nothing -/
theorem ed_call (F : FnOk X.prog X.w X.K X.mg X.base CX0 k f fd ps (spP X.K s)) (hr : Room k X.A) (hg : Gl X x) (hm : X.mg x = some (.ref f)) (hk : PySem.W.keepIn X.K (.ref f) = true) (hb : Binds X.K fd ps []) (ha : AD W X (e :: es) t)
    (hdb : (x == ("__debug__" : Str)) = false := by decide) (he : starEach (e :: es) X.env = (false, eval e X.env) :: starEach es X.env := by rfl) (hpl : (backTo pos (starEach es X.env)).any (·.1) = false := by rfl) :
    ED W X (.Call (.Name x p) (e :: es) [] pos) (dCall s t) := (pe_call (E := XKof W fun _ => False) F hr hg hm hk hb .nil (fun _ _ _ _ _ _ _ h => h.elim) ha hdb he hpl).weak fun σ H k h => sim_call (dxs := []) (fun _ => Reps.nil) σ H k (by
  obtain ⟨ρ, Q, er, q, kk⟩ := h
  refine ⟨ρ, Q, er, ?_, kk⟩
  have e1 : (fun ds => s (ds ++ []) Q fun _ => False) = fun ds => s ds Q fun _ => False := by funext ds; rw [List.append_nil]
  show t ρ fun ds => s (ds ++ []) Q fun _ => False
  rw [e1]
  exact q)
/-- .. with the last parameters by their defaults -/
def dCallD (s : DSp) (dxs : List D) (t : DA) : DE := fun ρ Q => t ρ fun ds => s (ds ++ dxs) Q fun _ => False
theorem ed_callD {dxs : List D} {dvs : List V} {dus : List Value} (F : FnOk X.prog X.w X.K X.mg X.base CX0 k f fd ps (spP X.K s)) (hr : Room k X.A) (hg : Gl X x) (hm : X.mg x = some (.ref f)) (hk : PySem.W.keepIn X.K (.ref f) = true) (hb : Binds X.K fd ps dus) (hv : Vals dvs dus)
    (hd : ∀ H, Reps X.K H dxs dvs) (ha : AD W X (e :: es) t)
    (hdb : (x == ("__debug__" : Str)) = false := by decide) (he : starEach (e :: es) X.env = (false, eval e X.env) :: starEach es X.env := by rfl) (hpl : (backTo pos (starEach es X.env)).any (·.1) = false := by rfl) :
    ED W X (.Call (.Name x p) (e :: es) [] pos) (dCallD s dxs t) := (pe_call (E := XKof W fun _ => False) F hr hg hm hk hb hv (fun _ _ _ _ _ _ _ h => h.elim) ha hdb he hpl).weak (sim_call hd)
/-- a call of a def that may raise -/
theorem ed_callX {CX : CXT} (F : FnOk X.prog X.w X.K X.mg X.base CX k f fd ps (spP X.K s)) (hr : Room k X.A) (hg : Gl X x) (hm : X.mg x = some (.ref f)) (hk : PySem.W.keepIn X.K (.ref f) = true) (hb : Binds X.K fd ps []) (hx : Passes CX X (XKof W EX)) (ha : AD W X (e :: es) t)
    (hdb : (x == ("__debug__" : Str)) = false := by decide) (he : starEach (e :: es) X.env = (false, eval e X.env) :: starEach es X.env := by rfl) (hpl : (backTo pos (starEach es X.env)).any (·.1) = false := by rfl) :
    ED W X (.Call (.Name x p) (e :: es) [] pos) (dCallX s EX t) := (pe_call F hr hg hm hk hb .nil hx ha hdb he hpl).weak fun σ H k h => sim_call (dxs := []) (fun _ => Reps.nil) σ H k (by
  obtain ⟨ρ, Q, er, q, kk⟩ := h
  refine ⟨ρ, Q, er, ?_, kk⟩
  have e1 : (fun ds => s (ds ++ []) Q EX) = fun ds => s ds Q EX := by funext ds; rw [List.append_nil]
  show t ρ fun ds => s (ds ++ []) Q EX
  rw [e1]
  exact q)
/-- a call with the hand ahead -/
theorem ed_callH (F : FnOk X.prog X.w X.K X.mg X.base CX0 k f fd ps (spH X.K s)) (hr : Room k X.A) (hg : Gl X x) (hm : X.mg x = some (.ref f)) (hk : PySem.W.keepIn X.K (.ref f) = true) (hb : Binds X.K fd ps []) (ha : AH W X (e :: es) t)
    (hdb : (x == ("__debug__" : Str)) = false := by decide) (he : starEach (e :: es) X.env = (false, eval e X.env) :: starEach es X.env := by rfl) (hpl : (backTo pos (starEach es X.env)).any (·.1) = false := by rfl) :
    ED W X (.Call (.Name x p) (e :: es) [] pos) (dCall s t) := (pe_call (E := E0) F hr hg hm hk hb .nil pass0 ha hdb he hpl).weak fun σ H k h => by
  obtain ⟨ρ, Q, er, q, kk⟩ := h
  refine ⟨ρ, _, er, q, fun L vs H1 ds eL s1 ho rs q1 => ⟨L, vs, ds, Q, by rw [List.append_nil], by rw [← eL]; exact ho, rs, q1, fun v H' x st r qx => kk v H' x (s1.trans (by rw [eL]; exact st)) r qx⟩⟩
theorem lookup_none {ns : List Str} {m : Str} (h : m ∉ ns) : ∀ {α : Type} (xs : List α), (ns.zip xs).lookup m = none := by
  intro α xs
  induction ns generalizing xs with
  | nil => rfl
  | cons n ns ih =>
    cases xs with
    | nil => rfl
    | cons x xs =>
      have h1 : ¬ m = n := fun z => h (by rw [z]; exact List.mem_cons_self ..)
      show (match m == n with | true => some x | false => (ns.zip xs).lookup m) = none
      rw [beq_false_of_ne h1]
      exact ih (fun z => h (List.mem_cons_of_mem _ z)) xs
theorem lookup_rep {K : PySem.W.Frag} {H : Hp} {f : Str} {y : D} : ∀ {ns : List Str} {xs : List D} {vs : List V}, Reps K H xs vs → (ns.zip xs).lookup f = some y → ∃ v, (ns.zip vs).lookup f = some v ∧ Rep K H y v
  | [], xs, vs, _, h => by cases h
  | n :: ns, [], vs, _, h => by cases h
  | n :: ns, x :: xs, vs, r, h => by
    obtain ⟨v, ws, rfl, r1, r2⟩ := r.cons_inv
    have h' : (match f == n with | true => some x | false => (ns.zip xs).lookup f) = some y := h
    cases q : f == n with
    | true =>
      rw [q] at h'
      have e : x = y := Option.some.inj h'
      refine ⟨v, ?_, by rw [← e]; exact r1⟩
      show (match f == n with | true => some v | false => (ns.zip ws).lookup f) = some v
      rw [q]
    | false =>
      rw [q] at h'
      obtain ⟨w, e1, e2⟩ := lookup_rep r2 h'
      refine ⟨w, ?_, e2⟩
      show (match f == n with | true => some v | false => (ns.zip ws).lookup f) = some w
      rw [q]
      exact e1
/-- o.m(e, ..) -/
def dMeth (C : Addr) (m : Str) (s : DSp) (EX : Addr → Prop) (ta : DE) (t : DA) : DE := fun ρ Q => ta ρ fun x => ∃ ns xs, x = .ins C ns xs ∧ m ∉ ns ∧ t ρ fun ds => s (x :: ds) Q EX
theorem ed_methX {CX : CXT} {pl : Sem Bool} (ha : ED W X o ta) (c : Cls X.K C) (hm : Meth X.K C m f) (F : FnOk X.prog X.w X.K X.mg X.base CX k f fd ps (spP X.K s)) (hr : Room k X.A) (hb : Binds X.K fd ps []) (hx : Passes CX X (XKof W EX)) (hes : AD W X (e :: es) t)
    (he : starEach (e :: es) X.env = (false, eval e X.env) :: starEach es X.env := by rfl) (hpl : (backTo pos (starEach es X.env)).any (·.1) = false := by rfl)
    (ht : eval (.Call (.Attribute o m apos) (e :: es) [] pos) X.env = (do
      let ov ← eval o X.env
      standAt apos.atName
      let (f, first) ← holding [ov] (getMethod ov m pl)
      callWith pos f first (backTo pos (starEach (e :: es) X.env)) (backToKw pos (keywordEach [] X.env))) := by rfl) :
    ED W X (.Call (.Attribute o m apos) (e :: es) [] pos) (dMeth C m s EX ta t) := (pe_meth ha c hm F hr hb .nil hx hes he hpl ht).weak fun σ H k h => by
  obtain ⟨ρ, Q, er, q, kk⟩ := h
  refine ⟨ρ, _, er, q, fun v H1 x s1 rx q1 => ?_⟩
  obtain ⟨ns, xs, rfl, hn, q1⟩ := q1
  obtain ⟨a, dx, vs, rfl, ha, r, l⟩ := rx.ins_inv
  refine ⟨a, dx, _, rfl, ha, lookup_none hn vs, ρ, _, er.mono s1, q1, fun us H2 ds s2 rs q2 => ?_⟩
  refine ⟨.ins C ns xs :: ds, Q, EX, ?_, q2, fun w H' z e rz qz => kk w H' z ((s1.trans s2).trans (Stp.of e)) rz qz, fun c d H' e ec => ⟨c, rfl, ec, ((er.stp.trans s1).trans s2).trans (Stp.of e)⟩⟩
  rw [List.append_nil]
  exact Reps.cons (rx.mono ((er.mono s1).keep s2)) rs
theorem ed_meth {pl : Sem Bool} (ha : ED W X o ta) (c : Cls X.K C) (hm : Meth X.K C m f) (F : FnOk X.prog X.w X.K X.mg X.base CX0 k f fd ps (spP X.K s)) (hr : Room k X.A) (hb : Binds X.K fd ps []) (hes : AD W X (e :: es) t)
    (he : starEach (e :: es) X.env = (false, eval e X.env) :: starEach es X.env := by rfl) (hpl : (backTo pos (starEach es X.env)).any (·.1) = false := by rfl)
    (ht : eval (.Call (.Attribute o m apos) (e :: es) [] pos) X.env = (do
      let ov ← eval o X.env
      standAt apos.atName
      let (f, first) ← holding [ov] (getMethod ov m pl)
      callWith pos f first (backTo pos (starEach (e :: es) X.env)) (backToKw pos (keywordEach [] X.env))) := by rfl) :
    ED W X (.Call (.Attribute o m apos) (e :: es) [] pos) (dMeth C m s (fun _ => False) ta t) := ed_methX ha c hm F hr hb (fun _ _ _ _ _ _ _ h => h.elim) hes he hpl ht
/-- o.f -/
def dFld (C : Addr) (f : Str) (ta : DE) : DE := fun ρ Q => ta ρ fun x => ∃ ns xs y, x = .ins C ns xs ∧ (ns.zip xs).lookup f = some y ∧ Q y
theorem ed_fld {g : Str} (ha : ED W X o ta) (c : Cls X.K C) (n : NoAttr X.K C g) (hb : attributeBase o g X.env (eval o X.env) = eval o X.env := by rfl) : ED W X (.Attribute o g pos) (dFld C g ta) := (pe_fld ha hb).weak fun σ H k h => by
  obtain ⟨ρ, Q, er, q, kk⟩ := h
  refine ⟨ρ, _, er, q, fun v H1 x s1 rx q1 => ?_⟩
  obtain ⟨ns, xs, y, rfl, hy, q1⟩ := q1
  obtain ⟨a, dx, vs, rfl, ha, r, l⟩ := rx.ins_inv
  obtain ⟨w, h1, h2⟩ := lookup_rep r hy
  exact ⟨a, C, dx, _, w, rfl, ha, c, n, h1, kk _ H1 _ s1 h2 q1⟩
/-- the promise of an __init__: self is new, no field as yet -/
def spI (K : PySem.W.Frag) (C : Addr) (s : DSp) : Sp := fun vs H k _ => ∃ a dx us ds Q, vs = .ref a :: us ∧ H a = some (.ins C dx []) ∧ Reps K H ds us ∧ s ds Q (fun _ => False) ∧
  ∀ H' ns xs ws, (∀ b o, H b = some o → b ≠ a → H' b = some o) → H' a = some (.ins C dx (ns.zip ws)) → Reps K H' xs ws → ns.length = xs.length → Q (.ins C ns xs) → k .non H'
theorem ed_make (M : Mk X.K C f) (F : FnOk X.prog X.w X.K X.mg X.base CX0 k f fd ps (spI X.K C s)) (hr : Room (k + 1) X.A) (hg : Gl X x) (hm : X.mg x = some (.ref C)) (hb : Binds X.K fd ps []) (ha : AD W X (e :: es) t)
    (hdb : (x == ("__debug__" : Str)) = false := by decide) (he : starEach (e :: es) X.env = (false, eval e X.env) :: starEach es X.env := by rfl) (hpl : (backTo pos (starEach es X.env)).any (·.1) = false := by rfl) :
    ED W X (.Call (.Name x p) (e :: es) [] pos) (dCall s t) := (pe_make (E := E0) M F hr hg hm hb .nil pass0 ha hdb he hpl).weak fun σ H k h => by
  obtain ⟨ρ, Q, er, q, kk⟩ := h
  refine ⟨ρ, _, er, q, fun vs H1 ds s1 rs q1 z dx nz nd ne => ?_⟩
  have e1 : Ext H1 (upd (upd H1 dx (.own z)) z (.ins C dx [])) := (Ext.new nd).trans (Ext.new (by rw [upd_ne (Ne.symm ne)]; exact nz))
  refine ⟨z, dx, vs, ds, Q, by rw [List.append_nil], upd_same, rs.mono e1.keep, q1, fun H' ns xs ws hk hz rw' hl qx => ⟨rfl, ?_⟩⟩
  have e2 : Ext H1 H' := fun b o hb => hk b o (e1 b o hb) (fun y => by rw [y, nz] at hb; cases hb)
  exact kk _ H' _ (s1.trans (Stp.of e2)) (Rep.ins' hz rw' hl) qx


abbrev DCB := List D → (D → Prop) → Prop
def SimC (K : PySem.W.Frag) (r : List V → Hp → VK → Prop) (d : DCB) : Prop := ∀ H vs ds Q k, Reps K H ds vs → d ds Q → (∀ w H' z, Ext H H' → Rep K H' z w → Q z → k w H') → r vs H k
def dCB (d : DCB) (t : DA) : DE := fun ρ Q => t ρ fun ds => d ds Q
theorem sim_cb {r : List V → Hp → VK → Prop} {d : DCB} (s : SimC X.K r d) : ∀ σ H k, lift W X.K (dCB d t) σ H k → tCB r (liftA W X.K t) σ H k := fun σ H k h => by
  obtain ⟨ρ, Q, er, q, kk⟩ := h
  exact ⟨ρ, _, er, q, fun vs H1 ds s1 rs q1 => s H1 vs ds Q k rs q1 fun w H' z e r qz => kk w H' z (s1.trans (Stp.of e)) r qz⟩
theorem ed_cb {id : String} {r : List V → Hp → VK → Prop} {d : DCB} (hc : CallR X (.builtin id) r) (s : SimC X.K r d) (hg : Gl X x) (hm : X.mg x = none) (hv : bootBuiltins x = some (.builtin id)) (ha : AD W X (e :: es) t) (hn : x ≠ "__name__" := by decide) (hdb : (x == ("__debug__" : Str)) = false := by decide)
    (he : starEach (e :: es) X.env = (false, eval e X.env) :: starEach es X.env := by rfl) (hpl : (backTo pos (starEach es X.env)).any (·.1) = false := by rfl) : ED W X (.Call (.Name x p) (e :: es) [] pos) (dCB d t) := (pe_callB hc hg hm hv ha hn hdb he hpl).weak (sim_cb s)
theorem ed_ct {T : String} {r : List V → Hp → VK → Prop} {d : DCB} (hc : CallR X (.type T) r) (s : SimC X.K r d) (hg : Gl X x) (hm : X.mg x = none) (hv : bootBuiltins x = some (.type T)) (ha : AD W X (e :: es) t) (hn : x ≠ "__name__" := by decide) (hdb : (x == ("__debug__" : Str)) = false := by decide)
    (he : starEach (e :: es) X.env = (false, eval e X.env) :: starEach es X.env := by rfl) (hpl : (backTo pos (starEach es X.env)).any (·.1) = false := by rfl) : ED W X (.Call (.Name x p) (e :: es) [] pos) (dCB d t) := (pe_callTy hc hg hm hv ha hn hdb he hpl).weak (sim_cb s)
def cbAbs : DCB := fun ds Q => ∃ i, ds = [.int i] ∧ Q (.int (if i < 0 then -i else i))
def cbInt : DCB := fun ds Q => ∃ i, ds = [.int i] ∧ Q (.int i)
def cbMin : DCB := fun ds Q => ∃ i j, ds = [.int i, .int j] ∧ Q (.int (if j < i then j else i))
def cbGcd : DCB := fun ds Q => ∃ i j : Int, ds = [.int i, .int j] ∧ Q (.int ((Nat.gcd i.natAbs j.natAbs : Nat) : Int))
def seqD : List D → Option (List D)
  | [.tup xs] => some xs
  | [.lst xs] => some xs
  | _ => none
theorem seqD_inv {ds : List D} {xs : List D} (h : seqD ds = some xs) : ds = [.tup xs] ∨ ds = [.lst xs] := by
  unfold seqD at h
  split at h
  · exact .inl (by rw [Option.some.inj h])
  · exact .inr (by rw [Option.some.inj h])
  · cases h
def cbLen : DCB := fun ds Q => ∃ xs, seqD ds = some xs ∧ Q (.int (xs.length : Nat))
def cbTuple : DCB := fun ds Q => ∃ xs, seqD ds = some xs ∧ Q (.tup xs)
def cbMax : DCB := fun ds Q => ∃ ns : List Int, ds = [.lst (ns.map D.int)] ∧ 0 < ns.length ∧ ∀ m, m ∈ ns → (∀ y, y ∈ ns → y ≤ m) → Q (.int m)
theorem one_inv {K : PySem.W.Frag} {H : Hp} {x : D} {vs : List V} (r : Reps K H [x] vs) : ∃ v, vs = [v] ∧ Rep K H x v := by
  obtain ⟨v, ws, rfl, r1, r2⟩ := r.cons_inv
  rw [r2.nil_inv]
  exact ⟨v, rfl, r1⟩
theorem two_inv {K : PySem.W.Frag} {H : Hp} {x y : D} {vs : List V} (r : Reps K H [x, y] vs) : ∃ v w, vs = [v, w] ∧ Rep K H x v ∧ Rep K H y w := by
  obtain ⟨v, ws, rfl, r1, r2⟩ := r.cons_inv
  obtain ⟨w, rfl, r3⟩ := one_inv r2
  exact ⟨v, w, rfl, r1, r3⟩
variable {K : PySem.W.Frag}
theorem sim_abs : SimC K (fun xs H Q => ∃ i, xs = [.int i] ∧ Q (.int (if i < 0 then -i else i)) H) cbAbs := fun H vs ds Q k r h kk => by
  obtain ⟨i, rfl, q⟩ := h
  obtain ⟨v, rfl, r1⟩ := one_inv r
  exact ⟨i, by rw [r1.int_inv], kk _ H _ (Ext.refl H) Rep.int' q⟩
theorem sim_int : SimC K (fun xs H Q => (∃ i, xs = [.int i] ∧ Q (.int i) H) ∨ ∃ k, xs = [.bl k] ∧ Q (.int (if k then 1 else 0)) H) cbInt := fun H vs ds Q k r h kk => by
  obtain ⟨i, rfl, q⟩ := h
  obtain ⟨v, rfl, r1⟩ := one_inv r
  exact .inl ⟨i, by rw [r1.int_inv], kk _ H _ (Ext.refl H) Rep.int' q⟩
theorem sim_min : SimC K (fun xs H Q => ∃ i j, xs = [.int i, .int j] ∧ Q (.int (if j < i then j else i)) H) cbMin := fun H vs ds Q k r h kk => by
  obtain ⟨i, j, rfl, q⟩ := h
  obtain ⟨v, w, rfl, r1, r2⟩ := two_inv r
  exact ⟨i, j, by rw [r1.int_inv, r2.int_inv], kk _ H _ (Ext.refl H) Rep.int' q⟩
theorem sim_gcd : SimC K rGcd cbGcd := fun H vs ds Q k r h kk => by
  obtain ⟨i, j, rfl, q⟩ := h
  obtain ⟨v, w, rfl, r1, r2⟩ := two_inv r
  exact ⟨i, j, by rw [r1.int_inv, r2.int_inv], kk _ H _ (Ext.refl H) Rep.int' q⟩
theorem ed_gcd (hg : Gl X x) (hm : X.mg x = some (.builtin "math.gcd")) (ha : AD W X (e :: es) t) (hdb : (x == ("__debug__" : Str)) = false := by decide)
    (he : starEach (e :: es) X.env = (false, eval e X.env) :: starEach es X.env := by rfl) (hpl : (backTo pos (starEach es X.env)).any (·.1) = false := by rfl) : ED W X (.Call (.Name x p) (e :: es) [] pos) (dCB cbGcd t) := (pe_callBfun cr_gcd hg hm ha hdb he hpl).weak (sim_cb sim_gcd)
theorem sim_len : SimC K (fun xs H Q => ∃ p ys, xs = [.ref p] ∧ (SqL K H p ys ∨ SqT K H p ys) ∧ Q (.int ys.length) H) cbLen := fun H vs ds Q k r h kk => by
  obtain ⟨xs, h, q⟩ := h
  rcases seqD_inv h with rfl | rfl
  · obtain ⟨v, rfl, r1⟩ := one_inv r
    obtain ⟨a, ws, rfl, st, rs⟩ := r1.tup_inv
    exact ⟨a, ws, rfl, .inr st, by rw [rs.len]; exact kk _ H _ (Ext.refl H) Rep.int' q⟩
  · obtain ⟨v, rfl, r1⟩ := one_inv r
    obtain ⟨a, ws, rfl, st, rs⟩ := r1.lst_inv
    exact ⟨a, ws, rfl, .inl st.l, by rw [rs.len]; exact kk _ H _ (Ext.refl H) Rep.int' q⟩
theorem sim_tuple : SimC K (fun xs H Q => ∃ p ys, xs = [.ref p] ∧ ((SqL K H p ys ∧ ∀ l, H l = none → Q (.ref l) (upd H l (.tup ys))) ∨ (SqT K H p ys ∧ Q (.ref p) H))) cbTuple := fun H vs ds Q k r h kk => by
  obtain ⟨xs, h, q⟩ := h
  rcases seqD_inv h with rfl | rfl
  · obtain ⟨v, rfl, r1⟩ := one_inv r
    obtain ⟨a, ws, rfl, st, rs⟩ := r1.tup_inv
    exact ⟨a, ws, rfl, .inr ⟨st, kk _ H _ (Ext.refl H) (Rep.tup' st rs) q⟩⟩
  · obtain ⟨v, rfl, r1⟩ := one_inv r
    obtain ⟨a, ws, rfl, st, rs⟩ := r1.lst_inv
    exact ⟨a, ws, rfl, .inl ⟨st.l, fun l hl => kk _ _ _ (Ext.new hl) (Rep.tup' (SqT.of upd_same) (rs.mono (Ext.new hl).keep)) q⟩⟩
theorem ints_inv {H : Hp} : ∀ {ns : List Int} {vs : List V}, Reps K H (ns.map D.int) vs → vs = ns.map V.int
  | [], vs, r => r.nil_inv
  | n :: ns, vs, r => by
    obtain ⟨v, ws, rfl, r1, r2⟩ := r.cons_inv
    rw [r1.int_inv, ints_inv r2]
    rfl
theorem sim_max : SimC K (rMax K) cbMax := fun H vs ds Q k r h kk => by
  obtain ⟨ns, rfl, hl, q⟩ := h
  obtain ⟨v, rfl, r1⟩ := one_inv r
  obtain ⟨a, ws, rfl, st, rs⟩ := r1.lst_inv
  have e := ints_inv rs
  subst e
  exact ⟨a, ns, rfl, st.l, hl, fun m h1 h2 => kk _ H _ (Ext.refl H) Rep.int' (q m h1 h2)⟩
/-- list(x): a new list -/
def dListO (t : DE) : DA := fun ρ Q => t ρ fun x => ∃ xs, itemsD x = some xs ∧ Q xs
theorem eo_list (hg : Gl X x) (hm : X.mg x = none) (hv : bootBuiltins x = some (.type "list")) (ha : ED W X a ta) (hn : x ≠ "__name__" := by decide) (hdb : (x == ("__debug__" : Str)) = false := by decide)
    (he : starEach [a] X.env = (false, eval a X.env) :: starEach [] X.env := by rfl) (hpl : (backTo pos (starEach [] X.env)).any (·.1) = false := by rfl) : EO W X (.Call (.Name x p) [a] [] pos) (dListO ta) := (pe_callTy call_list_of hg hm hv (pa_cons ha pa_nil he) hn hdb he hpl).weak fun σ H k h => by
  obtain ⟨ρ, Q, er, q, kk⟩ := h
  refine ⟨ρ, _, er, q, fun u H1 y s1 ry q1 => ?_⟩
  obtain ⟨xs, hy, q1⟩ := q1
  have fin : ∀ (b : Addr) (ws : List V), Reps X.K H1 xs ws → ∀ l, H1 l = none → k (.ref l) (upd H1 l (.lst ws)) := fun b ws rs l hl =>
    kk l ws _ xs (s1.trans (Stp.new hl)) (s1.back hl) upd_same (Off.upd (s1.hand er.hand) hl) (rs.mono (Ext.new hl).keep) q1
  rcases itemsD_inv hy with rfl | rfl
  · obtain ⟨b, ws, rfl, st, rs⟩ := ry.tup_inv
    exact ⟨b, ws, rfl, .inr st, fin b ws rs⟩
  · obtain ⟨b, ws, rfl, st, rs⟩ := ry.lst_inv
    exact ⟨b, ws, rfl, .inl st.l, fin b ws rs⟩
/-- [..] * n -/
def dRep (t : DA) (tb : DE) : DA := fun ρ Q => t ρ fun xs => tb ρ fun y => ∃ n, y = .int n ∧ 0 ≤ n ∧ n < 1000 ∧ xs.length ≤ 1000 ∧ Q (List.replicate n.toNat xs).flatten
theorem Reps.rep {H : Hp} {xs : List D} {vs : List V} (r : Reps K H xs vs) : ∀ n : Nat, Reps K H (List.replicate n xs).flatten (List.replicate n vs).flatten
  | 0 => Reps.nil
  | n + 1 => by
    rw [List.replicate_succ, List.replicate_succ, List.flatten_cons, List.flatten_cons]
    exact r.append (Reps.rep r n)
theorem eo_rep (ha : EO W X a t) (hb : ED W X b tb) : EO W X (.BinOp a .Mult b pos) (dRep t tb) := (pe_op op_rep ha hb).weak fun σ H k h => by
  obtain ⟨ρ, Q, er, q, kk⟩ := h
  refine ⟨ρ, _, er, q, fun l vs H1 xs s1 hl0 hl off rs q1 => ⟨ρ, _, er.mono s1, q1, fun u H2 y s2 ry q2 => ?_⟩⟩
  obtain ⟨n, rfl, n0, n1, hz, q2⟩ := q2
  have er1 := er.mono s1
  refine ⟨l, n, vs, rfl, ry.int_inv, (off.stp er1.hand s2 hl).1, by omega, by omega, ?_, fun p hp => ?_⟩
  · rw [rs.len]
    have h1 : n.toNat ≤ 1000 := by omega
    have h2 : xs.length * n.toNat ≤ 1000 * 1000 := Nat.mul_le_mul hz h1
    exact Nat.le_trans h2 (by rw [sizeLine_eq]; decide)
  · have r2 := (rs.mono (er1.keep s2)).rep n.toNat
    exact kk p _ _ _ ((s1.trans s2).trans (Stp.new hp)) ((s1.trans s2).back hp) upd_same (Off.upd ((s1.trans s2).hand er.hand) hp) (r2.mono (Ext.new hp).keep) q2
/-- x is True, x is False -/
def dIsB : DR := fun x y Q => ∃ a : Bool, x = .bl a ∧ ∃ b : Bool, y = .bl b ∧ Q (.bl (decide (a = b)))
theorem sim_isB : SimR K rIsB dIsB := fun H x y u v Q k rx ry h kk => by
  obtain ⟨a, rfl, b, rfl, q⟩ := h
  exact ⟨a, b, rx.bl_inv, ry.bl_inv, kk _ H _ (Ext.refl H) Rep.bl' q⟩
theorem ed_isB (ha : ED W X a ta) (hb : ED W X b tb) : ED W X (.Compare a [.Is] [b] pos) (dOp dIsB ta tb) := ed_cmp op_isBl sim_isB ha hb (nomark _)
/-- a <= b <= c -/
def dChain (f g : Int → Int → Bool) (ta tb tc : DE) : DE := fun ρ Q => ta ρ fun x => tb ρ fun y => ∃ i, x = .int i ∧ ∃ j, y = .int j ∧ if f i j = true then tc ρ fun z => ∃ l, z = .int l ∧ Q (.bl (g j l)) else Q (.bl false)
theorem ed_chain {op op' : CmpOp} {f g : Int → Int → Bool} (ho : OpR X (compareOp op) (rI0 fun i j => .bl (f i j))) (ho' : OpR X (compareOp op') (rI0 fun i j => .bl (g i j))) (ha : ED W X a ta) (hb : ED W X b tb) (hc : ED W X c tc)
    (hm : lastMarks [op, op'] [b, c] = false := by with_unfolding_all rfl) : ED W X (.Compare a [op, op'] [b, c] pos) (dChain f g ta tb tc) := (pe_chain ho ho' ha hb hc hm).weak fun σ H k h => by
  obtain ⟨ρ, Q, er, q, kk⟩ := h
  refine ⟨ρ, _, er, q, fun u H1 x s1 rx q1 => ⟨ρ, _, er.mono s1, q1, fun v H2 y s2 ry q2 => ?_⟩⟩
  obtain ⟨i, rfl, j, rfl, q2⟩ := q2
  refine ⟨i, j, rx.int_inv, ry.int_inv, f i j, rfl, ?_⟩
  cases hf : f i j with
  | false =>
    rw [hf] at q2
    exact iteF (kk _ H2 _ (s1.trans s2) Rep.bl' (by simpa using q2))
  | true =>
    rw [hf] at q2
    refine iteT ⟨ρ, _, (er.mono s1).mono s2, (by simpa using q2), fun w H3 z s3 rz q3 => ?_⟩
    obtain ⟨l, rfl, q3⟩ := q3
    exact ⟨j, l, ry.int_inv, rz.int_inv, kk _ H3 _ ((s1.trans s2).trans s3) Rep.bl' q3⟩
end
end DL
end

section
set_option Elab.async false
set_option linter.all false
set_option maxRecDepth 100000
set_option maxHeartbeats 4000000

namespace DL
open PySem PySem.Spec PyProof.Rows L2

structure DEnds where
  nx : Env → Prop
  rt : D → Prop
  bk : Env → Prop := fun _ => False
  ct : Env → Prop := fun _ => False
abbrev DS := DEnds → Env → Prop
abbrev DG := D → Env → (Env → Prop) → Prop
structure EndsOk (W : Wd) (K : PySem.W.Frag) (H : Hp) (E : DEnds) (F : Ends) : Prop where
  nx : ∀ σ' H' ρ', EnvRep W K H' σ' ρ' → Keep H H' → E.nx ρ' → F.nx σ' H'
  rt : ∀ v H' x, Stp W.hd W.h0 H' → HandOk W.hd H' → Rep K H' x v → E.rt x → F.rt v H'
  bk : ∀ σ' H' ρ', EnvRep W K H' σ' ρ' → Keep H H' → E.bk ρ' → F.bk σ' H'
  ct : ∀ σ' H' ρ', EnvRep W K H' σ' ρ' → Keep H H' → E.ct ρ' → F.ct σ' H'
theorem EndsOk.keep {W : Wd} {K : PySem.W.Frag} {H H1 : Hp} {E : DEnds} {F : Ends} (ok : EndsOk W K H E F) (k : Keep H H1) : EndsOk W K H1 E F :=
  ⟨fun σ' H' ρ' er kp q => ok.nx σ' H' ρ' er (k.trans kp) q, ok.rt, fun σ' H' ρ' er kp q => ok.bk σ' H' ρ' er (k.trans kp) q, fun σ' H' ρ' er kp q => ok.ct σ' H' ρ' er (k.trans kp) q⟩
def liftS (W : Wd) (K : PySem.W.Frag) (t : DS) : TS := fun F σ H => ∃ ρ E, EnvRep W K H σ ρ ∧ t E ρ ∧ EndsOk W K H E F
def liftG (W : Wd) (K : PySem.W.Frag) (g : DG) : TG := fun v σ H k => ∃ x ρ Q, Rep K H x v ∧ EnvRep W K H σ ρ ∧ g x ρ Q ∧ ∀ σ' H' ρ', EnvRep W K H' σ' ρ' → Keep H H' → Q ρ' → k σ' H'
def liftGs (W : Wd) (K : PySem.W.Frag) (g : List D → Env → (Env → Prop) → Prop) : TGs := fun vs σ H k => ∃ xs ρ Q, Reps K H xs vs ∧ EnvRep W K H σ ρ ∧ g xs ρ Q ∧ ∀ σ' H' ρ', EnvRep W K H' σ' ρ' → Keep H H' → Q ρ' → k σ' H'
abbrev SD (W : Wd) (X : Cx) (st : Stmt) (t : DS) : Prop := PS X st (liftS W X.K t)
abbrev BD (W : Wd) (X : Cx) (st : List Stmt) (t : DS) : Prop := PSs X st (liftS W X.K t)
abbrev GD (W : Wd) (X : Cx) (tg : Expr) (g : DG) : Prop := PG X tg (liftG W X.K g)
section
variable {X : Cx}
theorem _root_.L2.PS.weak {st : Stmt} {t t' : TS} (h : PS X st t) (w : ∀ F σ H, t' F σ H → t F σ H) : PS X st t' := ⟨fun pins s σ H F I q => h.run pins s σ H F I (w F σ H q)⟩
theorem _root_.L2.PSs.weak {st : List Stmt} {t t' : TS} (h : PSs X st t) (w : ∀ F σ H, t' F σ H → t F σ H) : PSs X st t' := ⟨fun pins s σ H F I q => h.run pins s σ H F I (w F σ H q)⟩
theorem _root_.L2.PG.weak {e : Expr} {t t' : TG} (h : PG X e t) (w : ∀ v σ H k, t' v σ H k → t v σ H k) : PG X e t' := ⟨fun pins s σ H v u Q I r q => h.run pins s σ H v u Q I r (w v σ H Q q)⟩
theorem _root_.L2.PGs.weak {es : List Expr} {t t' : TGs} (h : PGs X es t) (w : ∀ v σ H k, t' v σ H k → t v σ H k) : PGs X es t' := ⟨fun pins s σ H v u Q I r q => h.run pins s σ H v u Q I r (w v σ H Q q)⟩
theorem _root_.L2.PI.weak {tg it : Expr} {t t' : TI} (h : PI X tg it t) (w : ∀ σ H k, t' σ H k → t σ H k) : PI X tg it t' := ⟨fun pins s σ H R I q => h.run pins s σ H R I (w σ H R q)⟩
end
section
variable {W : Wd} {X : Cx} {e a b c o : Expr} {es : List Expr} {pos : Pos} {ta tb tc te : DE} {t : DA} {tt : DT} {st : Stmt} {sts rest : List Stmt} {ts us : DS} {g : DG}


def dNext : DS := fun E ρ => E.nx ρ
def dSeq (t u : DS) : DS := fun E ρ => t { E with nx := u E } ρ
theorem bd_nil : BD W X [] dNext := pss_nil.weak fun F σ H h => by
  obtain ⟨ρ, E, er, q, ok⟩ := h
  exact ok.nx σ H ρ er (Keep.refl H) q
theorem bd_cons (h1 : SD W X st ts) (h2 : BD W X rest us) : BD W X (st :: rest) (dSeq ts us) := (pss_cons h1 h2).weak fun F σ H h => by
  obtain ⟨ρ, E, er, q, ok⟩ := h
  exact ⟨ρ, _, er, q, ⟨fun σ' H' ρ' er' kp q' => ⟨ρ', E, er', q', ok.keep kp⟩, ok.rt, ok.bk, ok.ct⟩⟩
theorem bd_one (h1 : SD W X st ts) : BD W X [st] ts := pss_one h1


def dDrop (te : DE) : DS := fun E ρ => te ρ fun _ => E.nx ρ
theorem sd_expr (he : ED W X e te) (hs : swapsWith e none pos.line X.env = pure false := by rfl) : SD W X (.Expr e pos) (dDrop te) := (ps_expr he hs).weak fun F σ H h => by
  obtain ⟨ρ, E, er, q, ok⟩ := h
  exact ⟨ρ, _, er, q, fun v H1 x s1 _ q1 => ok.nx σ H1 ρ (er.mono s1) (er.keep s1) q1⟩
def dRet (te : DE) : DS := fun E ρ => te ρ E.rt
theorem sd_ret (he : ED W X e te) : SD W X (.Return (some e) pos) (dRet te) := (ps_ret he).weak fun F σ H h => by
  obtain ⟨ρ, E, er, q, ok⟩ := h
  exact ⟨ρ, _, er, q, fun v H1 x s1 r q1 => ok.rt v H1 x (er.stp.trans s1) (s1.hand er.hand) r q1⟩
def dIfS (c : DT) (t u : DS) : DS := fun E ρ => c ρ fun b => if b = true then t E ρ else u E ρ
theorem sd_if {a b : List Stmt} (hc : TD W X c tt) (ha : BD W X a ts) (hb : BD W X b us) : SD W X (.If c a b pos) (dIfS tt ts us) := (ps_if hc ha hb).weak fun F σ H h => by
  obtain ⟨ρ, E, er, q, ok⟩ := h
  refine ⟨ρ, _, er, q, fun b H1 s1 q1 => ?_⟩
  cases b with
  | true => exact iteT ⟨ρ, E, er.mono s1, (by simpa using q1), ok.keep (er.keep s1)⟩
  | false => exact iteF ⟨ρ, E, er.mono s1, (by simpa using q1), ok.keep (er.keep s1)⟩
def dNever : DS := fun _ _ => False
theorem sd_never : SD W X st dNever := ps_never.weak fun F σ H h => by
  obtain ⟨_, _, _, q, _⟩ := h
  exact q.elim
theorem bd_never : BD W X sts dNever := pss_never.weak fun F σ H h => by
  obtain ⟨_, _, _, q, _⟩ := h
  exact q.elim
def dBreak : DS := fun E ρ => E.bk ρ
theorem sd_break : SD W X (.Break pos) dBreak := ps_break.weak fun F σ H h => by
  obtain ⟨ρ, E, er, q, ok⟩ := h
  exact ok.bk σ H ρ er (Keep.refl H) q


def dgN (i : Nat) : DG := fun x ρ Q => Nat.blt i ρ.length = true ∧ Q (ρ.set i (some (.d x)))
theorem gd_name (i : Nat) {x : Str} {p : Pos} (hN : X.N.Nodup) (hi : X.N[i]? = some x := by rfl) (hx : Loc X.env.scope x := by first | exact Or.inl rfl | exact Or.inr rfl) (hf : X.fn x = true ∨ X.env.scope.names.lookup x = some .local := by first | exact .inl rfl | exact .inr rfl | assumption) :
    GD W X (.Name x p) (dgN i) := (pg_name hN hi hx hf).weak fun v σ H k h => by
  obtain ⟨x, ρ, Q, rx, er, ⟨hl, q⟩, kk⟩ := h
  exact kk _ H _ (er.set i rx (Nat.le_of_ble_eq_true hl)) (Keep.refl H) q
def dgNil : List D → Env → (Env → Prop) → Prop := fun xs ρ Q => xs = [] ∧ Q ρ
def dgCons (g : DG) (u : List D → Env → (Env → Prop) → Prop) : List D → Env → (Env → Prop) → Prop := fun xs ρ Q => ∃ x r, xs = x :: r ∧ g x ρ fun ρ' => u r ρ' Q
theorem gds_nil : PGs X [] (liftGs W X.K dgNil) := pgs_nil.weak fun v σ H k h => by
  obtain ⟨xs, ρ, Q, rx, er, ⟨rfl, q⟩, kk⟩ := h
  exact ⟨rx.nil_inv, kk _ H _ er (Keep.refl H) q⟩
theorem gds_cons {u : List D → Env → (Env → Prop) → Prop} (h1 : GD W X e g) (h2 : PGs X es (liftGs W X.K u)) (hs : (assignEach (e :: es) X.env).map (·.2) = assign e X.env :: (assignEach es X.env).map (·.2) := by rfl) : PGs X (e :: es) (liftGs W X.K (dgCons g u)) := (pgs_cons h1 h2 hs).weak fun v σ H k h => by
  obtain ⟨xs, ρ, Q, rx, er, ⟨x, r, rfl, q⟩, kk⟩ := h
  obtain ⟨w, ws, rfl, r1, r2⟩ := rx.cons_inv
  exact ⟨w, ws, rfl, x, ρ, _, r1, er, q, fun σ' H' ρ' er' kp q' => ⟨r, ρ', Q, r2.mono kp, er', q', fun σ2 H2 ρ2 er2 kp2 q2 => kk σ2 H2 ρ2 er2 (kp.trans kp2) q2⟩⟩
def dgTup (n : Nat) (u : List D → Env → (Env → Prop) → Prop) : DG := fun x ρ Q => ∃ xs, x = .tup xs ∧ xs.length = n ∧ u xs ρ Q
theorem gd_tup {u : List D → Env → (Env → Prop) → Prop} {k : Nat} {n : Nat} (hc : X.calm = true) (h : PGs X es (liftGs W X.K u)) (hn : (assignEach es X.env).length = n := by rfl) (hst : (assignEach es X.env).findIdx? (·.1) = none := by rfl) : GD W X (.Tuple es k pos) (dgTup n u) := (pg_tup hc h hn hst).weak fun v σ H k h => by
  obtain ⟨x, ρ, Q, rx, er, ⟨xs, rfl, hl, q⟩, kk⟩ := h
  obtain ⟨p, vs, rfl, st, rs⟩ := rx.tup_inv
  exact ⟨p, vs, rfl, st, by rw [rs.len]; exact hl, xs, ρ, Q, rs, er, q, kk⟩
/-- own[i] = .. -/
def dgSub (i : Nat) (tb : DE) : DG := fun x ρ Q => tb ρ fun y => ∃ xs, ρ[i]? = some (some (.own xs)) ∧ ∃ k, y = .int k ∧ ∃ j, ixN xs.length k = some j ∧ Q (ρ.set i (some (.own (xs.set j x))))


def dAsg (te : DE) (g : DG) : DS := fun E ρ => te ρ fun x => g x ρ E.nx
theorem sd_asg {tg : Expr} (he : ED W X e te) (hg : GD W X tg g) (hs : swapsWithSole [tg] e pos.line X.env = pure false := by rfl) (hw : swappedStores [tg] e X.env = pure none := by rfl)
    (h1 : (assignEach [tg] X.env).map (·.2) = [assign tg X.env] := by rfl) : SD W X (.Assign [tg] e pos) (dAsg te g) := (ps_asg he hg hs hw h1).weak fun F σ H h => by
  obtain ⟨ρ, E, er, q, ok⟩ := h
  exact ⟨ρ, _, er, q, fun v H1 x s1 rx q1 => ⟨x, ρ, _, rx, er.mono s1, q1, fun σ' H' ρ' er' kp q' => ok.nx σ' H' ρ' er' ((er.keep s1).trans kp) q'⟩⟩
def dSet (i : Nat) (te : DE) : DS := fun E ρ => te ρ fun x => Nat.blt i ρ.length = true ∧ E.nx (ρ.set i (some (.d x)))
theorem sd_set (i : Nat) {x : Str} {p' : Pos} (hN : X.N.Nodup) (he : ED W X e te) (hi : X.N[i]? = some x := by rfl) (hx : Loc X.env.scope x := by first | exact Or.inl rfl | exact Or.inr rfl) (hs : swapsWith e (some (.Name x p')) pos.line X.env = pure false := by rfl)
    (hf : X.fn x = true ∨ X.env.scope.names.lookup x = some .local := by first | exact .inl rfl | exact .inr rfl | assumption) : SD W X (.Assign [.Name x p'] e pos) (dSet i te) := (ps_set hN hi hx he hs hf).weak fun F σ H h => by
  obtain ⟨ρ, E, er, q, ok⟩ := h
  exact ⟨ρ, _, er, q, fun v H1 x s1 rx ⟨hl, q1⟩ => ok.nx _ H1 _ ((er.mono s1).set i rx (Nat.le_of_ble_eq_true hl)) (er.keep s1) q1⟩
/-- a new list of the def's own -/
def dSetO (i : Nat) (t : DA) : DS := fun E ρ => t ρ fun xs => Nat.blt i ρ.length = true ∧ E.nx (ρ.set i (some (.own xs)))
theorem own_in {H H' : Hp} {σ : L2.St} {ρ : Env} {K : PySem.W.Frag} {p : Addr} {vs : List V} {xs : List D} (er : EnvRep W K H σ ρ) (s1 : Stp W.hd H H') (h0 : H p = none) (hp : H' p = some (.lst vs)) (off : Off W.hd H' p) (rs : Reps K H' xs vs) {i : Nat} (hi : i < ρ.length) :
    EnvRep W K H' (σ.set i (some (.ref p))) (ρ.set i (some (.own xs))) := (er.mono s1).put i hi hp rs (er.fresh h0) off fun j ys hj e z => by
  obtain ⟨l, ws, e2, h2, _⟩ := er.sl j _ e
  rw [z] at e2
  cases e2
  rw [h0] at h2
  cases h2
theorem sd_setO (i : Nat) {x : Str} {p' : Pos} (hN : X.N.Nodup) (he : EO W X e t) (hi : X.N[i]? = some x := by rfl) (hx : Loc X.env.scope x := by first | exact Or.inl rfl | exact Or.inr rfl) (hs : swapsWith e (some (.Name x p')) pos.line X.env = pure false := by rfl)
    (hf : X.fn x = true ∨ X.env.scope.names.lookup x = some .local := by first | exact .inl rfl | exact .inr rfl | assumption) : SD W X (.Assign [.Name x p'] e pos) (dSetO i t) := (ps_set hN hi hx he hs hf).weak fun F σ H h => by
  obtain ⟨ρ, E, er, q, ok⟩ := h
  exact ⟨ρ, _, er, q, fun p vs H1 xs s1 h0 hp off rs ⟨hl, q1⟩ => ok.nx _ H1 _ (own_in er s1 h0 hp off rs (Nat.le_of_ble_eq_true hl)) (er.keep s1) q1⟩
/-- a, b = x, y -/
def dPar (i j : Nat) (t : DA) : DS := fun E ρ => t ρ fun xs => ∃ x y, xs = [x, y] ∧ Nat.blt i ρ.length = true ∧ Nat.blt j ρ.length = true ∧ E.nx ((ρ.set i (some (.d x))).set j (some (.d y)))
theorem sd_par (i j : Nat) {x y : Str} {px py pt : Pos} {kt k2 pt2} (hc : X.calm = true) (hN : X.N.Nodup) (ha : AD W X [a, b] t) (hi : X.N[i]? = some x := by rfl) (hj : X.N[j]? = some y := by rfl) (hij : i ≠ j := by decide)
    (hx : X.env.scope.names.lookup x = some .local := by rfl) (hy : X.env.scope.names.lookup y = some .local := by rfl)
    (hw : swappedStores [.Tuple [.Name x px, .Name y py] kt pt] (.Tuple [a, b] k2 pt2) X.env = pure (some [x, y]) := by rfl)
    (hs : swapsWithSole [.Tuple [.Name x px, .Name y py] kt pt] (.Tuple [a, b] k2 pt2) pos.line X.env = pure false := by rfl) :
    SD W X (.Assign [.Tuple [.Name x px, .Name y py] kt pt] (.Tuple [a, b] k2 pt2) pos) (dPar i j t) := (ps_par hc hN hi hj hij hx hy ha hw hs).weak fun F σ H h => by
  obtain ⟨ρ, E, er, q, ok⟩ := h
  refine ⟨ρ, _, er, q, fun vs H1 xs s1 rs q1 => ?_⟩
  obtain ⟨x, y, rfl, hi, hj, q1⟩ := q1
  obtain ⟨v, w, rfl, r1, r2⟩ := two_inv rs
  exact ⟨v, w, rfl, ok.nx _ H1 _ (((er.mono s1).set i r1 (Nat.le_of_ble_eq_true hi)).set j r2 (by rw [List.length_set]; exact Nat.le_of_ble_eq_true hj)) (er.keep s1) q1⟩
/-- own.append(e) -/
def dApp (i : Nat) (te : DE) : DS := fun E ρ => ∃ xs, ρ[i]? = some (some (.own xs)) ∧ xs.length < 1000 ∧ te ρ fun x => E.nx (ρ.set i (some (.own (xs ++ [x]))))
theorem sd_app (i : Nat) {x : Str} {p apos cpos : Pos} (he : ED W X e te) (hN : X.N[i]? = some x := by rfl) (hv : Vis X.env.scope x := by first | exact Or.inl rfl | exact Or.inr (Or.inl rfl) | exact Or.inr (Or.inr rfl))
    (hd : (x == ("__debug__" : Str)) = false := by decide) (hcd : (x == ("__classdict__" : Str)) = false := by decide)
    (hsw : swapsWith (.Call (.Attribute (.Name x p) "append" apos) [e] [] cpos) none pos.line X.env = pure false := by rfl)
    (hbase : attributeBase (.Name x p) "append" X.env (eval (.Name x p) X.env) = eval (.Name x p) X.env := by rfl)
    (hfew : ((backTo cpos (starEach [e] X.env)).all (fun x => !x.1) && (backToKw cpos (keywordEach [] X.env)).all (fun x => x.1.isSome)
      && decide ([e].length + ([] : List Keyword).length + (if ([] : List Keyword).isEmpty then 0 else 1) < 30)) = true := by rfl)
    (hline : (apos.endLine == cpos.line) = true := by rfl) (hst : starEach [e] X.env = (false, eval e X.env) :: starEach [] X.env := by rfl) (hplain : (backTo cpos (starEach [] X.env)).any (·.1) = false := by rfl) :
    SD W X (.Expr (.Call (.Attribute (.Name x p) "append" apos) [e] [] cpos) pos) (dApp i te) := (ps_expr (pe_bm PySem.F.plainAttrs_list PySem.F.slot_list_append PySem.F.type_list_append mt_append (pe_var hN hv hd hcd) (pa_cons he pa_nil hst) hbase hfew hline hst hplain) hsw).weak fun F σ H h => by
  obtain ⟨ρ, E, er, ⟨xs, ei, hl, q⟩, ok⟩ := h
  obtain ⟨l, vs, el, hp, rs, n0, off⟩ := er.sl i _ ei
  refine ⟨_, el, .inl ⟨rfl, vs, SqL.of hp⟩, ρ, _, er, q, fun v H1 x s1 rx q1 => ?_⟩
  have hp1 := (off.stp er.hand s1 hp).1
  have rs1 := rs.mono (er.keep s1)
  refine ⟨l, vs, v, rfl, rfl, hp1, ?_, ?_⟩
  · rw [rs.len]
    exact small1000 (Nat.le_of_lt hl)
  · have er2 := (er.mono s1).upd ei el (rs1.append (Reps.one rx))
    refine ok.nx _ _ _ er2 ((er.keep s1).trans ?_) q1
    intro a u im ea
    have ne : a ≠ l := fun z => by
      rw [z, hp1] at ea
      cases ea
      exact im
    rw [upd_ne ne]
    exact ea
theorem sub_in {H1 H2 : Hp} {σ : L2.St} {ρ : Env} {Q : Env → Prop} {i : Nat} {x y : D} {v u : V} {q : L2.St → Hp → Prop} {K : PySem.W.Frag} (er : EnvRep W K H1 σ ρ) (s2 : Stp W.hd H1 H2) (rx : Rep K H1 x v) (ry : Rep K H2 y u)
    (h : ∃ xs, ρ[i]? = some (some (.own xs)) ∧ ∃ k, y = .int k ∧ ∃ j, ixN xs.length k = some j ∧ Q (ρ.set i (some (.own (xs.set j x)))))
    (kk : ∀ H' ρ', EnvRep W K H' σ ρ' → Keep H1 H' → Q ρ' → q σ H') {l : V} (el : σ[i]? = some (some l)) : rSetL l u v H2 (fun H3 => q σ H3) := by
  obtain ⟨xs, ei, n, rfl, j, hj, q2⟩ := h
  obtain ⟨p, vs, el', hp, rs, n0, off⟩ := er.sl i _ ei
  rw [el] at el'
  cases el'
  have hp2 := (off.stp er.hand s2 hp).1
  have rs2 := rs.mono (er.keep s2)
  refine ⟨p, vs, n, j, rfl, ry.int_inv, hp2, by rw [rs.len]; exact hj, ?_⟩
  refine kk _ _ ((er.mono s2).upd ei el (rs2.set j (rx.mono (er.keep s2)))) ((er.keep s2).trans ?_) q2
  intro a u im ea
  have ne : a ≠ p := fun z => by
    rw [z, hp2] at ea
    cases ea
    exact im
  rw [upd_ne ne]
  exact ea
theorem gd_sub (i : Nat) {x : Str} {p : Pos} (hb : ED W X b tb) (hN : X.N[i]? = some x := by rfl) (hv : Vis X.env.scope x := by first | exact Or.inl rfl | exact Or.inr (Or.inl rfl) | exact Or.inr (Or.inr rfl))
    (hd : (x == ("__debug__" : Str)) = false := by decide) (hcd : (x == ("__classdict__" : Str)) = false := by decide)
    (ha : ∀ v, assign (.Subscript (.Name x p) b pos) X.env v = (do
      let ov ← holding [v] (eval (.Name x p) X.env)
      let iv ← holding [v, ov] (eval b X.env)
      standAt pos
      holding [v, ov, iv] (setItem ov iv v)
      release [v, ov, iv] []) := by intro _; rfl) : GD W X (.Subscript (.Name x p) b pos) (fun x ρ Q => ∃ ys, ρ[i]? = some (some (.own ys)) ∧ dgSub i tb x ρ Q) := (pg_sub (pe_var hN hv hd hcd) hb set_list ha).weak fun v σ H k h => by
  obtain ⟨x, ρ, Q, rx, er, ⟨ys, ey, q⟩, kk⟩ := h
  obtain ⟨p, vs, el, _⟩ := er.sl i _ ey
  exact ⟨_, el, ρ, _, er, q, fun u H2 y s2 ry q2 => sub_in (Q := Q) (q := k) er s2 rx ry q2 (fun H' ρ' er' kp q' => kk σ H' ρ' er' kp q') el⟩
/-- ahead of a statement a list of the def's own is frozen -/
def dFz (i : Nat) (t : DS) : DS := fun E ρ => ∃ xs, ρ[i]? = some (some (.own xs)) ∧ t E (ρ.set i (some (.d (.lst xs))))
theorem frz_env {H : Hp} {σ : L2.St} {ρ : Env} {K : PySem.W.Frag} {i : Nat} {xs : List D} {l : Addr} {vs : List V} {ob : Obj} (er : EnvRep W K H σ ρ) (ei : ρ[i]? = some (some (.own xs))) (el : σ[i]? = some (some (.ref l))) (hp : H l = some (.lst vs)) :
    EnvRep W K (upd H l (.frz ob (.lst vs))) σ (ρ.set i (some (.d (.lst xs)))) ∧ Keep H (upd H l (.frz ob (.lst vs))) := by
  obtain ⟨l', vs', el', hp', rs, n0, off⟩ := er.sl i _ ei
  rw [el] at el'
  cases el'
  rw [hp] at hp'
  cases hp'
  have hi : i < ρ.length := (List.getElem?_eq_some_iff.mp ei).1
  have kp : Keep H (upd H l (.frz ob (.lst vs))) := keep_frz hp
  refine ⟨?_, kp⟩
  have hat : ∀ {L g}, W.hd = some L → HandAt H L g → HandAt (upd H l (.frz ob (.lst vs))) L g := fun {L g} eL hg => by
    obtain ⟨f1, f2⟩ := off L g eL hg
    obtain ⟨xs, m, c, h1, h2, h3, h4⟩ := hg
    exact ⟨xs, m, c, by rw [upd_ne (Ne.symm f1)]; exact h1, by rw [upd_ne (Ne.symm f2)]; exact h2, h3, h4⟩
  have offk : ∀ {q : Addr}, Off W.hd H q → Off W.hd (upd H l (.frz ob (.lst vs))) q := fun {q} fq L g eL hg => by
    obtain ⟨g0, hg0⟩ := er.hand L eL
    have eg := hg.fn (hat eL hg0)
    subst eg
    exact fq L g eL hg0
  have none' : ∀ {a : Addr}, upd H l (.frz ob (.lst vs)) a = none → H a = none := fun {a} z => by
    by_cases ea : a = l
    · rw [ea, upd_same] at z
      cases z
    · rw [upd_ne ea] at z
      exact z
  refine ⟨?_, fun L eL => ?_, by rw [List.length_set, er.len], fun j s ej => ?_, fun a b xs' ys' q e1 e2 e3 e4 => ?_⟩
  · have hs := er.stp
    cases hh : W.hd with
    | none =>
      rw [hh] at hs
      intro a u ea
      have ne : a ≠ l := fun z => by
        rw [z, n0] at ea
        cases ea
      show upd H l (.frz ob (.lst vs)) a = some u
      rw [upd_ne ne]
      exact hs a u ea
    | some L =>
      rw [hh] at hs
      refine ⟨fun g hg => ?_, fun a z => hs.2 a (none' z)⟩
      obtain ⟨g', h', n, k⟩ := hs.1 g hg
      refine ⟨g', hat hh h', n, fun a u ea x1 x2 => ?_⟩
      have ne : a ≠ l := fun z => by
        rw [z, n0] at ea
        cases ea
      rw [upd_ne ne]
      exact k a u ea x1 x2
  · obtain ⟨g, hg⟩ := er.hand L eL
    exact ⟨g, hat eL hg⟩
  · by_cases hj : i = j
    · subst hj
      rw [List.getElem?_set_self hi] at ej
      cases ej
      exact ⟨_, el, Rep.lst' ⟨ob, upd_same⟩ (rs.mono kp)⟩
    · rw [List.getElem?_set_ne hj] at ej
      have q := er.sl j s ej
      cases s with
      | d x =>
        obtain ⟨v, e1, rx⟩ := q
        exact ⟨v, e1, rx.mono kp⟩
      | own zs =>
        obtain ⟨p, us, e1, hp1, rz, np, fp⟩ := q
        have ne : p ≠ l := fun z => by
          subst z
          exact hj (er.ap i j xs zs p ei ej el e1)
        exact ⟨p, us, e1, by rw [upd_ne ne]; exact hp1, rz.mono kp, np, offk fp⟩
      | hand => exact q
  · have g1 : ∀ {a : Nat} {zs}, (ρ.set i (some (.d (.lst xs))))[a]? = some (some (.own zs)) → ρ[a]? = some (some (.own zs)) := fun {a zs} h => by
      by_cases ha : i = a
      · subst ha
        rw [List.getElem?_set_self hi] at h
        cases h
      · rw [List.getElem?_set_ne ha] at h
        exact h
    exact er.ap a b xs' ys' q (g1 e1) (g1 e2) e3 e4
theorem ps_frz {t : TS} (i : Nat) (h : PS X st t) : PS X st (fun F σ H => ∃ l vs, σ[i]? = some (some (.ref l)) ∧ H l = some (.lst vs) ∧ ∀ o, t F σ (upd H l (.frz o (.lst vs)))) := ⟨fun pins s σ H F I q => by
  obtain ⟨l, vs, el, hl, q⟩ := q
  obtain ⟨o, J⟩ := frz_inv I hl
  exact h.run pins s σ _ F J (q o)⟩
theorem sd_fz (i : Nat) (h : SD W X st ts) : SD W X st (dFz i ts) := (ps_frz i h).weak fun F σ H q => by
  obtain ⟨ρ, E, er, ⟨xs, ei, q⟩, ok⟩ := q
  obtain ⟨l, vs, el, hp, _⟩ := er.sl i _ ei
  refine ⟨l, vs, el, hp, fun ob => ?_⟩
  obtain ⟨er2, kp⟩ := frz_env (ob := ob) er ei el hp
  exact ⟨_, E, er2, q, ok.keep kp⟩


def Walks (K : PySem.W.Frag) (J : It) (H0 : Hp) (xs : List D) : Prop := ∀ (i : Nat) (H : Hp), Keep H0 H → (∀ x, xs[i]? = some x → J.go i H ∧ ∀ v H', J.yld i H v H' → Ext H H' ∧ Rep K H' x v) ∧ (xs.length ≤ i → J.stop i H)
def liftI (W : Wd) (K : PySem.W.Frag) (t : DA) : TI := fun σ H R => ∃ ρ Q, EnvRep W K H σ ρ ∧ t ρ Q ∧ ∀ J H' xs, Stp W.hd H H' → Walks K J H' xs → Q xs → R J H'
abbrev ID (W : Wd) (X : Cx) (tg it : Expr) (t : DA) : Prop := PI X tg it (liftI W X.K t)
def dItL (ta : DE) : DA := fun ρ Q => ta ρ fun x => ∃ xs, x = .lst xs ∧ Q xs
def dItT (ta : DE) : DA := fun ρ Q => ta ρ fun x => ∃ xs, x = .tup xs ∧ Q xs
theorem walks_l {K : PySem.W.Frag} {H0 : Hp} {xs : List D} {p : Addr} {vs : List V} (st : SqZ H0 p vs) (rs : Reps K H0 xs vs) : Walks K (Itl K p) H0 xs := fun i H kp => by
  have st' := (kp.sqZ st).l (K := K)
  have rs' := rs.mono kp
  refine ⟨fun x e => ?_, fun hi => ⟨vs, st', by rw [rs.len]; exact hi⟩⟩
  obtain ⟨v, h1, h2⟩ := rs'.get e
  refine ⟨⟨vs, v, st', h1⟩, fun w H' y => ?_⟩
  obtain ⟨rfl, y⟩ := y
  have e2 := y vs st'
  rw [h1] at e2
  cases e2
  exact ⟨Ext.refl _, h2⟩
theorem walks_t {K : PySem.W.Frag} {H0 : Hp} {xs : List D} {p : Addr} {vs : List V} (st : SqT K H0 p vs) (rs : Reps K H0 xs vs) : Walks K (Itt K p) H0 xs := fun i H kp => by
  have st' := kp.sqT st
  have rs' := rs.mono kp
  refine ⟨fun x e => ?_, fun hi => ⟨vs, st', by rw [rs.len]; exact hi⟩⟩
  obtain ⟨v, h1, h2⟩ := rs'.get e
  refine ⟨⟨vs, v, st', h1⟩, fun w H' y => ?_⟩
  obtain ⟨rfl, y⟩ := y
  have e2 := y vs st'
  rw [h1] at e2
  cases e2
  exact ⟨Ext.refl _, h2⟩
theorem id_list {tg : Expr} (ha : ED W X a ta) : ID W X tg a (dItL ta) := (pi_list ha).weak fun σ H R h => by
  obtain ⟨ρ, Q, er, q, kk⟩ := h
  refine ⟨ρ, _, er, q, fun v H1 x s1 rx q1 => ?_⟩
  obtain ⟨xs, rfl, q1⟩ := q1
  obtain ⟨p, vs, rfl, st, rs⟩ := rx.lst_inv
  exact ⟨p, rfl, ⟨vs, st.l⟩, kk _ H1 xs s1 (walks_l st rs) q1⟩
theorem id_tup {tg : Expr} (ha : ED W X a ta) : ID W X tg a (dItT ta) := (pi_tup ha).weak fun σ H R h => by
  obtain ⟨ρ, Q, er, q, kk⟩ := h
  refine ⟨ρ, _, er, q, fun v H1 x s1 rx q1 => ?_⟩
  obtain ⟨xs, rfl, q1⟩ := q1
  obtain ⟨p, vs, rfl, st, rs⟩ := rx.tup_inv
  exact ⟨p, rfl, ⟨vs, st⟩, kk _ H1 xs s1 (walks_t st rs) q1⟩
def intsFrom (lo : Int) (n : Nat) : List D := (List.range n).map fun i => .int (lo + (i : Nat))
theorem walks_r {K : PySem.W.Frag} {H0 : Hp} (lo : Int) (n : Nat) : Walks K (Itr lo n) H0 (intsFrom lo n) := fun i H kp => by
  unfold intsFrom
  refine ⟨fun x e => ?_, fun hi => ?_⟩
  · rw [List.getElem?_map] at e
    obtain ⟨j, h1, h2⟩ := Option.map_eq_some_iff.mp e
    obtain ⟨hj, h3⟩ := List.getElem?_eq_some_iff.mp h1
    rw [List.getElem_range] at h3
    subst h3
    rw [List.length_range] at hj
    refine ⟨hj, fun v H' y => ?_⟩
    obtain ⟨rfl, rfl⟩ := y
    subst h2
    exact ⟨Ext.refl _, Rep.int'⟩
  · rw [List.length_map, List.length_range] at hi
    exact hi
def dItR1 (t : DA) : DA := fun ρ Q => t ρ fun ds => ∃ j : Int, ds = [.int j] ∧ -(2 ^ 62) ≤ j ∧ j < 2 ^ 62 ∧ Q (intsFrom 0 j.toNat)
theorem id_range1 {tg : Expr} {p : Pos} (hg : Gl X "range") (hm : X.mg "range" = none) (ha : AD W X [a] t) (hs : starEach [a] X.env = [(false, eval a X.env)] := by rfl) : ID W X tg (.Call (.Name "range" p) [a] [] pos) (dItR1 t) := (pi_range1 hg hm ha hs).weak fun σ H R h => by
  obtain ⟨ρ, Q, er, q, kk⟩ := h
  refine ⟨ρ, _, er, q, fun vs H1 ds s1 rs q1 => ?_⟩
  obtain ⟨j, rfl, h1, h2, q1⟩ := q1
  obtain ⟨v, rfl, r1⟩ := one_inv rs
  exact ⟨j, by rw [r1.int_inv], h1, h2, kk _ H1 _ s1 (walks_r 0 j.toNat) q1⟩
def dItR2 (t : DA) : DA := fun ρ Q => t ρ fun ds => ∃ i j : Int, ds = [.int i, .int j] ∧ (-(2 ^ 62) ≤ i ∧ i < 2 ^ 62 ∧ -(2 ^ 62) ≤ j ∧ j < 2 ^ 62) ∧ Q (intsFrom i (j - i).toNat)
theorem id_range2 {tg : Expr} {p : Pos} (hg : Gl X "range") (hm : X.mg "range" = none) (ha : AD W X [a, b] t) (hs : starEach [a, b] X.env = [(false, eval a X.env), (false, eval b X.env)] := by rfl) (hs2 : starEach [b] X.env = [(false, eval b X.env)] := by rfl) : ID W X tg (.Call (.Name "range" p) [a, b] [] pos) (dItR2 t) := (pi_range2 hg hm ha hs hs2).weak fun σ H R h => by
  obtain ⟨ρ, Q, er, q, kk⟩ := h
  refine ⟨ρ, _, er, q, fun vs H1 ds s1 rs q1 => ?_⟩
  obtain ⟨i, j, rfl, h1, q1⟩ := q1
  obtain ⟨v, w, rfl, r1, r2⟩ := two_inv rs
  exact ⟨i, j, by rw [r1.int_inv, r2.int_inv], h1, kk _ H1 _ s1 (walks_r i _) q1⟩
def intsBy (lo c : Int) (n : Nat) : List D := (List.range n).map fun i => .int (lo + (i : Nat) * c)
theorem walks_rc {K : PySem.W.Frag} {H0 : Hp} (lo c : Int) (n : Nat) : Walks K (Itc lo c n) H0 (intsBy lo c n) := fun i H kp => by
  unfold intsBy
  refine ⟨fun x e => ?_, fun hi => ?_⟩
  · rw [List.getElem?_map] at e
    obtain ⟨j, h1, h2⟩ := Option.map_eq_some_iff.mp e
    obtain ⟨hj, h3⟩ := List.getElem?_eq_some_iff.mp h1
    rw [List.getElem_range] at h3
    subst h3
    rw [List.length_range] at hj
    refine ⟨hj, fun v H' y => ?_⟩
    obtain ⟨rfl, rfl⟩ := y
    subst h2
    exact ⟨Ext.refl _, Rep.int'⟩
  · rw [List.length_map, List.length_range] at hi
    exact hi
def dItR3 (t : DA) : DA := fun ρ Q => t ρ fun ds => ∃ (i j c : Int) (n : Nat), ds = [.int i, .int j, .int c] ∧ RgC i j c n ∧ Q (intsBy i c n)
theorem three_inv {K : PySem.W.Frag} {H : Hp} {x y z : D} {vs : List V} (r : Reps K H [x, y, z] vs) : ∃ u v w, vs = [u, v, w] ∧ Rep K H x u ∧ Rep K H y v ∧ Rep K H z w := by
  obtain ⟨v, ws, rfl, r1, r2⟩ := r.cons_inv
  obtain ⟨w, u, rfl, r3, r4⟩ := two_inv r2
  exact ⟨v, w, u, rfl, r1, r3, r4⟩
theorem id_range3 {tg : Expr} {p : Pos} (hg : Gl X "range") (hm : X.mg "range" = none) (ha : AD W X [a, b, c] t) (hs : starEach [a, b, c] X.env = (false, eval a X.env) :: starEach [b, c] X.env := by rfl) (hpl : (backTo pos (starEach [b, c] X.env)).any (·.1) = false := by rfl) : ID W X tg (.Call (.Name "range" p) [a, b, c] [] pos) (dItR3 t) := (pi_range3 hg hm ha hs hpl).weak fun σ H R h => by
  obtain ⟨ρ, Q, er, q, kk⟩ := h
  refine ⟨ρ, _, er, q, fun vs H1 ds s1 rs q1 => ?_⟩
  obtain ⟨i, j, n, m, rfl, h1, q1⟩ := q1
  obtain ⟨u, v, w, rfl, r1, r2, r3⟩ := three_inv rs
  exact ⟨i, j, n, m, by rw [r1.int_inv, r2.int_inv, r3.int_inv], h1, kk _ H1 _ s1 (walks_rc i n m) q1⟩
/-- zip of two tuples -/
def dItZ (t : DA) : DA := fun ρ Q => t ρ fun ds => ∃ xs ys, ds = [.tup xs, .tup ys] ∧ xs.length = ys.length ∧ Q ((xs.zip ys).map fun p => .tup [p.1, p.2])
theorem walks_z {K : PySem.W.Frag} {H0 : Hp} {xs ys : List D} {p q : Addr} {vs ws : List V} (st : SqT K H0 p vs) (rs : Reps K H0 xs vs) (st2 : SqT K H0 q ws) (rs2 : Reps K H0 ys ws) (hl : xs.length = ys.length) : Walks K (RZ.ItzT K p q) H0 ((xs.zip ys).map fun p => .tup [p.1, p.2]) := fun i H kp => by
  have st' := kp.sqT st
  have rs' := rs.mono kp
  have st2' := kp.sqT st2
  have rs2' := rs2.mono kp
  refine ⟨fun x e => ?_, fun hi => ⟨vs, ws, st', st2', ?_⟩⟩
  · rw [List.getElem?_map] at e
    obtain ⟨z, h1, h2⟩ := Option.map_eq_some_iff.mp e
    obtain ⟨x1, x2⟩ := z
    obtain ⟨g1, g2⟩ := List.getElem?_zip_eq_some.mp h1
    obtain ⟨v, a1, a2⟩ := rs'.get g1
    obtain ⟨w, b1, b2⟩ := rs2'.get g2
    refine ⟨⟨vs, ws, v, w, st', st2', a1, b1⟩, fun u H' y => ?_⟩
    obtain ⟨T, y1, y2, rfl, hT, rfl, f1, f2⟩ := y
    have e1 := f1 vs st'
    have e2 := f2 ws st2'
    rw [a1] at e1
    rw [b1] at e2
    cases e1
    cases e2
    subst h2
    have ex : Ext H (upd H T (.tup [v, w])) := Ext.new hT
    exact ⟨ex, Rep.tup' (SqT.of upd_same) (Reps.cons (a2.mono ex.keep) (Reps.one (b2.mono ex.keep)))⟩
  · rw [List.length_map, List.length_zip] at hi
    rw [rs.len, rs2.len]
    exact .inl (by omega)
theorem id_zip {p tpos : Pos} {elts : List Expr} {kk : Nat} (hg : Gl X "zip") (hm : X.mg "zip" = none) (ha : AD W X [a, b] t)
    (hs : starEach [a, b] X.env = (false, eval a X.env) :: starEach [b] X.env := by rfl) (hpl : (backTo pos (starEach [b] X.env)).any (·.1) = false := by rfl) : ID W X (.Tuple elts kk tpos) (.Call (.Name "zip" p) [a, b] [] pos) (dItZ t) := (RZ.pi_zipA hg hm ha hs hpl).weak fun σ H R h => by
  obtain ⟨ρ, Q, er, q, kk⟩ := h
  refine ⟨ρ, _, er, q, fun vs H1 ds s1 rs q1 => ?_⟩
  obtain ⟨xs, ys, rfl, hl, q1⟩ := q1
  obtain ⟨v, w, rfl, r1, r2⟩ := two_inv rs
  obtain ⟨p1, us, rfl, st, ru⟩ := r1.tup_inv
  obtain ⟨p2, ws, rfl, st2, rw'⟩ := r2.tup_inv
  exact ⟨p1, p2, us, ws, rfl, .inr ⟨st, st2, kk _ H1 _ s1 (walks_z st ru st2 rw' hl) q1⟩⟩


def forL (g : DG) (tb : DS) (E : DEnds) : List D → Env → Prop
  | [], ρ => E.nx ρ
  | x :: xs, ρ => g x ρ fun ρ' => tb { E with nx := forL g tb E xs, ct := forL g tb E xs, bk := E.nx } ρ'
def dFor (t : DA) (g : DG) (tb : DS) : DS := fun E ρ => t ρ fun xs => forL g tb E xs ρ
theorem sd_for {iter tg : Expr} {body : List Stmt} (hp : PassesOwn (model X.prog X.w) X.A X.env X.xe) (hc : X.calm = true) (hi : ID W X tg iter t) (hg : GD W X tg g) (hb : BD W X body ts) (hs : ∀ x, foldedSetIterable iter X.env x = pure x := by intro _; rfl) : SD W X (.For tg iter body [] pos) (dFor t g ts) := (ps_for hp hc hi hg hb hs).weak fun F σ H h => by
  obtain ⟨ρ, E, er, q, ok⟩ := h
  refine ⟨ρ, _, er, q, fun J H1 xs s1 wk q1 => ?_⟩
  have er1 := er.mono s1
  refine ⟨fun i m σ' H' => ∃ ρ', EnvRep W X.K H' σ' ρ' ∧ Keep H1 H' ∧ m = xs.length - i ∧ forL g ts E (xs.drop i) ρ', ⟨xs.length, ρ, er1, Keep.refl _, by simp, by simpa using q1⟩, ?_⟩
  rintro i m σ' H' ⟨ρ', er', kp, rfl, fl⟩
  obtain ⟨w1, w2⟩ := wk i H' kp
  by_cases hi' : i < xs.length
  · have ex : xs[i]? = some xs[i] := List.getElem?_eq_getElem hi'
    obtain ⟨go, yl⟩ := w1 _ ex
    rw [List.drop_eq_getElem_cons hi'] at fl
    refine .inr ⟨go, fun σ2 H2 => ∃ ρ2, EnvRep W X.K H2 σ2 ρ2 ∧ Keep H1 H2 ∧ forL g ts E (xs.drop (i + 1)) ρ2, fun σ2 H2 ⟨ρ2, er2, kp2, f2⟩ => ⟨xs.length - (i + 1), by omega, ρ2, er2, kp2, rfl, f2⟩, fun v H2 y => ?_⟩
    obtain ⟨ex2, rv⟩ := yl v H2 y
    have st2 : Stp W.hd H' H2 := Stp.of ex2
    have kp2 : Keep H1 H2 := kp.trans ex2.keep
    refine ⟨_, ρ', _, rv, er'.mono st2, fl, fun σ3 H3 ρ3 er3 kp3 q3 => ?_⟩
    refine ⟨ρ3, _, er3, q3, ⟨fun σ4 H4 ρ4 er4 kp4 q4 => ⟨ρ4, er4, (kp2.trans kp3).trans kp4, q4⟩, ok.rt, fun σ4 H4 ρ4 er4 kp4 q4 => ok.nx σ4 H4 ρ4 er4 ((er.keep s1).trans ((kp2.trans kp3).trans kp4)) q4, fun σ4 H4 ρ4 er4 kp4 q4 => ⟨ρ4, er4, (kp2.trans kp3).trans kp4, q4⟩⟩⟩
  · rw [List.drop_of_length_le (by omega)] at fl
    exact .inl ⟨w2 (by omega), ok.nx σ' H' ρ' er' ((er.keep s1).trans kp) fl⟩
/-- while, by a word and a measure -/
def dWhile (tt : DT) (tb : DS) : DS := fun E ρ => ∃ (I : Env → Prop) (μ : Env → Nat), I ρ ∧ ∀ ρ, I ρ → tt ρ fun b => if b = true then tb { E with nx := fun ρ' => I ρ' ∧ μ ρ' < μ ρ, ct := fun ρ' => I ρ' ∧ μ ρ' < μ ρ, bk := E.nx } ρ else E.nx ρ
theorem sd_while {c : Expr} {body : List Stmt} (hp : PassesOwn (model X.prog X.w) X.A X.env X.xe) (hc : TD W X c tt) (hb : BD W X body ts) : SD W X (.While c body [] pos) (dWhile tt ts) := (ps_while hp hc hb).weak fun F σ H h => by
  obtain ⟨ρ, E, er, ⟨I, μ, i0, step⟩, ok⟩ := h
  refine ⟨fun m σ' H' => ∃ ρ', EnvRep W X.K H' σ' ρ' ∧ Keep H H' ∧ m = μ ρ' ∧ I ρ', ⟨_, ρ, er, Keep.refl _, rfl, i0⟩, ?_⟩
  rintro m σ' H' ⟨ρ', er', kp, rfl, hI⟩
  refine ⟨ρ', _, er', step ρ' hI, fun b H2 s2 q2 => ?_⟩
  have er2 := er'.mono s2
  have kp2 := kp.trans (er'.keep s2)
  cases b with
  | true =>
    refine iteT ⟨fun σ3 H3 => ∃ ρ3, EnvRep W X.K H3 σ3 ρ3 ∧ Keep H H3 ∧ I ρ3 ∧ μ ρ3 < μ ρ', fun σ3 H3 ⟨ρ3, er3, kp3, i3, l3⟩ => ⟨μ ρ3, l3, ρ3, er3, kp3, rfl, i3⟩, ?_⟩
    have q3 : ts { E with nx := fun ρ2 => I ρ2 ∧ μ ρ2 < μ ρ', ct := fun ρ2 => I ρ2 ∧ μ ρ2 < μ ρ', bk := E.nx } ρ' := by simpa using q2
    refine ⟨ρ', _, er2, q3, ⟨fun σ4 H4 ρ4 er4 kp4 q4 => ⟨ρ4, er4, kp2.trans kp4, q4⟩, ok.rt, fun σ4 H4 ρ4 er4 kp4 q4 => ok.nx σ4 H4 ρ4 er4 (kp2.trans kp4) q4, fun σ4 H4 ρ4 er4 kp4 q4 => ⟨ρ4, er4, kp2.trans kp4, q4⟩⟩⟩
  | false => exact iteF (ok.nx σ' H2 ρ' er2 kp2 (by simpa using q2))
end
end DL
end

section
set_option Elab.async false
set_option linter.all false
set_option maxRecDepth 100000
set_option maxHeartbeats 4000000

namespace DL
open PySem PySem.Spec PyProof.Rows L2


section
variable {hd : Option Addr} {H H' : Hp} {p : Addr} {vs ws : List V}
theorem HandAt.lst {L g : Addr} (f1 : p ≠ L) (f2 : p ≠ g) (h : HandAt H L g) : HandAt (upd H p (.lst ws)) L g := by
  obtain ⟨xs, m, c, h1, h2, h3, h4⟩ := h
  exact ⟨xs, m, c, by rw [upd_ne (Ne.symm f1)]; exact h1, by rw [upd_ne (Ne.symm f2)]; exact h2, h3, h4⟩
theorem HandOk.lst (ok : HandOk hd H) (off : Off hd H p) : HandOk hd (upd H p (.lst ws)) := fun L e => by
  obtain ⟨g, hg⟩ := ok L e
  obtain ⟨f1, f2⟩ := off L g e hg
  exact ⟨g, hg.lst f1 f2⟩
theorem Off.lst (ok : HandOk hd H) (off : Off hd H p) : Off hd (L2.upd H p (.lst ws)) p := fun L g e hg => by
  obtain ⟨g0, hg0⟩ := ok L e
  obtain ⟨f1, f2⟩ := off L g0 e hg0
  have eg := hg.fn (hg0.lst f1 f2)
  subst eg
  exact ⟨f1, f2⟩
theorem keep_lst (hp : H p = some (.lst vs)) : Keep H (upd H p (.lst ws)) := fun a u im ea => by
  have ne : a ≠ p := fun z => by
    rw [z, hp] at ea
    cases ea
    exact im
  rw [upd_ne ne]
  exact ea
theorem Stp.lst (ok : HandOk hd H) (s : Stp hd H H') (h0 : H p = none) (off : Off hd H' p) : Stp hd H (upd H' p (.lst ws)) := by
  cases hd with
  | none =>
    intro a o ea
    have ne : a ≠ p := fun z => by rw [z, h0] at ea; cases ea
    show upd H' p (.lst ws) a = some o
    rw [upd_ne ne]
    exact s a o ea
  | some L =>
    refine ⟨fun g hg => ?_, fun a z => ?_⟩
    · obtain ⟨g', hg', n, k⟩ := s.1 g hg
      obtain ⟨f1, f2⟩ := off L g' rfl hg'
      refine ⟨g', hg'.lst f1 f2, n, fun a o ea x1 x2 => ?_⟩
      have ne : a ≠ p := fun z => by rw [z, h0] at ea; cases ea
      rw [upd_ne ne]
      exact k a o ea x1 x2
    · by_cases ea : a = p
      · rw [ea]
        exact h0
      · rw [upd_ne ea] at z
        exact s.2 a z
end


def compL (ok : D → Prop) (f : D → Env) (tt : DT) (te : DE) : List D → List D → (List D → Prop) → Prop
  | [], acc, Q => Q acc
  | x :: xs, acc, Q => ok x ∧ tt (f x) fun b => if b = true then te (f x) fun y => acc.length < 1000 ∧ compL ok f tt te xs (acc ++ [y]) Q else compL ok f tt te xs acc Q
def dLc (ok : D → Prop) (f : Env → D → Env) (n : Nat) (t : DA) (tt : DT) (te : DE) : DA := fun ρ Q => t ρ fun xs => Nat.ble n ρ.length = true ∧ compL ok (f ρ) tt te xs [] Q
def dYes : DT := fun _ Q => Q true
/-- what a target makes of an item: the slots vs are the block's own -/
def TgOk (W : Wd) (K : PySem.W.Frag) (ok : D → Prop) (f : Env → D → Env) (n : Nat) (vs : List Nat) (g : TG) : Prop := ∀ (x : D) (v : V) (σ : L2.St) (H : Hp) (ρ : Env) (k : L2.St → Hp → Prop), n ≤ ρ.length → EnvRep W K H σ ρ → Rep K H x v → ok x →
  (∀ σ2, wipe σ2 vs = wipe σ vs → EnvRep W K H σ2 (f ρ x) → k σ2 H) → g v (wipe σ vs) H k
section
variable {W : Wd} {X : Cx} {e elt tg iter c : Expr} {ifs : List Expr} {scope : Scope} {own : List (Str × Nat)} {pos spos : Pos} {t : DA} {tt : DT} {te : DE} {ok : D → Prop} {f : Env → D → Env} {n : Nat} {g : TG}
theorem sim_lc {K : PySem.W.Frag} {vs : List Nat} (hG : TgOk W K ok f n vs g) {σ : L2.St} {H : Hp} {ρ : Env} {Q : List D → Prop} {k : VK} (er : EnvRep W K H σ ρ) (q : dLc ok f n t tt te ρ Q)
    (kk : ∀ p ws H' xs, Stp W.hd H H' → H p = none → H' p = some (.lst ws) → Off W.hd H' p → Reps K H' xs ws → Q xs → k (.ref p) H') : tLc (liftI W K t) g (liftT W K tt) (lift W K te) vs σ H k := by
  refine ⟨ρ, _, er, q, fun J H1 xs s1 wk ⟨hn, q1⟩ D hD => ?_⟩
  have er1 := er.mono s1
  refine ⟨fun i m H' => ∃ acc ws, Stp W.hd H1 H' ∧ H' D = some (.lst ws) ∧ Reps K H' acc ws ∧ Off W.hd H' D ∧ m = xs.length - i ∧ compL ok (f ρ) tt te (xs.drop i) acc Q,
    ⟨xs.length, [], [], Stp.new hD, upd_same, Reps.nil, Off.upd er1.hand hD, by simp, by simpa using q1⟩, ?_⟩
  rintro i m H' ⟨acc, ws, s2, hp, rs, off, rfl, cl⟩
  obtain ⟨w1, w2⟩ := wk i H' (er1.keep s2)
  by_cases hi : i < xs.length
  · have ex : xs[i]? = some xs[i] := List.getElem?_eq_getElem hi
    obtain ⟨go, yl⟩ := w1 _ ex
    rw [List.drop_eq_getElem_cons hi] at cl
    obtain ⟨okx, cl⟩ := cl
    refine .inr ⟨go, fun H2 => ∃ acc ws, Stp W.hd H1 H2 ∧ H2 D = some (.lst ws) ∧ Reps K H2 acc ws ∧ Off W.hd H2 D ∧ compL ok (f ρ) tt te (xs.drop (i + 1)) acc Q,
      fun H2 ⟨acc, ws, a1, a2, a3, a4, a5⟩ => ⟨xs.length - (i + 1), by omega, acc, ws, a1, a2, a3, a4, rfl, a5⟩, fun v H2 y => ?_⟩
    obtain ⟨ex2, rv⟩ := yl v H2 y
    have h1 := s2.hand er1.hand
    have s3 : Stp W.hd H' H2 := Stp.of ex2
    have er2 := er1.mono (s2.trans s3)
    refine hG _ v σ H2 ρ _ (Nat.le_of_ble_eq_true hn) er2 rv okx fun σ2 hw er3 => ⟨hw, f ρ xs[i], _, er3, cl, fun b H3 s4 q4 => ?_⟩
    have hok2 := er2.hand
    have s5 : Stp W.hd H' H3 := s3.trans s4
    obtain ⟨hp3, off3⟩ := off.stp h1 s5 hp
    have rs3 := rs.mono (s5.keep h1)
    cases b with
    | false => exact iteF ⟨acc, ws, s2.trans s5, hp3, rs3, off3, by simpa using q4⟩
    | true =>
      have q5 : te (f ρ xs[i]) fun y => acc.length < 1000 ∧ compL ok (f ρ) tt te (xs.drop (i + 1)) (acc ++ [y]) Q := by simpa using q4
      refine iteT ⟨f ρ xs[i], _, er3.mono s4, q5, fun u H4 y s6 ru ⟨hl, q6⟩ => ?_⟩
      have hok3 := s5.hand h1
      obtain ⟨hp4, off4⟩ := off3.stp hok3 s6 hp3
      have rs4 := rs3.mono (s6.keep hok3)
      have hok4 := s6.hand hok3
      have kp := keep_lst (ws := ws ++ [u]) hp4
      refine ⟨ws, hp4, small1000 (by rw [rs4.len]; omega), acc ++ [y], ws ++ [u], Stp.lst er1.hand ((s2.trans s5).trans s6) hD off4, upd_same, (rs4.append (Reps.one ru)).mono kp, off4.lst hok4, q6⟩
  · rw [List.drop_of_length_le (by omega)] at cl
    exact .inl ⟨w2 (by omega), kk D ws H' acc (s1.trans s2) (s1.back hD) hp off rs cl⟩
theorem eo_lc (hc : X.calm = true) (hN : X.N.Nodup) (hi : ID W X tg iter t) (bo : BlkOk X.N X.env.scope scope own) (hG : TgOk W X.K ok f n (own.map (·.2)) g)
    (hg : ∀ (s : Shared) (H : Hp) (C : Addr) (cl : List (Str × Addr)) (fp : List Addr), PG (X.blk s H scope (compEnvC scope cl C X.env) fp) tg g)
    (ht : ∀ (s : Shared) (H : Hp) (C : Addr) (cl : List (Str × Addr)) (fp : List Addr), PTs (X.blk s H scope (compEnvC scope cl C X.env) fp) ifs (liftT W X.K tt))
    (he : ∀ (s : Shared) (H : Hp) (C : Addr) (cl : List (Str × Addr)) (fp : List Addr), PE (X.blk s H scope (compEnvC scope cl C X.env) fp) elt (lift W X.K te))
    (hs : ∀ x, foldedSetIterable iter X.env x = pure x := by intro _; rfl) : EO W X (.ListComp elt [⟨tg, iter, ifs, 0⟩] scope pos) (dLc ok f n t tt te) := (pe_lc hc hN hi bo hg ht he hs).weak fun σ H k h => by
  obtain ⟨ρ, Q, er, q, kk⟩ := h
  exact sim_lc hG er q kk
/-- name = [..] -/
theorem sd_setLc (i : Nat) {y : Str} {py : Pos} (hc : X.calm = true) (hN : X.N.Nodup) (hi : ID W X tg iter t) (bo : BlkOk X.N X.env.scope scope own) (hG : TgOk W X.K ok f n (own.map (·.2)) g)
    (hg : ∀ (s : Shared) (H : Hp) (C : Addr) (cl : List (Str × Addr)) (fp : List Addr), PG (X.blk s H scope (compEnvC scope cl C X.env) fp) tg g)
    (ht : ∀ (s : Shared) (H : Hp) (C : Addr) (cl : List (Str × Addr)) (fp : List Addr), PTs (X.blk s H scope (compEnvC scope cl C X.env) fp) ifs (liftT W X.K tt))
    (he : ∀ (s : Shared) (H : Hp) (C : Addr) (cl : List (Str × Addr)) (fp : List Addr), PE (X.blk s H scope (compEnvC scope cl C X.env) fp) elt (lift W X.K te))
    (hsw : swapsWith (.ListComp elt [⟨tg, iter, ifs, 0⟩] scope pos) (some (.Name y py)) spos.line X.env = pure true)
    (hy : X.N[i]? = some y := by rfl) (hyl : X.env.scope.names.lookup y = some .local := by rfl)
    (hs : ∀ x, foldedSetIterable iter X.env x = pure x := by intro _; rfl) : SD W X (.Assign [.Name y py] (.ListComp elt [⟨tg, iter, ifs, 0⟩] scope pos) spos) (dSetO i (dLc ok f n t tt te)) := (ps_setLc hc hN hy hyl hsw hi bo hg ht he hs).weak fun F σ H h => by
  obtain ⟨ρ, E, er, q, okE⟩ := h
  exact sim_lc hG er q fun p vs H1 xs s1 h0 hp off rs ⟨hl, q1⟩ => okE.nx _ H1 _ (own_in er s1 h0 hp off rs (Nat.le_of_ble_eq_true hl)) (er.keep s1) q1
theorem pts_yes {Y : Cx} : PTs Y [] (liftT W Y.K dYes) := ⟨fun pins s σ H Q I h => by
  obtain ⟨ρ, Q', er, q, kk⟩ := h
  exact (pts_nil (X := Y)).run pins s σ H Q I (kk true H Stp.refl q)⟩
theorem pts_test {Y : Cx} (h : TD W Y c tt) : PTs Y [c] (liftT W Y.K tt) := pts_one h
/-- one name -/
def okAny : D → Prop := fun _ => True
def put1 (j : Nat) : Env → D → Env := fun ρ x => ρ.set j (some (.d x))
theorem tg1 {K : PySem.W.Frag} (j : Nat) : TgOk W K okAny (put1 j) (j + 1) [j] (gName j) := fun x v σ H ρ k hn er rx _ kk => by
  have e1 : (wipe σ [j]).set j (some v) = σ.set j (some v) := by
    show (σ.set j none).set j (some v) = _
    rw [List.set_set]
  show k ((wipe σ [j]).set j (some v)) H
  rw [e1]
  refine kk _ ?_ (er.set j rx (by omega))
  show (σ.set j (some v)).set j none = σ.set j none
  rw [List.set_set]
/-- two names -/
def okPair : D → Prop := fun x => ∃ a b, x = .tup [a, b]
def put2 (i j : Nat) : Env → D → Env := fun ρ x => match x with
  | .tup [a, b] => (ρ.set i (some (.d a))).set j (some (.d b))
  | _ => ρ
theorem tg2 {K : PySem.W.Frag} (i j : Nat) (hij : i ≠ j) : TgOk W K okPair (put2 i j) (max i j + 1) [i, j] (gTup K 2 (gCons (gName i) (gCons (gName j) gNil))) := fun x v σ H ρ k hn er rx okx kk => by
  obtain ⟨a, b, rfl⟩ := okx
  obtain ⟨p, vs, rfl, st, rs⟩ := rx.tup_inv
  obtain ⟨u, w, rfl, r1, r2⟩ := two_inv rs
  have hl := er.len
  have hi : i < ρ.length := by omega
  have hj : j < ρ.length := by omega
  have e1 : ((wipe σ [i, j]).set i (some u)).set j (some w) = (σ.set i (some u)).set j (some w) := by
    show ((((σ.set j none).set i none).set i (some u)).set j (some w)) = _
    rw [List.set_set, List.set_comm _ _ (Ne.symm hij), List.set_set, List.set_comm _ _ hij]
  refine ⟨p, [u, w], rfl, st, rfl, u, [w], rfl, w, [], rfl, rfl, ?_⟩
  show k (((wipe σ [i, j]).set i (some u)).set j (some w)) H
  rw [e1]
  refine kk _ ?_ ((er.set i r1 hi).set j r2 (by rw [List.length_set]; exact hj))
  show (((σ.set i (some u)).set j (some w)).set j none).set i none = (σ.set j none).set i none
  rw [List.set_set, List.set_comm _ _ hij, List.set_set, List.set_comm _ _ (Ne.symm hij)]
end


def startD (N : List Str) (ds : List D) : Env := ds.map (fun x => some (Sl.d x)) ++ List.replicate (N.length - ds.length) none
theorem env_start {K : PySem.W.Frag} {H : Hp} {N : List Str} {ds : List D} {vs : List V} (r : Reps K H ds vs) : EnvRep ⟨none, H⟩ K H (start N vs) (startD N ds) := by
  have hl := r.len
  refine ⟨Ext.refl H, (fun _ z => nomatch z), ?_, fun i s e => ?_, fun i j xs ys l e1 _ _ _ => ?_⟩
  · unfold startD L2.start
    simp [hl]
  · unfold startD at e
    by_cases hi : i < ds.length
    · rw [List.getElem?_append_left (by simpa using hi), List.getElem?_map, List.getElem?_eq_getElem hi] at e
      cases e
      obtain ⟨v, h1, h2⟩ := r.get (List.getElem?_eq_getElem hi)
      refine ⟨v, ?_, h2⟩
      unfold L2.start
      rw [List.getElem?_append_left (by rw [List.length_map, hl]; exact hi), List.getElem?_map, h1]
      rfl
    · rw [List.getElem?_append_right (by simpa using hi), List.getElem?_replicate] at e
      split at e <;> cases e
  · unfold startD at e1
    by_cases hi : i < ds.length
    · rw [List.getElem?_append_left (by simpa using hi), List.getElem?_map, List.getElem?_eq_getElem hi] at e1
      cases e1
    · rw [List.getElem?_append_right (by simpa using hi), List.getElem?_replicate] at e1
      split at e1 <;> cases e1
/-- .. the hand first -/
def startH (N : List Str) (ds : List D) : Env := some Sl.hand :: (ds.map (fun x => some (Sl.d x)) ++ List.replicate (N.length - (ds.length + 1)) none)
theorem env_startH {K : PySem.W.Frag} {H : Hp} {N : List Str} {L : Addr} {ds : List D} {vs : List V} (ok : HandOk (some L) H) (r : Reps K H ds vs) : EnvRep ⟨some L, H⟩ K H (start N (.ref L :: vs)) (startH N ds) := by
  have hl := r.len
  have e0 : start N (V.ref L :: vs) = some (V.ref L) :: (vs.map some ++ List.replicate (N.length - (vs.length + 1)) none) := rfl
  rw [e0]
  have key : ∀ (i : Nat) s, (ds.map (fun x => some (Sl.d x)) ++ List.replicate (N.length - (ds.length + 1)) none)[i]? = some (some s) → ∃ x, s = .d x ∧ ∃ v, (vs.map some ++ List.replicate (N.length - (vs.length + 1)) none)[i]? = some (some v) ∧ Rep K H x v := fun i s e => by
    by_cases hi : i < ds.length
    · rw [List.getElem?_append_left (by simpa using hi), List.getElem?_map, List.getElem?_eq_getElem hi] at e
      cases e
      obtain ⟨v, h1, h2⟩ := r.get (List.getElem?_eq_getElem hi)
      refine ⟨_, rfl, v, ?_, h2⟩
      rw [List.getElem?_append_left (by rw [List.length_map, hl]; exact hi), List.getElem?_map, h1]
      rfl
    · rw [List.getElem?_append_right (by simpa using hi), List.getElem?_replicate] at e
      split at e <;> cases e
  refine ⟨Stp.refl, ok, ?_, fun i s e => ?_, fun i j xs ys l e1 _ _ _ => ?_⟩
  · unfold startH
    simp [hl]
  · cases i with
    | zero =>
      cases e
      exact ⟨L, rfl, rfl⟩
    | succ i =>
      obtain ⟨x, rfl, v, h1, h2⟩ := key i s e
      exact ⟨v, h1, h2⟩
  · cases i with
    | zero => cases e1
    | succ i =>
      obtain ⟨x, h, _⟩ := key i _ e1
      cases h
section
variable {P : Program} {w : World} {K : PySem.W.Frag} {mg : Str → Option Value} {base : Heap} {x qual : Str} {st : Stmt} {f : Addr} {fd : FuncData} {N ps : List Str} {k : Nat} {s : DSp}
abbrev cx0 (P : Program) (w : World) (K : PySem.W.Frag) (mg : Str → Option Value) (base : Heap) (N : List Str) (qual : Str) (st : Stmt) (f : Addr) (cdv : Value) (A : Around) (outer : List PySem.Env) (sh : Shared) (H : Hp) (E : XK) : Cx :=
  (cxOf CX0 P w K mg base N qual (defScope st) f cdv A outer sh H E).nox
abbrev cxX (P : Program) (w : World) (K : PySem.W.Frag) (mg : Str → Option Value) (base : Heap) (N : List Str) (qual : Str) (st : Stmt) (f : Addr) (cdv : Value) (A : Around) (outer : List PySem.Env) (sh : Shared) (H : Hp) (E : XK) : Cx :=
  cxOf (L2.CX P w) P w K mg base N qual (defScope st) f cdv A outer sh H E
/-- a def that raises nothing and has no hand -/
theorem fnP (F : Fun K x qual st f fd) (S : FnScope N ps (defScope st)) (hl : ∀ ds Q E, s ds Q E → ds.length = ps.length)
    (body : ∀ (cdv : Value) (A : Around) (outer : List PySem.Env) (sh : Shared) (H : Hp) (E : XK) (W : Wd), Room k (A.deeper (envOfC qual (defScope st) sh.heap.objs.size f cdv)) → W = ⟨none, H⟩ →
      ∃ t, BD W (cx0 P w K mg base N qual st f cdv A outer sh H E) (defBody st) t ∧ ∀ ds Q EQ, s ds Q EQ → t { nx := fun _ => Q .non, rt := Q } (startD N ds)) : FnOk P w K mg base CX0 (k + 1) f fd ps (spP K s) := by
  refine F.ok S (fun vs H Q E h => ?_) (fun cdv A outer sh H vs Q E hr h => ?_)
  · obtain ⟨ds, Q', EQ, r, h, _⟩ := h
    rw [r.len]
    exact hl ds Q' EQ h
  · obtain ⟨ds, Q', EQ, r, h, kk, _⟩ := h
    obtain ⟨t, ht, q⟩ := body cdv A outer sh H E ⟨none, H⟩ hr rfl
    exact ⟨_, ht, startD N ds, _, env_start r, q ds Q' EQ h, ⟨fun σ' H' ρ' er _ z => kk _ H' .non er.stp Rep.non' z, fun v H' x st _ r z => kk v H' x st r z, fun _ _ _ _ _ z => z, fun _ _ _ _ _ z => z⟩⟩
/-- .. that may raise -/
theorem fnX (F : Fun K x qual st f fd) (S : FnScope N ps (defScope st)) (hl : ∀ ds Q E, s ds Q E → ds.length = ps.length)
    (body : ∀ (cdv : Value) (A : Around) (outer : List PySem.Env) (sh : Shared) (H : Hp) (E : XK) (W : Wd) (EX : Addr → Prop), Room k (A.deeper (envOfC qual (defScope st) sh.heap.objs.size f cdv)) → W = ⟨none, H⟩ →
      Takes (cxX P w K mg base N qual st f cdv A outer sh H E) (fun u _ _ H' => ∃ c, u = .ref c ∧ EX c ∧ Ext H H') →
      ∃ t, BD W (cxX P w K mg base N qual st f cdv A outer sh H E) (defBody st) t ∧ ∀ ds Q, s ds Q EX → t { nx := fun _ => Q .non, rt := Q } (startD N ds)) : FnOk P w K mg base (L2.CX P w) (k + 1) f fd ps (spP K s) := by
  refine F.okX S (fun vs H Q E h => ?_) (fun cdv A outer sh H vs Q E hr h => ?_)
  · obtain ⟨ds, Q', EQ, r, h, _⟩ := h
    rw [r.len]
    exact hl ds Q' EQ h
  · obtain ⟨ds, Q', EQ, r, h, kk, ke⟩ := h
    have tk : Takes (cxX P w K mg base N qual st f cdv A outer sh H E) (fun cls d _ H' => E cls d H') := takes_of rfl rfl rfl rfl
    obtain ⟨t, ht, q⟩ := body cdv A outer sh H E ⟨none, H⟩ EQ hr rfl (tk.imp fun c d σ H' ⟨a, e, ha, ex⟩ => by rw [e]; exact ke a d H' ex ha)
    exact ⟨_, ht, startD N ds, _, env_start r, q ds Q' h, ⟨fun σ' H' ρ' er _ z => kk _ H' .non er.stp Rep.non' z, fun v H' x st _ r z => kk v H' x st r z, fun _ _ _ _ _ z => z, fun _ _ _ _ _ z => z⟩⟩
/-- .. with the hand -/
theorem fnH (F : Fun K x qual st f fd) (S : FnScope N ps (defScope st)) (hl : ∀ ds Q E, s ds Q E → ds.length + 1 = ps.length)
    (body : ∀ (cdv : Value) (A : Around) (outer : List PySem.Env) (sh : Shared) (H : Hp) (E : XK) (W : Wd), Room k (A.deeper (envOfC qual (defScope st) sh.heap.objs.size f cdv)) →
      ∃ t, BD W (cx0 P w K mg base N qual st f cdv A outer sh H E) (defBody st) t ∧ ∀ ds Q EQ, s ds Q EQ → t { nx := fun _ => Q .non, rt := Q } (startH N ds)) : FnOk P w K mg base CX0 (k + 1) f fd ps (spH K s) := by
  refine F.ok S (fun vs H Q E h => ?_) (fun cdv A outer sh H vs Q E hr h => ?_)
  · obtain ⟨L, us, ds, Q', rfl, ho, r, h, _⟩ := h
    rw [List.length_cons, r.len]
    exact hl ds Q' _ h
  · obtain ⟨L, us, ds, Q', rfl, ho, r, h, kk⟩ := h
    obtain ⟨t, ht, q⟩ := body cdv A outer sh H E ⟨some L, H⟩ hr
    exact ⟨_, ht, startH N ds, _, env_startH ho r, q ds Q' _ h, ⟨fun σ' H' ρ' er _ z => kk _ H' .non er.stp Rep.non' z, fun v H' x st _ r z => kk v H' x st r z, fun _ _ _ _ _ z => z, fun _ _ _ _ _ z => z⟩⟩
end
end DL
end

section
set_option Elab.async false
set_option linter.all false
set_option maxRecDepth 100000
set_option maxHeartbeats 4000000

namespace DL
open PySem PySem.Spec PyProof.Rows L2
/-- what is proved and known of a def that is called by its name -/
structure Cal (P : Program) (w : World) (K : PySem.W.Frag) (mg : Str → Option Value) (base : Heap) (CX : CXT) (k : Nat) (x : Str) (sp : Sp) : Prop where
  ex : ∃ f fd ps, FnOk P w K mg base CX k f fd ps sp ∧ mg x = some (.ref f) ∧ PySem.W.keepIn K (.ref f) = true ∧ Binds K fd ps []
/-- .. of a method -/
structure Met (P : Program) (w : World) (K : PySem.W.Frag) (mg : Str → Option Value) (base : Heap) (CX : CXT) (k : Nat) (C : Addr) (m : Str) (sp : Sp) : Prop where
  ex : ∃ f fd ps, FnOk P w K mg base CX k f fd ps sp ∧ Meth K C m f ∧ Binds K fd ps []
/-- .. of a class that is called -/
structure Mks (P : Program) (w : World) (K : PySem.W.Frag) (mg : Str → Option Value) (base : Heap) (k : Nat) (x : Str) (C : Addr) (sp : Sp) : Prop where
  ex : ∃ f fd ps, FnOk P w K mg base CX0 k f fd ps sp ∧ Mk K C f ∧ mg x = some (.ref C) ∧ Binds K fd ps []
section
variable {W : Wd} {X : Cx} {e o : Expr} {es : List Expr} {pos p apos : Pos} {ta : DE} {t : DA} {k j : Nat} {x m : Str} {s : DSp} {C : Addr} {EX : Addr → Prop}
theorem ec (G : Cal X.prog X.w X.K X.mg X.base CX0 k x (spP X.K s)) (hr : Room j X.A) (hj : k ≤ j) (hg : Gl X x) (ha : AD W X (e :: es) t)
    (hdb : (x == ("__debug__" : Str)) = false := by decide) (he : starEach (e :: es) X.env = (false, eval e X.env) :: starEach es X.env := by rfl) (hpl : (backTo pos (starEach es X.env)).any (·.1) = false := by rfl) :
    ED W X (.Call (.Name x p) (e :: es) [] pos) (dCall s t) := by
  obtain ⟨f, fd, ps, F, hm, hk, hb⟩ := G.ex
  exact ed_call F (hr.mono hj) hg hm hk hb ha hdb he hpl
theorem ecX {CX : CXT} (G : Cal X.prog X.w X.K X.mg X.base CX k x (spP X.K s)) (hr : Room j X.A) (hj : k ≤ j) (hg : Gl X x) (hx : Passes CX X (XKof W EX)) (ha : AD W X (e :: es) t)
    (hdb : (x == ("__debug__" : Str)) = false := by decide) (he : starEach (e :: es) X.env = (false, eval e X.env) :: starEach es X.env := by rfl) (hpl : (backTo pos (starEach es X.env)).any (·.1) = false := by rfl) :
    ED W X (.Call (.Name x p) (e :: es) [] pos) (dCallX s EX t) := by
  obtain ⟨f, fd, ps, F, hm, hk, hb⟩ := G.ex
  exact ed_callX F (hr.mono hj) hg hm hk hb hx ha hdb he hpl
theorem ech (G : Cal X.prog X.w X.K X.mg X.base CX0 k x (spH X.K s)) (hr : Room j X.A) (hj : k ≤ j) (hg : Gl X x) (ha : AH W X (e :: es) t)
    (hdb : (x == ("__debug__" : Str)) = false := by decide) (he : starEach (e :: es) X.env = (false, eval e X.env) :: starEach es X.env := by rfl) (hpl : (backTo pos (starEach es X.env)).any (·.1) = false := by rfl) :
    ED W X (.Call (.Name x p) (e :: es) [] pos) (dCall s t) := by
  obtain ⟨f, fd, ps, F, hm, hk, hb⟩ := G.ex
  exact ed_callH F (hr.mono hj) hg hm hk hb ha hdb he hpl
theorem em {pl : Sem Bool} (G : Met X.prog X.w X.K X.mg X.base CX0 k C m (spP X.K s)) (hr : Room j X.A) (hj : k ≤ j) (c : Cls X.K C) (ha : ED W X o ta) (hes : AD W X (e :: es) t)
    (he : starEach (e :: es) X.env = (false, eval e X.env) :: starEach es X.env := by rfl) (hpl : (backTo pos (starEach es X.env)).any (·.1) = false := by rfl)
    (ht : eval (.Call (.Attribute o m apos) (e :: es) [] pos) X.env = (do
      let ov ← eval o X.env
      standAt apos.atName
      let (f, first) ← holding [ov] (getMethod ov m pl)
      callWith pos f first (backTo pos (starEach (e :: es) X.env)) (backToKw pos (keywordEach [] X.env))) := by rfl) :
    ED W X (.Call (.Attribute o m apos) (e :: es) [] pos) (dMeth C m s (fun _ => False) ta t) := by
  obtain ⟨f, fd, ps, F, hm, hb⟩ := G.ex
  exact ed_meth ha c hm F (hr.mono hj) hb hes he hpl ht
theorem emX {CX : CXT} {pl : Sem Bool} (G : Met X.prog X.w X.K X.mg X.base CX k C m (spP X.K s)) (hr : Room j X.A) (hj : k ≤ j) (c : Cls X.K C) (hx : Passes CX X (XKof W EX)) (ha : ED W X o ta) (hes : AD W X (e :: es) t)
    (he : starEach (e :: es) X.env = (false, eval e X.env) :: starEach es X.env := by rfl) (hpl : (backTo pos (starEach es X.env)).any (·.1) = false := by rfl)
    (ht : eval (.Call (.Attribute o m apos) (e :: es) [] pos) X.env = (do
      let ov ← eval o X.env
      standAt apos.atName
      let (f, first) ← holding [ov] (getMethod ov m pl)
      callWith pos f first (backTo pos (starEach (e :: es) X.env)) (backToKw pos (keywordEach [] X.env))) := by rfl) :
    ED W X (.Call (.Attribute o m apos) (e :: es) [] pos) (dMeth C m s EX ta t) := by
  obtain ⟨f, fd, ps, F, hm, hb⟩ := G.ex
  exact ed_methX ha c hm F (hr.mono hj) hb hx hes he hpl ht
theorem ek (G : Mks X.prog X.w X.K X.mg X.base k x C (spI X.K C s)) (hr : Room j X.A) (hj : k + 1 ≤ j) (hg : Gl X x) (ha : AD W X (e :: es) t)
    (hdb : (x == ("__debug__" : Str)) = false := by decide) (he : starEach (e :: es) X.env = (false, eval e X.env) :: starEach es X.env := by rfl) (hpl : (backTo pos (starEach es X.env)).any (·.1) = false := by rfl) :
    ED W X (.Call (.Name x p) (e :: es) [] pos) (dCall s t) := by
  obtain ⟨f, fd, ps, F, hM, hm, hb⟩ := G.ex
  exact ed_make hM F (hr.mono hj) hg hm hb ha hdb he hpl
end
end DL
end

section
set_option Elab.async false
set_option linter.all false
set_option maxHeartbeats 4000000

namespace RM
open DL
/-- a ratio as data -/
def ratD (r : Rat) : D := .tup [.int r.num, .int (r.den : Int)]
theorem divInt_parts {a b : Int} (hb : 0 < b) : (Rat.divInt a b).num = a / ((Nat.gcd a.natAbs b.natAbs : Nat) : Int) ∧ (((Rat.divInt a b).den : Nat) : Int) = b / ((Nat.gcd a.natAbs b.natAbs : Nat) : Int) := by
  have hs : b.sign = 1 := Int.sign_eq_one_of_pos hb
  have hg : (b.gcd a : Nat) = Nat.gcd a.natAbs b.natAbs := by
    unfold Int.gcd
    exact Nat.gcd_comm _ _
  constructor
  · rw [Rat.num_divInt, hs, Int.one_mul, hg]
  · rw [Rat.den_divInt, if_neg (by omega), hg]
    have h1 : (b.natAbs : Int) = b := Int.natAbs_of_nonneg (by omega)
    rw [Int.natCast_ediv, h1]
theorem den_pos (r : Rat) : (0 : Int) < (r.den : Int) := by
  have := r.den_nz
  omega
theorem den_ne (r : Rat) : (r.den : Int) ≠ 0 := by
  have := den_pos r
  omega
theorem add_eq (a b : Rat) : Rat.divInt (a.num * b.den + b.num * a.den) (a.den * b.den) = a + b := by
  rw [← Rat.divInt_add_divInt _ _ (den_ne a) (den_ne b), Rat.num_divInt_den, Rat.num_divInt_den]
theorem sub_eq (a b : Rat) : Rat.divInt (a.num * b.den - b.num * a.den) (a.den * b.den) = a - b := by
  rw [← Rat.divInt_sub_divInt _ _ (den_ne a) (den_ne b), Rat.num_divInt_den, Rat.num_divInt_den]
theorem mul_eq (a b : Rat) : Rat.divInt (a.num * b.num) (a.den * b.den) = a * b := by
  rw [← Rat.divInt_mul_divInt, Rat.num_divInt_den, Rat.num_divInt_den]
theorem div_eq (a b : Rat) : Rat.divInt (a.num * b.den) (a.den * b.num) = a / b := by
  rw [Rat.div_def, Rat.inv_def, ← Rat.divInt_mul_divInt, Rat.num_divInt_den]
/-- the size of a ratio: below 2 ^ k above and below the stroke -/
structure B (k : Nat) (r : Rat) : Prop where
  n : r.num.natAbs < 2 ^ k
  d : r.den < 2 ^ k
theorem B.mono {j k : Nat} {r : Rat} (h : B j r) (hk : j ≤ k) : B k r :=
  ⟨Nat.lt_of_lt_of_le h.n (Nat.pow_le_pow_right (by decide) hk), Nat.lt_of_lt_of_le h.d (Nat.pow_le_pow_right (by decide) hk)⟩
theorem natAbs_ediv_le (a : Int) (g : Nat) : (a / (g : Int)).natAbs ≤ a.natAbs := by
  rcases Nat.eq_zero_or_pos g with rfl | hg
  · simp
  · have h1 := Int.natAbs_ediv_le_natAbs a (g : Int)
    exact h1
theorem B.divInt {a b : Int} {k : Nat} (hb : 0 < b) (ha : a.natAbs < 2 ^ k) (hb2 : b.natAbs < 2 ^ k) : B k (Rat.divInt a b) := by
  obtain ⟨h1, h2⟩ := divInt_parts (a := a) hb
  constructor
  · rw [h1]
    exact Nat.lt_of_le_of_lt (natAbs_ediv_le _ _) ha
  · have h3 : (Rat.divInt a b).den = (b / ((Nat.gcd a.natAbs b.natAbs : Nat) : Int)).natAbs := by
      rw [← h2]
      simp
    rw [h3]
    exact Nat.lt_of_le_of_lt (natAbs_ediv_le _ _) hb2
theorem lt_mul {a b : Nat} {j k : Nat} (ha : a < 2 ^ j) (hb : b < 2 ^ k) : a * b < 2 ^ (j + k) := by
  rw [Nat.pow_add]
  exact Nat.mul_lt_mul'' ha hb
theorem lt_imul {a b : Int} {j k : Nat} (ha : a.natAbs < 2 ^ j) (hb : b.natAbs < 2 ^ k) : (a * b).natAbs < 2 ^ (j + k) := by
  rw [Int.natAbs_mul]
  exact lt_mul ha hb
theorem lt_iadd {a b : Int} {k : Nat} (ha : a.natAbs < 2 ^ k) (hb : b.natAbs < 2 ^ k) : (a + b).natAbs < 2 ^ (k + 1) := by
  have h : (2 : Nat) ^ (k + 1) = 2 ^ k + 2 ^ k := by rw [Nat.pow_succ]; omega
  omega
theorem lt_isub {a b : Int} {k : Nat} (ha : a.natAbs < 2 ^ k) (hb : b.natAbs < 2 ^ k) : (a - b).natAbs < 2 ^ (k + 1) := by
  have h : (2 : Nat) ^ (k + 1) = 2 ^ k + 2 ^ k := by rw [Nat.pow_succ]; omega
  omega
theorem B.dn {k : Nat} {r : Rat} (h : B k r) : ((r.den : Nat) : Int).natAbs < 2 ^ k := by
  rw [Int.natAbs_natCast]
  exact h.d
theorem B.addNum {j k : Nat} {a b : Rat} (ha : B j a) (hb : B k b) : (a.num * b.den + b.num * a.den).natAbs < 2 ^ (j + k + 1) := lt_iadd (lt_imul ha.n hb.dn) (by rw [Nat.add_comm j k]; exact lt_imul hb.n ha.dn)
theorem B.subNum {j k : Nat} {a b : Rat} (ha : B j a) (hb : B k b) : (a.num * b.den - b.num * a.den).natAbs < 2 ^ (j + k + 1) := lt_isub (lt_imul ha.n hb.dn) (by rw [Nat.add_comm j k]; exact lt_imul hb.n ha.dn)
theorem B.denMul {j k : Nat} {a b : Rat} (ha : B j a) (hb : B k b) : ((a.den : Int) * b.den).natAbs < 2 ^ (j + k) := lt_imul ha.dn hb.dn
theorem den_mul_pos (a b : Rat) : (0 : Int) < (a.den : Int) * b.den := Int.mul_pos (den_pos a) (den_pos b)
theorem pow_up {n j k : Nat} (h : n < 2 ^ j) (hk : j ≤ k) : n < 2 ^ k := Nat.lt_of_lt_of_le h (Nat.pow_le_pow_right (by decide) hk)
theorem B.add {j k : Nat} {a b : Rat} (ha : B j a) (hb : B k b) : B (j + k + 1) (a + b) := by
  rw [← add_eq]
  exact B.divInt (den_mul_pos a b) (ha.addNum hb) (pow_up (ha.denMul hb) (by omega))
theorem B.sub {j k : Nat} {a b : Rat} (ha : B j a) (hb : B k b) : B (j + k + 1) (a - b) := by
  rw [← sub_eq]
  exact B.divInt (den_mul_pos a b) (ha.subNum hb) (pow_up (ha.denMul hb) (by omega))
theorem B.mul {j k : Nat} {a b : Rat} (ha : B j a) (hb : B k b) : B (j + k) (a * b) := by
  rw [← mul_eq]
  exact B.divInt (den_mul_pos a b) (lt_imul ha.n hb.n) (ha.denMul hb)
theorem B.neg {k : Nat} {a : Rat} (ha : B k a) : B k (-a) := ⟨by rw [Rat.neg_num, Int.natAbs_neg]; exact ha.n, by rw [Rat.neg_den]; exact ha.d⟩
theorem B.div {j k : Nat} {a b : Rat} (ha : B j a) (hb : B k b) (h : 0 < b) : B (j + k) (a / b) := by
  have hn : 0 < b.num := by
    have h1 := (Rat.lt_iff 0 b).mp h
    simpa using h1
  rw [← div_eq]
  exact B.divInt (Int.mul_pos (den_pos a) hn) (lt_imul ha.n hb.dn) (lt_imul ha.dn hb.n)
theorem B.int {k : Nat} {i : Int} (h : i.natAbs < 2 ^ k) (hk : 0 < k) : B k (i : Rat) := ⟨h, by
  show 1 < 2 ^ k
  exact Nat.one_lt_two_pow (by omega)⟩
theorem B.zero : B 1 (0 : Rat) := ⟨by decide, by decide⟩
theorem B.one : B 1 (1 : Rat) := ⟨by decide, by decide⟩
/-- the ratio without its sign -/
def rabs (r : Rat) : Rat := if r < 0 then -r else r
theorem rabs_num (r : Rat) : (rabs r).num = r.num.natAbs := by
  unfold rabs
  split
  · rename_i h
    have h1 := (Rat.lt_iff r 0).mp h
    have h2 : r.num < 0 := by simpa using h1
    rw [Rat.neg_num]
    omega
  · rename_i h
    have h1 : 0 ≤ r := Rat.not_lt.mp h
    have h2 := Rat.num_nonneg.mpr h1
    omega
theorem rabs_den (r : Rat) : (rabs r).den = r.den := by
  unfold rabs
  split
  · rw [Rat.neg_den]
  · rfl
theorem B.abs {k : Nat} {a : Rat} (ha : B k a) : B k (rabs a) := ⟨by rw [rabs_num, Int.natAbs_natCast]; exact ha.n, by rw [rabs_den]; exact ha.d⟩
theorem rabs_nonneg (r : Rat) : 0 ≤ rabs r := by
  unfold rabs
  split <;> grind
theorem le_rabs (r : Rat) : r ≤ rabs r := by
  unfold rabs
  split <;> grind
theorem neg_le_rabs (r : Rat) : -r ≤ rabs r := by
  unfold rabs
  split <;> grind
theorem rabs_sq (r : Rat) : rabs r * rabs r = r * r := by
  unfold rabs
  split <;> grind
theorem ratD_inj {a b : Rat} (h1 : a.num = b.num) (h2 : (a.den : Int) = b.den) : a = b := Rat.ext h1 (by omega)
end RM
end

section
set_option Elab.async false
set_option linter.all false
set_option maxRecDepth 100000
set_option maxHeartbeats 4000000

namespace DL
open PySem PySem.Spec PyProof.Rows L2
section
variable {W : Wd} {X : Cx} {e a b c o : Expr} {es : List Expr} {pos : Pos} {ta tb tc : DE} {t : DA}


def tyD : D → String
  | .non => "NoneType"
  | .bl _ => "bool"
  | .int _ => "int"
  | .str _ => "str"
  | .tup _ => "tuple"
  | .lst _ => "list"
  | .ins _ _ _ => ""
theorem sqT_ty {K : PySem.W.Frag} {H : Hp} {p : Addr} {vs : List V} (h : SqT K H p vs) : TyX K H (.ref p) (.type "tuple") := by
  rcases h with (h | ⟨o, h⟩) | ⟨o, its, n, h, c, _⟩
  · exact .base (.tup h)
  · exact .fTuple h
  · exact .kTuple h c
theorem ty_rep {K : PySem.W.Frag} {H : Hp} {x : D} {v : V} (r : Rep K H x v) (hx : tyD x ≠ "") : TyX K H v (.type (tyD x)) := by
  cases x with
  | non => rw [r.non_inv]; exact .base .non
  | bl b => rw [r.bl_inv]; exact .base (.bl b)
  | int b => rw [r.int_inv]; exact .base (.int b)
  | str b => rw [r.str_inv]; exact .base (.str b)
  | tup xs =>
    obtain ⟨p, vs, rfl, st, _⟩ := r.tup_inv
    exact sqT_ty st
  | lst xs =>
    obtain ⟨p, vs, rfl, ⟨o, st⟩, _⟩ := r.lst_inv
    exact .base (.frz st)
  | ins C ns xs => exact absurd rfl hx
/-- is the datum of the built-in class T? -/
def isTy (T : String) (x : D) : Option Bool := if tyD x = "" then none else kitB (tyD x) T
theorem isTy_inv {T : String} {x : D} {r : Bool} (h : isTy T x = some r) : tyD x ≠ "" ∧ kitB (tyD x) T = some r := by
  unfold isTy at h
  by_cases q : tyD x = ""
  · rw [if_pos q] at h
    cases h
  · rw [if_neg q] at h
    exact ⟨q, h⟩
/-- the four questions that are asked, by the datum's kind -/
def qInt : D → Option Bool
  | .int _ => some true
  | .bl _ => some true
  | .ins _ _ _ => none
  | _ => some false
def qBool : D → Option Bool
  | .bl _ => some true
  | .ins _ _ _ => none
  | _ => some false
def qTup : D → Option Bool
  | .tup _ => some true
  | .ins _ _ _ => none
  | _ => some false
def qSeq : D → Option Bool
  | .tup _ => some true
  | .lst _ => some true
  | .ins _ _ _ => none
  | _ => some false
theorem isTy_of {T : String} {x : D} {r : Bool} (h1 : tyD x ≠ "") (h2 : kitB (tyD x) T = some r) : isTy T x = some r := by
  unfold isTy
  rw [if_neg h1]
  exact h2
theorem qInt_of {x : D} {r : Bool} (h : qInt x = some r) : isTy "int" x = some r := by
  cases x <;> cases h <;> exact isTy_of (by simp only [tyD]; decide +kernel) (by simp only [tyD]; decide +kernel)
theorem qBool_of {x : D} {r : Bool} (h : qBool x = some r) : isTy "bool" x = some r := by
  cases x <;> cases h <;> exact isTy_of (by simp only [tyD]; decide +kernel) (by simp only [tyD]; decide +kernel)
theorem qTup_of {x : D} {r : Bool} (h : qTup x = some r) : isTy "tuple" x = some r := by
  cases x <;> cases h <;> exact isTy_of (by simp only [tyD]; decide +kernel) (by simp only [tyD]; decide +kernel)
theorem kit_lt : kitB "list" "list" = some true := by decide +kernel
theorem kit_tl : kitB "tuple" "list" = some false := by decide +kernel
theorem kit_tt : kitB "tuple" "tuple" = some true := by decide +kernel
theorem any_t {K : PySem.W.Frag} : PySem.W.kitAny K (.type "tuple") [.type "list", .type "tuple"] = some true := kitAny_cons (b := false) (kit_ty kit_tl) (fun _ => kitAny_cons (b := true) (kit_ty kit_tt) (fun z => by cases z) (fun _ => rfl)) (fun z => by cases z)
theorem any_l {K : PySem.W.Frag} : PySem.W.kitAny K (.type "list") [.type "list", .type "tuple"] = some true := kitAny_cons (b := true) (kit_ty kit_lt) (fun z => by cases z) (fun _ => rfl)
theorem any_o {K : PySem.W.Frag} {T : String} (h1 : kitB T "list" = some false) (h2 : kitB T "tuple" = some false) : PySem.W.kitAny K (.type T) [.type "list", .type "tuple"] = some false := kitAny_cons (b := false) (kit_ty h1) (fun _ => kitAny_cons (b := false) (kit_ty h2) (fun _ => kitAny_nil) (fun z => by cases z)) (fun z => by cases z)
theorem qSeq_of {K : PySem.W.Frag} {x : D} {r : Bool} (h : qSeq x = some r) : tyD x ≠ "" ∧ PySem.W.kitAny K (.type (tyD x)) [.type "list", .type "tuple"] = some r := by
  cases x <;> cases h <;> refine ⟨by simp only [tyD]; decide +kernel, ?_⟩ <;> first | exact any_t | exact any_l | (simp only [tyD]; exact any_o (by decide +kernel) (by decide +kernel))
theorem bt_int : bootBuiltins "int" = some (.type "int") := by decide +kernel
theorem bt_bool : bootBuiltins "bool" = some (.type "bool") := by decide +kernel
theorem bt_tuple : bootBuiltins "tuple" = some (.type "tuple") := by decide +kernel
theorem bt_list : bootBuiltins "list" = some (.type "list") := by decide +kernel
def dQ (q : D → Option Bool) (ta : DE) : DE := fun ρ Q => ta ρ fun x => ∃ r, q x = some r ∧ Q (.bl r)
theorem ed_isi {qq : D → Option Bool} {T : String} {x : Str} {p q : Pos} (hq : ∀ x r, qq x = some r → isTy T x = some r) (hg : Gl X "isinstance") (hm : X.mg "isinstance" = none) (hg2 : Gl X x) (hm2 : X.mg x = none) (hv2 : bootBuiltins x = some (.type T)) (ha : ED W X a ta) (hn : x ≠ "__name__" := by decide) (hdb : (x == ("__debug__" : Str)) = false := by decide)
    (he : starEach [a, .Name x q] X.env = (false, eval a X.env) :: starEach [.Name x q] X.env := by rfl) (he2 : starEach [.Name x q] X.env = (false, eval (.Name x q) X.env) :: starEach [] X.env := by rfl) (hpl : (backTo pos (starEach [.Name x q] X.env)).any (·.1) = false := by rfl) :
    ED W X (.Call (.Name "isinstance" p) [a, .Name x q] [] pos) (dQ qq ta) := (pe_callB call_isi hg hm PyProof.Rows.boot_isinstance (pa_cons ha (pa_cons (pe_bltn (v := .ty T) hg2 hm2 hv2 rfl hn hdb) pa_nil he2) he) (by decide) (by decide) he hpl).weak fun σ H k h => by
  obtain ⟨ρ, Q, er, q, kk⟩ := h
  refine ⟨ρ, _, er, q, fun v H1 x s1 rx q1 => ?_⟩
  obtain ⟨r, hr, q1⟩ := q1
  obtain ⟨h1, h2⟩ := isTy_inv (hq x r hr)
  exact ⟨v, _, _, _, r, rfl, .ty T, ty_rep rx h1, kit_ty h2, kk _ H1 _ s1 Rep.bl' q1⟩
theorem ed_isInt {p q : Pos} (hg : Gl X "isinstance") (hm : X.mg "isinstance" = none) (hg2 : Gl X "int") (hm2 : X.mg "int" = none) (ha : ED W X a ta)
    (he : starEach [a, .Name "int" q] X.env = (false, eval a X.env) :: starEach [.Name "int" q] X.env := by rfl) (he2 : starEach [.Name "int" q] X.env = (false, eval (.Name "int" q) X.env) :: starEach [] X.env := by rfl) (hpl : (backTo pos (starEach [.Name "int" q] X.env)).any (·.1) = false := by rfl) :
    ED W X (.Call (.Name "isinstance" p) [a, .Name "int" q] [] pos) (dQ qInt ta) := ed_isi (fun _ _ h => qInt_of h) hg hm hg2 hm2 bt_int ha (by decide) (by decide) he he2 hpl
theorem ed_isBool {p q : Pos} (hg : Gl X "isinstance") (hm : X.mg "isinstance" = none) (hg2 : Gl X "bool") (hm2 : X.mg "bool" = none) (ha : ED W X a ta)
    (he : starEach [a, .Name "bool" q] X.env = (false, eval a X.env) :: starEach [.Name "bool" q] X.env := by rfl) (he2 : starEach [.Name "bool" q] X.env = (false, eval (.Name "bool" q) X.env) :: starEach [] X.env := by rfl) (hpl : (backTo pos (starEach [.Name "bool" q] X.env)).any (·.1) = false := by rfl) :
    ED W X (.Call (.Name "isinstance" p) [a, .Name "bool" q] [] pos) (dQ qBool ta) := ed_isi (fun _ _ h => qBool_of h) hg hm hg2 hm2 bt_bool ha (by decide) (by decide) he he2 hpl
theorem ed_isTup {p q : Pos} (hg : Gl X "isinstance") (hm : X.mg "isinstance" = none) (hg2 : Gl X "tuple") (hm2 : X.mg "tuple" = none) (ha : ED W X a ta)
    (he : starEach [a, .Name "tuple" q] X.env = (false, eval a X.env) :: starEach [.Name "tuple" q] X.env := by rfl) (he2 : starEach [.Name "tuple" q] X.env = (false, eval (.Name "tuple" q) X.env) :: starEach [] X.env := by rfl) (hpl : (backTo pos (starEach [.Name "tuple" q] X.env)).any (·.1) = false := by rfl) :
    ED W X (.Call (.Name "isinstance" p) [a, .Name "tuple" q] [] pos) (dQ qTup ta) := ed_isi (fun _ _ h => qTup_of h) hg hm hg2 hm2 bt_tuple ha (by decide) (by decide) he he2 hpl
/-- isinstance(x, (list, tuple)) -/
theorem ed_isSeq {p q1 q2 q3 : Pos} {kk : Nat} (hg : Gl X "isinstance") (hm : X.mg "isinstance" = none) (hg2 : Gl X "list") (hm2 : X.mg "list" = none) (hg3 : Gl X "tuple") (hm3 : X.mg "tuple" = none) (ha : ED W X a ta)
    (he : starEach [a, .Tuple [.Name "list" q1, .Name "tuple" q2] kk q3] X.env = (false, eval a X.env) :: starEach [.Tuple [.Name "list" q1, .Name "tuple" q2] kk q3] X.env := by rfl)
    (he2 : starEach [.Tuple [.Name "list" q1, .Name "tuple" q2] kk q3] X.env = (false, eval (.Tuple [.Name "list" q1, .Name "tuple" q2] kk q3) X.env) :: starEach [] X.env := by rfl)
    (he3 : starEach [.Name "list" q1, .Name "tuple" q2] X.env = (false, eval (.Name "list" q1) X.env) :: starEach [.Name "tuple" q2] X.env := by rfl) (he4 : starEach [.Name "tuple" q2] X.env = (false, eval (.Name "tuple" q2) X.env) :: starEach [] X.env := by rfl)
    (hpl : (backTo pos (starEach [.Tuple [.Name "list" q1, .Name "tuple" q2] kk q3] X.env)).any (·.1) = false := by rfl) :
    ED W X (.Call (.Name "isinstance" p) [a, .Tuple [.Name "list" q1, .Name "tuple" q2] kk q3] [] pos) (dQ qSeq ta) := (pe_callB call_isiT hg hm PyProof.Rows.boot_isinstance (pa_cons ha (pa_cons (pe_tup (pa_cons (pe_bltn (v := .ty "list") hg2 hm2 bt_list rfl) (pa_cons (pe_bltn (v := .ty "tuple") hg3 hm3 bt_tuple rfl) pa_nil he4) he3)) pa_nil he2) he) (by decide) (by decide) he hpl).weak fun σ H k h => by
  obtain ⟨ρ, Q, er, q, kk⟩ := h
  refine ⟨ρ, _, er, q, fun v H1 x s1 rx q1 => ⟨le1000 (by decide), fun T hT => ?_⟩⟩
  obtain ⟨r, hr, q1⟩ := q1
  obtain ⟨h1, h2⟩ := qSeq_of (K := X.K) hr
  have ex := Ext.new (o := .tup [.ty "list", .ty "tuple"]) hT
  exact ⟨v, T, _, _, _, r, rfl, upd_same, .cons (.ty "list") (.cons (.ty "tuple") .nil), ty_rep (rx.mono ex.keep) h1, h2, kk _ _ _ (s1.trans (Stp.of ex)) Rep.bl' q1⟩


mutual
def pdD : D → Option PyData
  | .non => some .none
  | .bl b => some (.bool b)
  | .int i => some (.int i)
  | .str s => some (.str s)
  | .tup xs => (pdDs xs).map .tuple
  | .lst xs => (pdDs xs).map .list
  | .ins _ _ _ => none
def pdDs : List D → Option (List PyData)
  | [] => some []
  | x :: xs => (pdD x).bind fun d => (pdDs xs).map fun ds => d :: ds
end
mutual
theorem pd_rep {K : PySem.W.Frag} {H : Hp} : ∀ {x : D} {v : V} {d : PyData}, Rep K H x v → pdD x = some d → Dp K H v d
  | .non, v, d, r, h => by
    rw [pdD] at h
    cases h
    rw [r.non_inv]
    exact .non
  | .bl b, v, d, r, h => by
    rw [pdD] at h
    cases h
    rw [r.bl_inv]
    exact .bl b
  | .int b, v, d, r, h => by
    rw [pdD] at h
    cases h
    rw [r.int_inv]
    exact .int b
  | .str b, v, d, r, h => by
    rw [pdD] at h
    cases h
    rw [r.str_inv]
    exact .str b
  | .tup xs, v, d, r, h => by
    rw [pdD] at h
    obtain ⟨ds, h1, rfl⟩ := Option.map_eq_some_iff.mp h
    obtain ⟨p, vs, rfl, st, rs⟩ := r.tup_inv
    exact .tup st (pds_rep rs h1)
  | .lst xs, v, d, r, h => by
    rw [pdD] at h
    obtain ⟨ds, h1, rfl⟩ := Option.map_eq_some_iff.mp h
    obtain ⟨p, vs, rfl, st, rs⟩ := r.lst_inv
    exact .lst st.l (pds_rep rs h1)
  | .ins C ns xs, v, d, r, h => by
    rw [pdD] at h
    cases h
theorem pds_rep {K : PySem.W.Frag} {H : Hp} : ∀ {xs : List D} {vs : List V} {ds : List PyData}, Reps K H xs vs → pdDs xs = some ds → DpAll K H vs ds
  | [], vs, ds, r, h => by
    rw [pdDs] at h
    cases h
    rw [r.nil_inv]
    exact .nil
  | x :: xs, vs, ds, r, h => by
    rw [pdDs] at h
    obtain ⟨d, h1, h2⟩ := Option.bind_eq_some_iff.mp h
    obtain ⟨es, h3, rfl⟩ := Option.map_eq_some_iff.mp h2
    obtain ⟨v, ws, rfl, r1, r2⟩ := r.cons_inv
    exact .cons (pd_rep r1 h1) (pds_rep r2 h3)
end
/-- the answer of == on two data, where it is told -/
def EqD (x y : D) (b : Bool) : Prop := ∃ d e, pdD x = some d ∧ pdD y = some e ∧ SeqAt.shaped d = true ∧ SeqAt.shaped e = true ∧ PyData.eqv d e = b
def dEqD : DR := fun x y Q => ∃ b, EqD x y b ∧ Q (.bl b)
def dNeD : DR := fun x y Q => ∃ b, EqD x y b ∧ Q (.bl (!b))
theorem sim_eqD {K : PySem.W.Frag} : SimR K (rEqD K) dEqD := fun H x y u v Q k rx ry h kk => by
  obtain ⟨b, ⟨d, e, h1, h2, h3, h4, rfl⟩, q⟩ := h
  exact ⟨d, e, pd_rep rx h1, pd_rep ry h2, h3, h4, kk _ H _ (Ext.refl H) Rep.bl' q⟩
theorem sim_neD {K : PySem.W.Frag} : SimR K (rNeD K) dNeD := fun H x y u v Q k rx ry h kk => by
  obtain ⟨b, ⟨d, e, h1, h2, h3, h4, rfl⟩, q⟩ := h
  exact ⟨d, e, pd_rep rx h1, pd_rep ry h2, h3, h4, kk _ H _ (Ext.refl H) Rep.bl' q⟩
theorem ed_eqD {k : Nat} (hr : Room k X.A) (ha : ED W X a ta) (hb : ED W X b tb) : ED W X (.Compare a [.Eq] [b] pos) (dOp dEqD ta tb) := ed_cmp (op_eqD hr.units) sim_eqD ha hb (nomark _)
theorem ed_neD {k : Nat} (hr : Room k X.A) (ha : ED W X a ta) (hb : ED W X b tb) : ED W X (.Compare a [.NotEq] [b] pos) (dOp dNeD ta tb) := ed_cmp (op_neD hr.units) sim_neD ha hb (nomark _)
theorem td_eqD {k : Nat} (hr : Room k X.A) (ha : ED W X a ta) (hb : ED W X b tb) : TD W X (.Compare a [.Eq] [b] pos) (dTest (dOp dEqD ta tb)) := td_cmp (op_eqD hr.units) sim_eqD ha hb (nomark _)
theorem td_neD {k : Nat} (hr : Room k X.A) (ha : ED W X a ta) (hb : ED W X b tb) : TD W X (.Compare a [.NotEq] [b] pos) (dTest (dOp dNeD ta tb)) := td_cmp (op_neD hr.units) sim_neD ha hb (nomark _)
end
end DL
namespace RM
open PySem DL
theorem eqD_rat (a b : Rat) : EqD (ratD a) (ratD b) (decide (a = b)) := by
  refine ⟨.tuple [.int a.num, .int (a.den : Int)], .tuple [.int b.num, .int (b.den : Int)], by simp [ratD, pdD, pdDs], by simp [ratD, pdD, pdDs], rfl, rfl, ?_⟩
  show (a.num == b.num && ((a.den : Int) == (b.den : Int) && true)) = _
  by_cases h : a = b
  · subst h
    simp
  · rw [decide_eq_false h]
    by_cases h1 : a.num = b.num
    · have h2 : ¬ ((a.den : Int) = b.den) := fun z => h (ratD_inj h1 z)
      simp [h2]
    · simp [h1]
theorem pdDs_ints : ∀ ns : List Int, pdDs (ns.map D.int) = some (ns.map PyData.int)
  | [] => by rw [List.map_nil, pdDs, List.map_nil]
  | n :: ns => by rw [List.map_cons, pdDs, pdD, Option.bind_some, pdDs_ints ns, Option.map_some, List.map_cons]
theorem canLay_ints : ∀ ns : List Int, PyData.canLayAll0 (ns.map PyData.int) = true
  | [] => by rw [List.map_nil, PyData.canLayAll0]
  | n :: ns => by rw [List.map_cons, PyData.canLayAll0, PyData.canLay0, canLay_ints ns]; rfl
theorem eqv_ints : ∀ ns ms : List Int, PyData.eqvAll (ns.map PyData.int) (ms.map PyData.int) = decide (ns = ms)
  | [], [] => by simp [PyData.eqvAll]
  | [], m :: ms => by simp [PyData.eqvAll]
  | n :: ns, [] => by simp [PyData.eqvAll]
  | n :: ns, m :: ms => by
    rw [List.map_cons, List.map_cons, PyData.eqvAll, PyData.eqv, eqv_ints ns ms]
    by_cases h : n = m
    · subst h
      simp
    · simp [h]
theorem depthAll_ints : ∀ ns : List Int, PyData.depthAll (ns.map PyData.int) ≤ 1
  | [] => by rw [List.map_nil, PyData.depthAll]; omega
  | n :: ns => by
    have h := depthAll_ints ns
    rw [List.map_cons, PyData.depthAll, PyData.depth]
    omega
theorem depth_ints (ns : List Int) : (PyData.list (ns.map PyData.int)).depth ≤ 64 := by
  have h := depthAll_ints ns
  rw [PyData.depth]
  omega
theorem eqD_ints (ns ms : List Int) : EqD (.lst (ns.map D.int)) (.lst (ms.map D.int)) (decide (ns = ms)) := by
  refine ⟨.list (ns.map .int), .list (ms.map .int), by rw [pdD, pdDs_ints]; rfl, by rw [pdD, pdDs_ints]; rfl, ?_, ?_, ?_⟩
  · unfold SeqAt.shaped
    rw [PyData.canLay0, canLay_ints, decide_eq_true (depth_ints ns)]
    rfl
  · unfold SeqAt.shaped
    rw [PyData.canLay0, canLay_ints, decide_eq_true (depth_ints ms)]
    rfl
  · rw [PyData.eqv, eqv_ints]
end RM
end

section
set_option Elab.async false
set_option linter.all false
set_option maxRecDepth 100000
set_option maxHeartbeats 4000000

namespace DL
open PySem PySem.Spec PyProof.Rows L2
section
variable {W : Wd} {X : Cx} {e a b c o : Expr} {es : List Expr} {pos : Pos} {ta tb tc : DE} {t : DA} {k j : Nat} {f C : Addr} {fd : FuncData} {ps : List Str} {s : DSp}
/-- a def is run by the machine itself, around A -/
theorem run_in {A : Around} {pins : List (Addr × Obj)} {σ : L2.St} {H : Hp} {sh : Shared} {Q : VK} {us : List Value} {vs : List V} {sp : Sp} (F : FnOk X.prog X.w X.K X.mg X.base CX0 k f fd ps sp) (hr : Room k A) (hf : A.frames = X.A.frames) (hb : Binds X.K fd ps [])
    (I : Inv X pins σ H sh) (r : Vals vs us) (h : sp vs H Q E0) : wpAny (model X.prog X.w) A (call (.ref f) us) (EP X pins σ Q) X.xe sh := by
  have e0 : Env0 X.prog X.w X.K X.mg X.base A X.stack sh H := by
    have e := I.env0
    exact ⟨by rw [hf]; exact e.frames, e.mod, e.bs, e.bsz, e.funs, e.frf, e.hok, e.bare⟩
  have hl : (us ++ []).length = ps.length := by
    rw [List.append_nil, ← r.length]
    exact F.len _ _ _ _ h
  have hB := hb sh us I.kIn hl
  rw [List.append_nil] at hB
  refine wpAny_call (codeAny_mono (F.run A X.stack sh H ⟨us, []⟩ us vs Q E0 hr e0 hB r h) fun rr s' hq => ?_)
  cases rr with
  | error er => exact False.elim hq
  | ok fl =>
    cases fl with
    | ret u => exact I.after hq
    | next => exact False.elim hq
    | brk => exact False.elim hq
    | cont => exact False.elim hq
/-- len(x) by an own __len__ -/
def rLenO (K : PySem.W.Frag) (C : Addr) (sp : Sp) : List V → Hp → VK → Prop := fun vs H k => ∃ a dx fs, vs = [.ref a] ∧ H a = some (.ins C dx fs) ∧ sp [.ref a] H (fun v H' => ∃ n : Int, v = .int n ∧ 0 ≤ n ∧ n < 2 ^ 63 ∧ k (.int n) H') E0
theorem call_lenO {sp : Sp} (hm : Meth X.K C "__len__" f) (F : FnOk X.prog X.w X.K X.mg X.base CX0 k f fd ps sp) (hr : Room (k + 1) X.A) (hb : Binds X.K fd ps []) : CallR X (.builtin "len") (rLenO X.K C sp) := by
  intro pins sh σ H vs us Q I r h
  obtain ⟨p, dx, fs, rfl, hp, hs⟩ := h
  obtain ⟨u, rfl, ru⟩ := vals1 r
  cases ru
  obtain ⟨mA, J, _⟩ := ins_get I.hok hp
  obtain ⟨od, J, _⟩ := J.look
  obtain ⟨m, hF⟩ := I.fr
  refine PySem.W.len_K hF I.ok.mod.kin J hm.at_ hm.fn ?_
  refine thn (run_in F hr.in1 rfl hb I (.cons (show RelV (.ref p) (Value.ref p) from rfl) .nil) hs) fun u s' hq => ?_
  obtain ⟨v, H', I', rv, n, rfl, h0, h1, q⟩ := hq
  obtain ⟨t, rfl⟩ := rv
  exact ⟨⟨h0, h1⟩, .int n, H', I'.tok _, ⟨_, rfl⟩, q⟩
/-- y in x by an own __contains__ -/
def rInO (C : Addr) (sp : Sp) : R2 := fun y x H k => ∃ a dx fs, x = .ref a ∧ H a = some (.ins C dx fs) ∧ sp [.ref a, y] H (fun v H' => ∃ b, v = .bl b ∧ k (.bl b) H') E0
theorem op_inO {sp : Sp} (hm : Meth X.K C "__contains__" f) (F : FnOk X.prog X.w X.K X.mg X.base CX0 k f fd ps sp) (hr : Room k X.A) (hb : Binds X.K fd ps []) : OpR X (compareOp .In) (rInO C sp) := by
  intro pins sh σ H y x v u Q I ry rx h
  obtain ⟨p, dx, fs, rfl, hp, hs⟩ := h
  cases rx
  obtain ⟨mA, J, _⟩ := ins_get I.hok hp
  obtain ⟨od, J, _⟩ := J.look
  obtain ⟨m, hF⟩ := I.fr
  refine PySem.W.in_K hF I.ok.mod.kin J hm.at_ hm.fn ?_
  refine thn (run_in F hr rfl hb I (.cons (show RelV (.ref p) (Value.ref p) from rfl) (.cons ry .nil)) hs) fun u s' hq => ?_
  obtain ⟨v, H', I', rv, b, rfl, q⟩ := hq
  cases rv
  exact wpAny_truthy_bool ⟨.bl b, H', I', rfl, q⟩
/-- x == y by an own __eq__, both of the class -/
def rEqO (C : Addr) (sp : Sp) : R2 := fun x y H k => ∃ a dx fs b dy gs, x = .ref a ∧ H a = some (.ins C dx fs) ∧ y = .ref b ∧ H b = some (.ins C dy gs) ∧ sp [.ref a, .ref b] H (fun v H' => ∃ r, v = .bl r ∧ k (.bl r) H') E0
theorem op_eqO {sp : Sp} (hm : Meth X.K C "__eq__" f) (F : FnOk X.prog X.w X.K X.mg X.base CX0 k f fd ps sp) (hr : Room k X.A) (hb : Binds X.K fd ps []) : OpR X (compareOp .Eq) (rEqO C sp) := by
  intro pins sh σ H x y v u Q I rx ry h
  obtain ⟨p, dx, fs, q, dy, gs, rfl, hp, rfl, hq, hs⟩ := h
  cases rx
  cases ry
  obtain ⟨mA, J, _⟩ := ins_get I.hok hp
  obtain ⟨mB, J', _⟩ := ins_get I.hok hq
  obtain ⟨od, J, _⟩ := J.look
  obtain ⟨od', J', _⟩ := J'.look
  obtain ⟨m, hF⟩ := I.fr
  show wpAny (model X.prog X.w) X.A (richCompare .Eq (.ref p) (.ref q)) (EP X pins σ Q) X.xe sh
  refine PySem.W.cmp_K (op := .Eq) (tb := .ref C) hr.units0 hF I.ok.mod.kin J J'.type (by simp [PySem.W.notFirst]) hm.at_ hm.fn ?_
  refine thn (run_in F hr rfl hb I (.cons (show RelV (.ref p) (Value.ref p) from rfl) (.cons (show RelV (.ref q) (Value.ref q) from rfl) .nil)) hs) fun u s' hq => ?_
  obtain ⟨v, H', I', rv, b, rfl, q⟩ := hq
  cases rv
  exact ⟨.bl b, H', I', rfl, q⟩

def dLenO (C : Addr) (s : DSp) (ta : DE) : DE := fun ρ Q => ta ρ fun x => ∃ ns xs, x = .ins C ns xs ∧ s [x] (fun y => ∃ n : Int, y = .int n ∧ 0 ≤ n ∧ n < 2 ^ 63 ∧ Q (.int n)) fun _ => False
theorem ed_lenO {p : Pos} (G : Met X.prog X.w X.K X.mg X.base CX0 k C "__len__" (spP X.K s)) (hr : Room j X.A) (hj : k + 1 ≤ j) (hg : Gl X "len") (hm : X.mg "len" = none) (ha : ED W X a ta)
    (he : starEach [a] X.env = (false, eval a X.env) :: starEach [] X.env := by rfl) (hpl : (backTo pos (starEach [] X.env)).any (·.1) = false := by rfl) : ED W X (.Call (.Name "len" p) [a] [] pos) (dLenO C s ta) := by
  obtain ⟨f, fd, ps, F, hM, hb⟩ := G.ex
  refine (pe_callB (call_lenO hM F (hr.mono hj) hb) hg hm PySem.boot_len (pa_cons ha pa_nil he) (by decide) (by decide) he hpl).weak fun σ H k h => ?_
  obtain ⟨ρ, Q, er, q, kk⟩ := h
  refine ⟨ρ, _, er, q, fun v H1 x s1 rx q1 => ?_⟩
  obtain ⟨ns, xs, rfl, q1⟩ := q1
  obtain ⟨p, dx, vs, rfl, hp, r, l⟩ := rx.ins_inv
  refine ⟨p, dx, _, rfl, hp, [.ins C ns xs], _, _, Reps.one rx, q1, fun w H' z e rz qz => ?_, fun _ _ _ _ z => z⟩
  obtain ⟨n, rfl, h0, h1, qz⟩ := qz
  exact ⟨n, rz.int_inv, h0, h1, kk _ H' _ (s1.trans (Stp.of e)) Rep.int' qz⟩
def dInO (C : Addr) (s : DSp) : DR := fun y x Q => ∃ ns xs, x = .ins C ns xs ∧ s [x, y] (fun r => ∃ b, r = .bl b ∧ Q (.bl b)) fun _ => False
theorem sim_inO {K : PySem.W.Frag} : SimR K (rInO C (spP K s)) (dInO C s) := fun H y x u v Q k ry rx h kk => by
  obtain ⟨ns, xs, rfl, q⟩ := h
  obtain ⟨p, dx, vs, rfl, hp, r, l⟩ := rx.ins_inv
  refine ⟨p, dx, _, rfl, hp, [.ins C ns xs, y], _, _, Reps.cons rx (Reps.one ry), q, fun w H' z e rz qz => ?_, fun _ _ _ _ z => z⟩
  obtain ⟨b, rfl, qz⟩ := qz
  exact ⟨b, rz.bl_inv, kk _ H' _ e Rep.bl' qz⟩
theorem ed_inO (G : Met X.prog X.w X.K X.mg X.base CX0 k C "__contains__" (spP X.K s)) (hr : Room j X.A) (hj : k ≤ j) (ha : ED W X a ta) (hb : ED W X b tb) (hmk : behindInMarks .In b = false := by rfl) : ED W X (.Compare a [.In] [b] pos) (dOp (dInO C s) ta tb) := by
  obtain ⟨f, fd, ps, F, hM, hbn⟩ := G.ex
  exact ed_cmp (op_inO hM F (hr.mono hj) hbn) sim_inO ha hb hmk
theorem td_inO (G : Met X.prog X.w X.K X.mg X.base CX0 k C "__contains__" (spP X.K s)) (hr : Room j X.A) (hj : k ≤ j) (ha : ED W X a ta) (hb : ED W X b tb) (hmk : behindInMarks .In b = false := by rfl) : TD W X (.Compare a [.In] [b] pos) (dTest (dOp (dInO C s) ta tb)) := by
  obtain ⟨f, fd, ps, F, hM, hbn⟩ := G.ex
  exact td_cmp (op_inO hM F (hr.mono hj) hbn) sim_inO ha hb hmk
def dEqO (C : Addr) (s : DSp) : DR := fun x y Q => ∃ ns xs, x = .ins C ns xs ∧ ∃ ms ys, y = .ins C ms ys ∧ s [x, y] (fun r => ∃ b, r = .bl b ∧ Q (.bl b)) fun _ => False
theorem sim_eqO {K : PySem.W.Frag} : SimR K (rEqO C (spP K s)) (dEqO C s) := fun H x y u v Q k rx ry h kk => by
  obtain ⟨ns, xs, rfl, ms, ys, rfl, q⟩ := h
  obtain ⟨p, dx, vs, rfl, hp, r, l⟩ := rx.ins_inv
  obtain ⟨p2, dy, ws, rfl, hp2, r2, l2⟩ := ry.ins_inv
  refine ⟨p, dx, _, p2, dy, _, rfl, hp, rfl, hp2, [.ins C ns xs, .ins C ms ys], _, _, Reps.cons rx (Reps.one ry), q, fun w H' z e rz qz => ?_, fun _ _ _ _ z => z⟩
  obtain ⟨b, rfl, qz⟩ := qz
  exact ⟨b, rz.bl_inv, kk _ H' _ e Rep.bl' qz⟩
theorem td_eqO (G : Met X.prog X.w X.K X.mg X.base CX0 k C "__eq__" (spP X.K s)) (hr : Room j X.A) (hj : k ≤ j) (ha : ED W X a ta) (hb : ED W X b tb) : TD W X (.Compare a [.Eq] [b] pos) (dTest (dOp (dEqO C s) ta tb)) := by
  obtain ⟨f, fd, ps, F, hM, hbn⟩ := G.ex
  exact td_cmp (op_eqO hM F (hr.mono hj) hbn) sim_eqO ha hb (nomark _)
/-- isinstance(x, C) of an instance of the own class C -/
structure IsiC (K : PySem.W.Frag) (C : Addr) : Prop where
  cl : Cls K C
  ha : PySem.W.findIn K (.ref C) "__class__" = some (some (.builtin "object.__class__"))
  hn : PySem.W.specialIn K (.builtin "object.__class__") "__get__" = some (some (.builtin "getset_descriptor.__get__"))
  ht : PySem.W.takesIn K (.builtin "object.__class__") = some true
  hm : PySem.W.mroIn K C (.type "object") = some true
  ki : PySem.W.kitOne K (.ref C) (.ref C) = some true
theorem ed_isC {x : Str} {p q : Pos} (T : IsiC X.K C) (hg : Gl X "isinstance") (hm : X.mg "isinstance" = none) (hg2 : Gl X x) (hm2 : X.mg x = some (.ref C)) (ha : ED W X a ta) (hdb : (x == ("__debug__" : Str)) = false := by decide)
    (he : starEach [a, .Name x q] X.env = (false, eval a X.env) :: starEach [.Name x q] X.env := by rfl) (he2 : starEach [.Name x q] X.env = (false, eval (.Name x q) X.env) :: starEach [] X.env := by rfl) (hpl : (backTo pos (starEach [.Name x q] X.env)).any (·.1) = false := by rfl) :
    ED W X (.Call (.Name "isinstance" p) [a, .Name x q] [] pos) (dUn (fun x Q => ∃ ns xs, x = .ins C ns xs ∧ Q (.bl true)) ta) := (pe_callB call_isi hg hm PyProof.Rows.boot_isinstance (pa_cons ha (pa_cons (pe_glob (v := .ref C) hg2 hm2 rfl hdb) pa_nil he2) he) (by decide) (by decide) he hpl).weak fun σ H k h => by
  obtain ⟨ρ, Q, er, q, kk⟩ := h
  refine ⟨ρ, _, er, q, fun v H1 x s1 rx q1 => ?_⟩
  obtain ⟨ns, xs, rfl, q1⟩ := q1
  obtain ⟨p, dx, vs, rfl, hp, r, l⟩ := rx.ins_inv
  exact ⟨_, _, _, _, true, rfl, .own C, .base (.ins hp T.cl T.ha T.hn T.ht T.hm), T.ki, kk _ H1 _ s1 Rep.bl' q1⟩
end
end DL
end

section
set_option Elab.async false
set_option linter.all false
set_option maxRecDepth 100000
set_option maxHeartbeats 4000000

namespace SA
open PySem PySem.Spec PyProof.Rows L2
def top (i : Nat) : Stmt := PySem.Challenge.pw_stillarms_k20_whole_heights_and_belts_fo.main.body.getD i (.Pass ⟨0, 0, 0, 0⟩)
abbrev s_wall : Stmt := top 1
abbrev s_BadPlace_init : Stmt := inClass (top 4) 0
abbrev s_BadArms_init : Stmt := inClass (top 5) 0
abbrev s_BadSpot_init : Stmt := inClass (top 6) 0
abbrev s_is_whole : Stmt := top 9
abbrev s_is_ratio : Stmt := top 10
abbrev s_lowest_terms : Stmt := top 11
abbrev s_plus : Stmt := top 12
abbrev s_minus : Stmt := top 13
abbrev s_times : Stmt := top 14
abbrev s_size_of : Stmt := top 15
abbrev s_compare : Stmt := top 16
abbrev s_sum_of : Stmt := top 17
abbrev s_greatest_of : Stmt := top 18
abbrev s_is_spot : Stmt := top 22
abbrev s_check_spot : Stmt := top 23
abbrev s_square_sum : Stmt := top 24
abbrev s_is_row : Stmt := top 29
abbrev s_take_row : Stmt := top 30
abbrev s_is_place_form : Stmt := top 31
abbrev s_check_place : Stmt := top 32
abbrev s_bad_bar : Stmt := top 33
abbrev s_check_bars : Stmt := top 34
abbrev s_Arms_init : Stmt := inClass (top 35) 0
abbrev s_Arms_len : Stmt := inClass (top 35) 1
abbrev s_Arms_eq : Stmt := inClass (top 35) 2
abbrev s_Arms_line_row : Stmt := inClass (top 35) 3
abbrev s_Arms_row_of : Stmt := inClass (top 35) 4
abbrev s_Arms_hinge_row : Stmt := inClass (top 35) 5
abbrev s_Arms_difference_row : Stmt := inClass (top 35) 6
abbrev s_Arms_with_bar : Stmt := inClass (top 35) 7
abbrev s_Arms_grown : Stmt := inClass (top 35) 8
abbrev s_Arms_renamed : Stmt := inClass (top 35) 9
abbrev s_Arms_shifted : Stmt := inClass (top 35) 10
abbrev s_spot_of : Stmt := top 37
abbrev s_Belt_init : Stmt := inClass (top 39) 0
abbrev s_Belt_eq : Stmt := inClass (top 39) 1
abbrev s_Belt_contains : Stmt := inClass (top 39) 2
abbrev s_far_ends : Stmt := top 40
abbrev s_lowest_flat : Stmt := top 41
abbrev s_highest_flat : Stmt := top 42
abbrev s_below_pose : Stmt := top 43
abbrev s_reach_of : Stmt := top 44
abbrev s_heights_of : Stmt := top 45
abbrev s_height_poses : Stmt := top 46
abbrev s_belt_of : Stmt := top 47
abbrev s_can_come_to : Stmt := top 48
abbrev s_law_hand : Stmt := top 50
abbrev s_law_take : Stmt := top 51
abbrev s_law_gcd : Stmt := top 52
abbrev s_law_ratio : Stmt := top 53
abbrev s_law_plus : Stmt := top 54
abbrev s_law_less : Stmt := top 55
abbrev s_law_times : Stmt := top 56
abbrev s_law_over : Stmt := top 57
abbrev s_law_below : Stmt := top 58
abbrev s_law_size : Stmt := top 59
abbrev s_law_sum : Stmt := top 60
abbrev s_law_is_ratio : Stmt := top 61
abbrev s_law_mark : Stmt := top 62
abbrev s_law_strength : Stmt := top 63
abbrev s_law_most : Stmt := top 64
abbrev s_law_row : Stmt := top 65
abbrev s_law_apart : Stmt := top 66
abbrev s_law_direction : Stmt := top 67
abbrev s_law_half : Stmt := top 68
abbrev s_law_wide : Stmt := top 69
abbrev s_law_above : Stmt := top 70
abbrev s_law_world : Stmt := top 71
abbrev s_law_any_place : Stmt := top 72
abbrev s_law_any_half : Stmt := top 73
abbrev s_law_any_pose : Stmt := top 74
abbrev s_law_stand : Stmt := top 75
abbrev s_law_square : Stmt := top 76
abbrev s_law_same : Stmt := top 77
abbrev s_law_same_row : Stmt := top 78
abbrev s_law_same_rows : Stmt := top 79
abbrev s_law_truth : Stmt := top 80
abbrev s_law_form : Stmt := top 81
abbrev s_law_is_pose : Stmt := top 82
abbrev s_law_is_spot : Stmt := top 83
abbrev s_law_odd : Stmt := top 84
abbrev s_law_spoilt_direction : Stmt := top 85
abbrev s_law_flat : Stmt := top 86
abbrev s_law_ends : Stmt := top 87
abbrev s_law_high : Stmt := top 88
abbrev s_law_above_other : Stmt := top 89
abbrev s_law_spots : Stmt := top 90
abbrev s_law_called : Stmt := top 91
abbrev s_law_belted : Stmt := top 92
abbrev s_law_closing : Stmt := top 93
abbrev s_law : Stmt := top 94
abbrev N_BadPlace_init : List Str := ["self"]
--theorem sc_BadPlace_init : FnScope N_BadPlace_init ["self"] (defScope s_BadPlace_init) := ⟨rfl, rfl, rfl, by decide +kernel, rfl, by decide +kernel, by decide +kernel⟩
abbrev N_BadSpot_init : List Str := ["self"]
--theorem sc_BadSpot_init : FnScope N_BadSpot_init ["self"] (defScope s_BadSpot_init) := ⟨rfl, rfl, rfl, by decide +kernel, rfl, by decide +kernel, by decide +kernel⟩
abbrev N_is_whole : List Str := ["thing", "low", "high"]
theorem sc_is_whole : FnScope N_is_whole ["thing", "low", "high"] (defScope s_is_whole) := ⟨rfl, rfl, rfl, by decide +kernel, rfl, by decide +kernel, by decide +kernel⟩
abbrev N_is_ratio : List Str := ["thing", "top", "bottom"]
theorem sc_is_ratio : FnScope N_is_ratio ["thing"] (defScope s_is_ratio) := ⟨rfl, rfl, rfl, by decide +kernel, rfl, by decide +kernel, by decide +kernel⟩
abbrev N_lowest_terms : List Str := ["top", "bottom", "shared"]
theorem sc_lowest_terms : FnScope N_lowest_terms ["top", "bottom"] (defScope s_lowest_terms) := ⟨rfl, rfl, rfl, by decide +kernel, rfl, by decide +kernel, by decide +kernel⟩
abbrev N_plus : List Str := ["one", "other"]
theorem sc_plus : FnScope N_plus ["one", "other"] (defScope s_plus) := ⟨rfl, rfl, rfl, by decide +kernel, rfl, by decide +kernel, by decide +kernel⟩
abbrev N_minus : List Str := ["one", "other"]
theorem sc_minus : FnScope N_minus ["one", "other"] (defScope s_minus) := ⟨rfl, rfl, rfl, by decide +kernel, rfl, by decide +kernel, by decide +kernel⟩
abbrev N_times : List Str := ["one", "other"]
theorem sc_times : FnScope N_times ["one", "other"] (defScope s_times) := ⟨rfl, rfl, rfl, by decide +kernel, rfl, by decide +kernel, by decide +kernel⟩
abbrev N_size_of : List Str := ["one"]
theorem sc_size_of : FnScope N_size_of ["one"] (defScope s_size_of) := ⟨rfl, rfl, rfl, by decide +kernel, rfl, by decide +kernel, by decide +kernel⟩
abbrev N_compare : List Str := ["one", "other", "rest"]
theorem sc_compare : FnScope N_compare ["one", "other"] (defScope s_compare) := ⟨rfl, rfl, rfl, by decide +kernel, rfl, by decide +kernel, by decide +kernel⟩
abbrev N_sum_of : List Str := ["row", "total", "entry"]
theorem sc_sum_of : FnScope N_sum_of ["row"] (defScope s_sum_of) := ⟨rfl, rfl, rfl, by decide +kernel, rfl, by decide +kernel, by decide +kernel⟩
abbrev N_greatest_of : List Str := ["row", "found", "entry"]
theorem sc_greatest_of : FnScope N_greatest_of ["row"] (defScope s_greatest_of) := ⟨rfl, rfl, rfl, by decide +kernel, rfl, by decide +kernel, by decide +kernel⟩
abbrev N_is_spot : List Str := ["thing"]
theorem sc_is_spot : FnScope N_is_spot ["thing"] (defScope s_is_spot) := ⟨rfl, rfl, rfl, by decide +kernel, rfl, by decide +kernel, by decide +kernel⟩
abbrev N_check_spot : List Str := ["spot"]
theorem sc_check_spot : FnScope N_check_spot ["spot"] (defScope s_check_spot) := ⟨rfl, rfl, rfl, by decide +kernel, rfl, by decide +kernel, by decide +kernel⟩
abbrev N_square_sum : List Str := ["spot", "x", "y"]
theorem sc_square_sum : FnScope N_square_sum ["spot"] (defScope s_square_sum) := ⟨rfl, rfl, rfl, by decide +kernel, rfl, by decide +kernel, by decide +kernel⟩
abbrev N_is_row : List Str := ["thing", "least", "most"]
theorem sc_is_row : FnScope N_is_row ["thing", "least", "most"] (defScope s_is_row) := ⟨rfl, rfl, rfl, by decide +kernel, rfl, by decide +kernel, by decide +kernel⟩
abbrev N_take_row : List Str := ["one", "other", "left", "right"]
theorem sc_take_row : FnScope N_take_row ["one", "other"] (defScope s_take_row) := ⟨rfl, rfl, rfl, by decide +kernel, rfl, by decide +kernel, by decide +kernel⟩
abbrev N_is_place_form : List Str := ["thing", "many"]
theorem sc_is_place_form : FnScope N_is_place_form ["thing", "many"] (defScope s_is_place_form) := ⟨rfl, rfl, rfl, by decide +kernel, rfl, by decide +kernel, by decide +kernel⟩
abbrev N_check_place : List Str := ["arms", "place"]
theorem sc_check_place : FnScope N_check_place ["arms", "place"] (defScope s_check_place) := ⟨rfl, rfl, rfl, by decide +kernel, rfl, by decide +kernel, by decide +kernel⟩
abbrev N_bad_bar : List Str := ["number", "bar"]
theorem sc_bad_bar : FnScope N_bad_bar ["number", "bar"] (defScope s_bad_bar) := ⟨rfl, rfl, rfl, by decide +kernel, rfl, by decide +kernel, by decide +kernel⟩
abbrev N_check_bars : List Str := ["bars", "number", "bar", "word", "found"]
theorem sc_check_bars : FnScope N_check_bars ["bars"] (defScope s_check_bars) := ⟨rfl, rfl, rfl, by decide +kernel, rfl, by decide +kernel, by decide +kernel⟩
abbrev N_Arms_init : List Str := ["self", "bars", "bar"]
theorem sc_Arms_init : FnScope N_Arms_init ["self", "bars"] (defScope s_Arms_init) := ⟨rfl, rfl, rfl, by decide +kernel, rfl, by decide +kernel, by decide +kernel⟩
abbrev N_Arms_len : List Str := ["self"]
theorem sc_Arms_len : FnScope N_Arms_len ["self"] (defScope s_Arms_len) := ⟨rfl, rfl, rfl, by decide +kernel, rfl, by decide +kernel, by decide +kernel⟩
abbrev N_Arms_line_row : List Str := ["self", "number", "mark", "found", "host", "place_mark", "letter"]
theorem sc_Arms_line_row : FnScope N_Arms_line_row ["self", "number", "mark"] (defScope s_Arms_line_row) := ⟨rfl, rfl, rfl, by decide +kernel, rfl, by decide +kernel, by decide +kernel⟩
abbrev N_Arms_row_of : List Str := ["self", "place", "number", "mark"]
theorem sc_Arms_row_of : FnScope N_Arms_row_of ["self", "place"] (defScope s_Arms_row_of) := ⟨rfl, rfl, rfl, by decide +kernel, rfl, by decide +kernel, by decide +kernel⟩
abbrev N_Arms_difference_row : List Str := ["self", "one", "other"]
theorem sc_Arms_difference_row : FnScope N_Arms_difference_row ["self", "one", "other"] (defScope s_Arms_difference_row) := ⟨rfl, rfl, rfl, by decide +kernel, rfl, by decide +kernel, by decide +kernel⟩
abbrev N_spot_of : List Str := ["directions", "row", "x", "y", "direction", "number"]
theorem sc_spot_of : FnScope N_spot_of ["directions", "row"] (defScope s_spot_of) := ⟨rfl, rfl, rfl, by decide +kernel, rfl, by decide +kernel, by decide +kernel⟩
abbrev N_Belt_init : List Str := ["self", "centre", "low", "high"]
theorem sc_Belt_init : FnScope N_Belt_init ["self", "centre", "low", "high"] (defScope s_Belt_init) := ⟨rfl, rfl, rfl, by decide +kernel, rfl, by decide +kernel, by decide +kernel⟩
abbrev N_Belt_eq : List Str := ["self", "other"]
theorem sc_Belt_eq : FnScope N_Belt_eq ["self", "other"] (defScope s_Belt_eq) := ⟨rfl, rfl, rfl, by decide +kernel, rfl, by decide +kernel, by decide +kernel⟩
abbrev N_Belt_contains : List Str := ["self", "spot", "square"]
theorem sc_Belt_contains : FnScope N_Belt_contains ["self", "spot"] (defScope s_Belt_contains) := ⟨rfl, rfl, rfl, by decide +kernel, rfl, by decide +kernel, by decide +kernel⟩
abbrev N_far_ends : List Str := ["row", "sizes", "high", "longest", "low", "number"]
theorem sc_far_ends : FnScope N_far_ends ["row"] (defScope s_far_ends) := ⟨rfl, rfl, rfl, by decide +kernel, rfl, by decide +kernel, by decide +kernel⟩
abbrev N_lowest_flat : List Str := ["row", "number"]
theorem sc_lowest_flat : FnScope N_lowest_flat ["row"] (defScope s_lowest_flat) := ⟨rfl, rfl, rfl, by decide +kernel, rfl, by decide +kernel, by decide +kernel⟩
abbrev N_highest_flat : List Str := ["row", "number"]
theorem sc_highest_flat : FnScope N_highest_flat ["row"] (defScope s_highest_flat) := ⟨rfl, rfl, rfl, by decide +kernel, rfl, by decide +kernel, by decide +kernel⟩
abbrev N_below_pose : List Str := ["arms", "one", "other", "row", "pose"]
theorem sc_below_pose : FnScope N_below_pose ["arms", "one", "other"] (defScope s_below_pose) := ⟨rfl, rfl, rfl, by decide +kernel, rfl, by decide +kernel, by decide +kernel⟩
abbrev N_reach_of : List Str := ["row", "number"]
theorem sc_reach_of : FnScope N_reach_of ["row"] (defScope s_reach_of) := ⟨rfl, rfl, rfl, by decide +kernel, rfl, by decide +kernel, by decide +kernel⟩
abbrev N_heights_of : List Str := ["arms", "place", "row", "span"]
theorem sc_heights_of : FnScope N_heights_of ["arms", "place"] (defScope s_heights_of) := ⟨rfl, rfl, rfl, by decide +kernel, rfl, by decide +kernel, by decide +kernel⟩
abbrev N_height_poses : List Str := ["arms", "place", "row"]
theorem sc_height_poses : FnScope N_height_poses ["arms", "place"] (defScope s_height_poses) := ⟨rfl, rfl, rfl, by decide +kernel, rfl, by decide +kernel, by decide +kernel⟩
abbrev N_belt_of : List Str := ["arms", "place", "row", "low", "high"]
theorem sc_belt_of : FnScope N_belt_of ["arms", "place"] (defScope s_belt_of) := ⟨rfl, rfl, rfl, by decide +kernel, rfl, by decide +kernel, by decide +kernel⟩
abbrev N_can_come_to : List Str := ["arms", "place", "spot", "belt"]
theorem sc_can_come_to : FnScope N_can_come_to ["arms", "place", "spot"] (defScope s_can_come_to) := ⟨rfl, rfl, rfl, by decide +kernel, rfl, by decide +kernel, by decide +kernel⟩
abbrev N_law_hand : List Str := ["_law_script", "_law_great", "_law_mixed", "_law_cell", "_law_size_here"]
theorem sc_law_hand : FnScope N_law_hand ["_law_script"] (defScope s_law_hand) := ⟨rfl, rfl, rfl, by decide +kernel, rfl, by decide +kernel, by decide +kernel⟩
abbrev N_law_take : List Str := ["_law_hand_here", "_law_many", "_law_cell", "_law_once", "_law_twice"]
theorem sc_law_take : FnScope N_law_take ["_law_hand_here", "_law_many"] (defScope s_law_take) := ⟨rfl, rfl, rfl, by decide +kernel, rfl, by decide +kernel, by decide +kernel⟩
abbrev N_law_gcd : List Str := ["_law_one", "_law_other"]
theorem sc_law_gcd : FnScope N_law_gcd ["_law_one", "_law_other"] (defScope s_law_gcd) := ⟨rfl, rfl, rfl, by decide +kernel, rfl, by decide +kernel, by decide +kernel⟩
abbrev N_law_ratio : List Str := ["_law_top", "_law_bottom", "_law_part"]
theorem sc_law_ratio : FnScope N_law_ratio ["_law_top", "_law_bottom"] (defScope s_law_ratio) := ⟨rfl, rfl, rfl, by decide +kernel, rfl, by decide +kernel, by decide +kernel⟩
abbrev N_law_plus : List Str := ["_law_one", "_law_other"]
theorem sc_law_plus : FnScope N_law_plus ["_law_one", "_law_other"] (defScope s_law_plus) := ⟨rfl, rfl, rfl, by decide +kernel, rfl, by decide +kernel, by decide +kernel⟩
abbrev N_law_less : List Str := ["_law_one", "_law_other"]
theorem sc_law_less : FnScope N_law_less ["_law_one", "_law_other"] (defScope s_law_less) := ⟨rfl, rfl, rfl, by decide +kernel, rfl, by decide +kernel, by decide +kernel⟩
abbrev N_law_times : List Str := ["_law_one", "_law_other"]
theorem sc_law_times : FnScope N_law_times ["_law_one", "_law_other"] (defScope s_law_times) := ⟨rfl, rfl, rfl, by decide +kernel, rfl, by decide +kernel, by decide +kernel⟩
abbrev N_law_over : List Str := ["_law_one", "_law_other"]
theorem sc_law_over : FnScope N_law_over ["_law_one", "_law_other"] (defScope s_law_over) := ⟨rfl, rfl, rfl, by decide +kernel, rfl, by decide +kernel, by decide +kernel⟩
abbrev N_law_below : List Str := ["_law_one", "_law_other"]
theorem sc_law_below : FnScope N_law_below ["_law_one", "_law_other"] (defScope s_law_below) := ⟨rfl, rfl, rfl, by decide +kernel, rfl, by decide +kernel, by decide +kernel⟩
abbrev N_law_size : List Str := ["_law_one"]
theorem sc_law_size : FnScope N_law_size ["_law_one"] (defScope s_law_size) := ⟨rfl, rfl, rfl, by decide +kernel, rfl, by decide +kernel, by decide +kernel⟩
abbrev N_law_sum : List Str := ["_law_rows", "_law_total", "_law_entry"]
theorem sc_law_sum : FnScope N_law_sum ["_law_rows"] (defScope s_law_sum) := ⟨rfl, rfl, rfl, by decide +kernel, rfl, by decide +kernel, by decide +kernel⟩
abbrev N_law_is_ratio : List Str := ["_law_thing", "_law_part"]
theorem sc_law_is_ratio : FnScope N_law_is_ratio ["_law_thing"] (defScope s_law_is_ratio) := ⟨rfl, rfl, rfl, by decide +kernel, rfl, by decide +kernel, by decide +kernel⟩
abbrev N_law_mark : List Str := ["_law_hand_here"]
theorem sc_law_mark : FnScope N_law_mark ["_law_hand_here"] (defScope s_law_mark) := ⟨rfl, rfl, rfl, by decide +kernel, rfl, by decide +kernel, by decide +kernel⟩
abbrev N_law_strength : List Str := ["_law_hand_here"]
theorem sc_law_strength : FnScope N_law_strength ["_law_hand_here"] (defScope s_law_strength) := ⟨rfl, rfl, rfl, by decide +kernel, rfl, by decide +kernel, by decide +kernel⟩
abbrev N_law_most : List Str := ["_law_bars", "_law_bar"]
theorem sc_law_most : FnScope N_law_most ["_law_bars"] (defScope s_law_most) := ⟨rfl, rfl, rfl, by decide +kernel, rfl, by decide +kernel, by decide +kernel⟩
abbrev N_law_row : List Str := ["_law_bars", "_law_place", "_law_row_here", "_law_number", "_law_mark_here", "_law_turn", "_law_letter", "_law_k"]
theorem sc_law_row : FnScope N_law_row ["_law_bars", "_law_place"] (defScope s_law_row) := ⟨rfl, rfl, rfl, by decide +kernel, rfl, by decide +kernel, by decide +kernel⟩
abbrev N_law_apart : List Str := ["_law_bars", "_law_one", "_law_other", "_law_left", "_law_right", "_law_k"]
theorem sc_law_apart : FnScope N_law_apart ["_law_bars", "_law_one", "_law_other"] (defScope s_law_apart) := ⟨rfl, rfl, rfl, by decide +kernel, rfl, by decide +kernel, by decide +kernel⟩
abbrev N_law_direction : List Str := ["_law_half_here", "_law_square_here", "_law_bottom"]
theorem sc_law_direction : FnScope N_law_direction ["_law_half_here"] (defScope s_law_direction) := ⟨rfl, rfl, rfl, by decide +kernel, rfl, by decide +kernel, by decide +kernel⟩
abbrev N_law_half : List Str := ["_law_hand_here", "_law_turn"]
theorem sc_law_half : FnScope N_law_half ["_law_hand_here"] (defScope s_law_half) := ⟨rfl, rfl, rfl, by decide +kernel, rfl, by decide +kernel, by decide +kernel⟩
abbrev N_law_wide : List Str := ["_law_hand_here", "_law_way"]
theorem sc_law_wide : FnScope N_law_wide ["_law_hand_here"] (defScope s_law_wide) := ⟨rfl, rfl, rfl, by decide +kernel, rfl, by decide +kernel, by decide +kernel⟩
abbrev N_law_above : List Str := ["_law_hand_here"]
theorem sc_law_above : FnScope N_law_above ["_law_hand_here"] (defScope s_law_above) := ⟨rfl, rfl, rfl, by decide +kernel, rfl, by decide +kernel, by decide +kernel⟩
abbrev N_law_world : List Str := ["_law_hand_here", "_law_many", "_law_n", "_law_k", "_law_row_here", "_law_other", "_law_bars", "_law_host"]
theorem sc_law_world : FnScope N_law_world ["_law_hand_here"] (defScope s_law_world) := ⟨rfl, rfl, rfl, by decide +kernel, rfl, by decide +kernel, by decide +kernel⟩
abbrev N_law_any_place : List Str := ["_law_hand_here", "_law_bars", "_law_number"]
theorem sc_law_any_place : FnScope N_law_any_place ["_law_hand_here", "_law_bars"] (defScope s_law_any_place) := ⟨rfl, rfl, rfl, by decide +kernel, rfl, by decide +kernel, by decide +kernel⟩
abbrev N_law_any_half : List Str := ["_law_hand_here"]
theorem sc_law_any_half : FnScope N_law_any_half ["_law_hand_here"] (defScope s_law_any_half) := ⟨rfl, rfl, rfl, by decide +kernel, rfl, by decide +kernel, by decide +kernel⟩
abbrev N_law_any_pose : List Str := ["_law_hand_here", "_law_n", "_law_k"]
theorem sc_law_any_pose : FnScope N_law_any_pose ["_law_hand_here", "_law_n"] (defScope s_law_any_pose) := ⟨rfl, rfl, rfl, by decide +kernel, rfl, by decide +kernel, by decide +kernel⟩
abbrev N_law_stand : List Str := ["_law_bars", "_law_pose", "_law_place", "_law_number", "_law_mark_here", "_law_x", "_law_y", "_law_turn", "_law_letter", "_law_direction_here"]
theorem sc_law_stand : FnScope N_law_stand ["_law_bars", "_law_pose", "_law_place"] (defScope s_law_stand) := ⟨rfl, rfl, rfl, by decide +kernel, rfl, by decide +kernel, by decide +kernel⟩
abbrev N_law_square : List Str := ["_law_spot"]
theorem sc_law_square : FnScope N_law_square ["_law_spot"] (defScope s_law_square) := ⟨rfl, rfl, rfl, by decide +kernel, rfl, by decide +kernel, by decide +kernel⟩
abbrev N_law_same : List Str := ["_law_told", "_law_due", "_law_number"]
theorem sc_law_same : FnScope N_law_same ["_law_told", "_law_due"] (defScope s_law_same) := ⟨rfl, rfl, rfl, by decide +kernel, rfl, by decide +kernel, by decide +kernel⟩
abbrev N_law_same_row : List Str := ["_law_told", "_law_due", "_law_k"]
theorem sc_law_same_row : FnScope N_law_same_row ["_law_told", "_law_due"] (defScope s_law_same_row) := ⟨rfl, rfl, rfl, by decide +kernel, rfl, by decide +kernel, by decide +kernel⟩
abbrev N_law_same_rows : List Str := ["_law_told", "_law_due", "_law_k"]
theorem sc_law_same_rows : FnScope N_law_same_rows ["_law_told", "_law_due"] (defScope s_law_same_rows) := ⟨rfl, rfl, rfl, by decide +kernel, rfl, by decide +kernel, by decide +kernel⟩
abbrev N_law_truth : List Str := ["_law_told", "_law_due"]
theorem sc_law_truth : FnScope N_law_truth ["_law_told", "_law_due"] (defScope s_law_truth) := ⟨rfl, rfl, rfl, by decide +kernel, rfl, by decide +kernel, by decide +kernel⟩
abbrev N_law_form : List Str := ["_law_hand_here", "_law_row_here"]
theorem sc_law_form : FnScope N_law_form ["_law_hand_here", "_law_row_here"] (defScope s_law_form) := ⟨rfl, rfl, rfl, by decide +kernel, rfl, by decide +kernel, by decide +kernel⟩
abbrev N_law_is_pose : List Str := ["_law_told", "_law_n", "_law_direction_here"]
theorem sc_law_is_pose : FnScope N_law_is_pose ["_law_told", "_law_n"] (defScope s_law_is_pose) := ⟨rfl, rfl, rfl, by decide +kernel, rfl, by decide +kernel, by decide +kernel⟩
abbrev N_law_is_spot : List Str := ["_law_thing"]
theorem sc_law_is_spot : FnScope N_law_is_spot ["_law_thing"] (defScope s_law_is_spot) := ⟨rfl, rfl, rfl, by decide +kernel, rfl, by decide +kernel, by decide +kernel⟩
abbrev N_law_odd : List Str := ["_law_hand_here", "_law_odds"]
theorem sc_law_odd : FnScope N_law_odd ["_law_hand_here"] (defScope s_law_odd) := ⟨rfl, rfl, rfl, by decide +kernel, rfl, by decide +kernel, by decide +kernel⟩
abbrev N_law_spoilt_direction : List Str := ["_law_hand_here", "_law_x", "_law_y", "_law_way"]
theorem sc_law_spoilt_direction : FnScope N_law_spoilt_direction ["_law_hand_here"] (defScope s_law_spoilt_direction) := ⟨rfl, rfl, rfl, by decide +kernel, rfl, by decide +kernel, by decide +kernel⟩
abbrev N_law_flat : List Str := ["_law_signs", "_law_sign"]
theorem sc_law_flat : FnScope N_law_flat ["_law_signs"] (defScope s_law_flat) := ⟨rfl, rfl, rfl, by decide +kernel, rfl, by decide +kernel, by decide +kernel⟩
abbrev N_law_ends : List Str := ["_law_row_here", "_law_number", "_law_sizes", "_law_high_here", "_law_low", "_law_left"]
theorem sc_law_ends : FnScope N_law_ends ["_law_row_here"] (defScope s_law_ends) := ⟨rfl, rfl, rfl, by decide +kernel, rfl, by decide +kernel, by decide +kernel⟩
abbrev N_law_high : List Str := ["_law_hand_here", "_law_bars", "_law_arms", "_law_place", "_law_row_here", "_law_high_here", "_law_due", "_law_rising", "_law_falling", "_law_number", "_law_told"]
theorem sc_law_high : FnScope N_law_high ["_law_hand_here", "_law_bars", "_law_arms", "_law_place"] (defScope s_law_high) := ⟨rfl, rfl, rfl, by decide +kernel, rfl, by decide +kernel, by decide +kernel⟩
abbrev N_law_above_other : List Str := ["_law_hand_here", "_law_bars", "_law_arms", "_law_one", "_law_other", "_law_row_here", "_law_told"]
theorem sc_law_above_other : FnScope N_law_above_other ["_law_hand_here", "_law_bars", "_law_arms", "_law_one", "_law_other"] (defScope s_law_above_other) := ⟨rfl, rfl, rfl, by decide +kernel, rfl, by decide +kernel, by decide +kernel⟩
abbrev N_law_spots : List Str := ["_law_hand_here", "_law_bars", "_law_place", "_law_row_here", "_law_low", "_law_high_here", "_law_found", "_law_turn", "_law_small", "_law_length", "_law_due", "_law_x", "_law_y", "_law_spot", "_law_square_here"]
theorem sc_law_spots : FnScope N_law_spots ["_law_hand_here", "_law_bars", "_law_place"] (defScope s_law_spots) := ⟨rfl, rfl, rfl, by decide +kernel, rfl, by decide +kernel, by decide +kernel⟩
abbrev N_law_called : List Str := ["_law_act", "_law_arms", "_law_place", "_law_spot", "_law_found"]
theorem sc_law_called : FnScope N_law_called ["_law_act", "_law_arms", "_law_place", "_law_spot"] (defScope s_law_called) := ⟨rfl, rfl, rfl, by decide +kernel, rfl, by decide +kernel, by decide +kernel⟩
abbrev N_law_belted : List Str := ["_law_hand_here", "_law_bars", "_law_arms", "_law_place", "_law_row_here", "_law_low", "_law_high_here", "_law_belt", "_law_spot", "_law_due", "_law_thing", "_law_wrong", "_law_act"]
theorem sc_law_belted : FnScope N_law_belted ["_law_hand_here", "_law_bars", "_law_arms", "_law_place"] (defScope s_law_belted) := ⟨rfl, rfl, rfl, by decide +kernel, rfl, by decide +kernel, by decide +kernel⟩
abbrev N_law_closing : List Str := ["_law_hand_here", "_law_n", "_law_row_here", "_law_k"]
theorem sc_law_closing : FnScope N_law_closing ["_law_hand_here"] (defScope s_law_closing) := ⟨rfl, rfl, rfl, by decide +kernel, rfl, by decide +kernel, by decide +kernel⟩
abbrev N_law : List Str := ["_law_script", "_law_hand_here", "_law_turn", "_law_bars", "_law_place", "_law_arms", "_law_other", "_law_foot", "_law_near"]
theorem sc_law : FnScope N_law ["_law_script"] (defScope s_law) := ⟨rfl, rfl, rfl, by decide +kernel, rfl, by decide +kernel, by decide +kernel⟩
end SA
end

section
set_option Elab.async false
set_option linter.all false
set_option maxRecDepth 100000
set_option maxHeartbeats 4000000

namespace DL
open PySem PySem.Spec PyProof.Rows L2
section
variable {W : Wd} {X : Cx} {e a b c o : Expr} {es : List Expr} {pos p apos : Pos} {ta tb tc te : DE} {t : DA} {tt : DT} {k j : Nat} {x m : Str} {s : DSp} {C : Addr} {EX : Addr → Prop}
/-- a constant of the module -/
structure Glv (K : PySem.W.Frag) (mg : Str → Option Value) (x : Str) (y : D) : Prop where
  ex : ∃ v u, mg x = some u ∧ RelV v u ∧ ∀ H, Rep K H y v
theorem eg {y : D} (G : Glv X.K X.mg x y) (hg : Gl X x) (hd : (x == ("__debug__" : Str)) = false := by decide) : ED W X (.Name x pos) (dC y) := by
  obtain ⟨v, u, hm, r, ry⟩ := G.ex
  exact ed_glob hg hm r ry hd
/-- t + u of tuples, t not empty -/
def dCat : DR := fun x y Q => ∃ xs, x = .tup xs ∧ ∃ ys, y = .tup ys ∧ xs ≠ [] ∧ Nat.ble (xs.length + ys.length) 1000 = true ∧ Q (.tup (xs ++ ys))
theorem sim_cat {K : PySem.W.Frag} : SimR K (rCatT K) dCat := fun H x y u v Q k rx ry h kk => by
  obtain ⟨xs, rfl, ys, rfl, hn, hl, q⟩ := h
  obtain ⟨p, vs, rfl, s1, r1⟩ := rx.tup_inv
  obtain ⟨p2, ws, rfl, s2, r2⟩ := ry.tup_inv
  have hl' := Nat.le_of_ble_eq_true hl
  refine ⟨p, p2, vs, ws, rfl, rfl, s1, s2, fun z => hn ?_, le1000 (by rw [r1.len, r2.len]; exact hl'), fun z => ?_, fun _ q' hq => ?_⟩
  · subst z
    exact List.length_eq_zero_iff.mp r1.len.symm
  · subst z
    have : ys = [] := by
      exact List.length_eq_zero_iff.mp r2.len.symm
    subst this
    rw [List.append_nil] at q
    exact kk _ H _ (fun _ _ h => h) rx q
  · exact kk _ _ _ (Ext.new hq) (Rep.tup' (SqT.of upd_same) ((r1.mono (Ext.new hq).keep).append (r2.mono (Ext.new hq).keep))) q
theorem ed_cat (ha : ED W X a ta) (hb : ED W X b tb) : ED W X (.BinOp a .Add b pos) (dOp dCat ta tb) := ed_op op_catT sim_cat ha hb
/-- while n: -/
def dTru (ta : DE) : DT := fun ρ Q => ta ρ fun x => ∃ i : Int, x = .int i ∧ Q (i != 0)
theorem td_tru (ha : ED W X a ta) (he : ∀ whole, isTrue a X.env whole = (do let v ← whole; standAt a.pos; holding [v] (truthy v)) := by intro _; rfl) : TD W X a (dTru ta) := (pt_truth ha he).weak fun σ H k h => by
  obtain ⟨ρ, Q, er, q, kk⟩ := h
  refine ⟨ρ, _, er, q, fun v H1 x s1 r q1 => ?_⟩
  obtain ⟨i, rfl, q1⟩ := q1
  rw [r.int_inv]
  exact ⟨_, rfl, kk _ H1 s1 q1⟩
/-- a call that lacks the last arguments -/
structure CalD (P : Program) (w : World) (K : PySem.W.Frag) (mg : Str → Option Value) (base : Heap) (k : Nat) (x : Str) (sp : Sp) (dvs : List V) : Prop where
  ex : ∃ f fd ps dus, FnOk P w K mg base CX0 k f fd ps sp ∧ mg x = some (.ref f) ∧ PySem.W.keepIn K (.ref f) = true ∧ Binds K fd ps dus ∧ Vals dvs dus
theorem ecD {dvs : List V} {dxs : List D} (G : CalD X.prog X.w X.K X.mg X.base k x (spP X.K s) dvs) (hr : Room j X.A) (hj : k ≤ j) (hg : Gl X x) (hd : ∀ H, Reps X.K H dxs dvs) (ha : AD W X (e :: es) t)
    (hdb : (x == ("__debug__" : Str)) = false := by decide) (he : starEach (e :: es) X.env = (false, eval e X.env) :: starEach es X.env := by rfl) (hpl : (backTo pos (starEach es X.env)).any (·.1) = false := by rfl) :
    ED W X (.Call (.Name x p) (e :: es) [] pos) (dCallD s dxs t) := by
  obtain ⟨f, fd, ps, dus, F, hm, hk, hb, hv⟩ := G.ex
  exact ed_callD F (hr.mono hj) hg hm hk hb hv hd ha hdb he hpl
theorem non1 {K : PySem.W.Frag} : ∀ H, Reps K H [.non] [.non] := fun _ => Reps.one Rep.non'
theorem non2 {K : PySem.W.Frag} : ∀ H, Reps K H [.non, .non] [.non, .non] := fun _ => Reps.cons Rep.non' (Reps.one Rep.non')
/-- nothing raised: from a def that may raise -/
theorem passNo : Passes (L2.CX X.prog X.w) X (XKof W fun _ => False) := fun _ _ _ _ _ _ _ h => by
  obtain ⟨_, _, _, _, _, _, _, _, _, _, _, _, _, _, z, _⟩ := h
  exact z.elim
theorem passX {Y : Addr → Prop} {H0 : Hp} (tk : Takes X (fun u _ _ H' => ∃ c, u = .ref c ∧ Y c ∧ Ext H0 H')) (e : W = ⟨none, H0⟩) : Passes (L2.CX X.prog X.w) X (XKof W Y) :=
  passes_call tk fun cls d σ H h => by
    subst e
    exact h
theorem blk_of {N : List Str} {sc scope : Scope} {own : List (Str × Nat)} (h1 : scope.kind = .function := by rfl) (h2 : ∀ y ∈ scope.names, scope.names.lookup y.1 = some y.2 := by decide +kernel) (h3 : ∀ p ∈ own, N[p.2]? = some p.1 := by decide +kernel)
    (h4 : ∀ y ∈ scope.names, y.2 = .free → sc.names.lookup y.1 = some .cell ∨ sc.names.lookup y.1 = some .free := by decide +kernel) (h5 : ∀ y ∈ scope.names, y.2 = .local ∨ y.2 = .cell → y.1 ∈ own.map (·.1) ∨ y.1 ∉ N := by decide +kernel) : BlkOk N sc scope own := ⟨h1, h2, h3, h4, h5⟩
end
end DL
end

section
set_option Elab.async false
set_option linter.all false
set_option maxRecDepth 100000
set_option maxHeartbeats 4000000

namespace SA
open PySem PySem.Spec PyProof.Rows L2 DL RM
abbrev C_Arms : Addr := 347
abbrev C_Belt : Addr := 389
abbrev C_BadPlace : Addr := 81
abbrev C_BadSpot : Addr := 123
structure Glob (mg : Str → Option Value) : Prop where
  gcd : mg "gcd" = some (.builtin "math.gcd")
  n_abs : mg "abs" = none
  n_int : mg "int" = none
  n_bool : mg "bool" = none
  n_min : mg "min" = none
  n_max : mg "max" = none
  n_len : mg "len" = none
  n_list : mg "list" = none
  n_tuple : mg "tuple" = none
  n_range : mg "range" = none
  n_zip : mg "zip" = none
  n_enumerate : mg "enumerate" = none
  n_sorted : mg "sorted" = none
  n_isinstance : mg "isinstance" = none
def vecD (x y : Rat) : D := .tup [ratD x, ratD y]
abbrev upD : D := vecD 0 1
abbrev downD : D := vecD 0 (-1)
theorem ifT {p A B : Prop} [Decidable p] (h : p) (k : A) : if decide p = true then A else B := by
  rw [decide_eq_true h]
  exact iteT k
theorem ifF {p A B : Prop} [Decidable p] (h : ¬p) (k : B) : if decide p = true then A else B := by
  rw [decide_eq_false h]
  exact iteF k
theorem ifB {p A B : Prop} [Decidable p] (h1 : p → A) (h2 : ¬p → B) : if decide p = true then A else B := by
  by_cases h : p
  · exact ifT h (h1 h)
  · exact ifF h (h2 h)
theorem ifb {b : Bool} {A B : Prop} (h1 : b = true → A) (h2 : b = false → B) : if b = true then A else B := by
  cases b with
  | true => exact iteT (h1 rfl)
  | false => exact iteF (h2 rfl)
theorem ifQ {b c : Bool} {A B : Prop} (h : b = c) (k : if c = true then A else B) : if b = true then A else B := by
  rw [h]
  exact k
theorem ifnT {p A B : Prop} [Decidable p] (h : p) (k : B) : if (!decide p) = true then A else B := by
  rw [decide_eq_true h]
  exact iteF k
theorem ifnF {p A B : Prop} [Decidable p] (h : ¬p) (k : A) : if (!decide p) = true then A else B := by
  rw [decide_eq_false h]
  exact iteT k
theorem wmul {i j : Int} {a b : Nat} (ha : i.natAbs < 2 ^ a) (hb : j.natAbs < 2 ^ b) (h : 0 < a ∧ 0 < b ∧ a + b ≤ 1000000 := by decide) : CMulW i j := wide_mul ha hb h.1 h.2.1 h.2.2
theorem forL_ind {g : DG} {tb : DS} {E : DEnds} (M : List D → DL.Env → Prop) (h0 : ∀ ρ, M [] ρ → E.nx ρ)
    (hs : ∀ x xs ρ, (∀ ρ', M xs ρ' → forL g tb E xs ρ') → M (x :: xs) ρ → g x ρ fun ρ' => tb { E with nx := forL g tb E xs, ct := forL g tb E xs, bk := E.nx } ρ') : ∀ xs ρ, M xs ρ → forL g tb E xs ρ
  | [], ρ, m => h0 ρ m
  | x :: xs, ρ, m => hs x xs ρ (forL_ind M h0 hs xs) m
theorem compL_map {ok : D → Prop} {f : D → DL.Env} {te : DE} {Q : List D → Prop} {α : Type} (G F : α → D) : ∀ (l : List α) (acc : List D), l.length + acc.length ≤ 1000 → (∀ a, a ∈ l → ok (G a) ∧ ∀ k : D → Prop, k (F a) → te (f (G a)) k) → Q (acc ++ l.map F) → compL ok f dYes te (l.map G) acc Q
  | [], acc, _, _, q => by
    rw [List.map_nil, List.append_nil] at q
    exact q
  | a :: l, acc, hl, hs, q => by
    rw [List.length_cons] at hl
    refine ⟨(hs a (List.mem_cons_self ..)).1, ?_⟩
    refine @iteT _ (compL ok f dYes te (l.map G) acc Q) ((hs a (List.mem_cons_self ..)).2 _ ⟨by omega, ?_⟩)
    refine compL_map G F l _ (by rw [List.length_append, List.length_singleton]; omega) (fun b hb => hs b (List.mem_cons_of_mem _ hb)) ?_
    rw [List.append_assoc]
    exact q
/-- .. what each item becomes is not told, only that it is one of R -/
theorem compL_some {ok : D → Prop} {f : D → DL.Env} {te : DE} {Q : List D → Prop} {α β : Type} (G : α → D) (F : β → D) (R : α → β → Prop) : ∀ (l : List α) (acc : List D), l.length + acc.length ≤ 1000 →
    (∀ a, a ∈ l → ok (G a) ∧ ∀ k : D → Prop, (∀ b, R a b → k (F b)) → te (f (G a)) k) → (∀ m : List β, m.length = l.length → (∀ (i : Nat) (a : α) (b : β), l[i]? = some a → m[i]? = some b → R a b) → Q (acc ++ m.map F)) → compL ok f dYes te (l.map G) acc Q
  | [], acc, _, _, q => by
    have := q [] rfl (fun i a b h => by simp at h)
    rw [List.map_nil, List.append_nil] at this
    exact this
  | a :: l, acc, hl, hs, q => by
    rw [List.length_cons] at hl
    refine ⟨(hs a (List.mem_cons_self ..)).1, ?_⟩
    refine @iteT _ (compL ok f dYes te (l.map G) acc Q) ((hs a (List.mem_cons_self ..)).2 _ fun b hb => ⟨by omega, ?_⟩)
    refine compL_some G F R l _ (by rw [List.length_append, List.length_singleton]; omega) (fun b hb => hs b (List.mem_cons_of_mem _ hb)) fun m hm hR => ?_
    have := q (b :: m) (by rw [List.length_cons, hm, List.length_cons]) fun i a' b' ha hb' => by
      cases i with
      | zero =>
        cases ha
        cases hb'
        exact hb
      | succ i => exact hR i a' b' ha hb'
    rw [List.append_assoc]
    exact this
theorem atI_of {α : Type} {xs : List α} {i : Int} {n : Nat} (h : i = n) : atI xs i = xs[n]? := by
  subst h
  unfold atI ixN
  rw [if_pos (Int.natCast_nonneg n)]
  by_cases h : n < xs.length
  · rw [if_pos (by omega)]
    rfl
  · rw [if_neg (by omega), List.getElem?_eq_none (by omega)]
    rfl
theorem ixN_of {m : Nat} {i : Int} {n : Nat} (h : i = n) (hl : n < m) : ixN m i = some n := by
  subst h
  unfold ixN
  rw [if_pos (Int.natCast_nonneg n), if_pos (by omega)]
  rfl
theorem intsFrom_eq (lo : Int) (n : Nat) : intsFrom lo n = (List.range n).map fun i : Nat => .int (lo + (i : Nat)) := rfl
end SA
end

section
set_option Elab.async false
set_option linter.all false
set_option maxRecDepth 100000
set_option maxHeartbeats 4000000

namespace SA
open PySem PySem.Spec PyProof.Rows L2 DL RM
def p1 : D → Bool
  | .ins _ _ _ => false
  | _ => true
def p2 : D → Bool
  | .ins _ _ _ => false
  | .tup xs => xs.all p1
  | .lst xs => xs.all p1
  | _ => true
def p3 : D → Bool
  | .ins _ _ _ => false
  | .tup xs => xs.all p2
  | .lst xs => xs.all p2
  | _ => true
theorem p1_of2 : ∀ {x : D}, p2 x = true → p1 x = true
  | .ins _ _ _, h => h
  | .tup _, _ => rfl
  | .lst _, _ => rfl
  | .non, _ => rfl
  | .bl _, _ => rfl
  | .int _, _ => rfl
  | .str _, _ => rfl
theorem p2_of3 : ∀ {x : D}, p3 x = true → p2 x = true
  | .ins _ _ _, h => h
  | .tup xs, h => by
    show xs.all p1 = true
    rw [List.all_eq_true] at *
    exact fun y hy => p1_of2 (List.all_eq_true.mp h y hy)
  | .lst xs, h => by
    show xs.all p1 = true
    rw [List.all_eq_true] at *
    exact fun y hy => p1_of2 (List.all_eq_true.mp h y hy)
  | .non, _ => rfl
  | .bl _, _ => rfl
  | .int _, _ => rfl
  | .str _, _ => rfl
def optD : Option Int → D
  | none => .non
  | some i => .int i
def wholeQ : D → Option Int → Option Int → Bool
  | .int i, lo, hi => lo.all (fun l => decide (l ≤ i)) && hi.all (fun h => decide (i ≤ h))
  | _, _, _ => false
def ratioQ : D → Bool
  | .tup [.int a, .int b] => decide (1 ≤ b) && decide (Nat.gcd a.natAbs b.natAbs = 1)
  | _ => false
def spotQ (x : D) : Bool :=
  match itemsD x with
  | some [a, b] => ratioQ a && ratioQ b
  | _ => false
theorem ratioQ_rat (r : Rat) : ratioQ (ratD r) = true := by
  show (decide ((1 : Int) ≤ ((r.den : Nat) : Int)) && decide (Nat.gcd r.num.natAbs ((r.den : Nat) : Int).natAbs = 1)) = true
  have h1 : (1 : Int) ≤ (r.den : Int) := by have := r.den_pos; omega
  have h2 : Nat.gcd r.num.natAbs ((r.den : Nat) : Int).natAbs = 1 := by rw [Int.natAbs_natCast]; exact r.reduced
  rw [decide_eq_true h1, decide_eq_true h2]; rfl
theorem ratioQ_inv {x : D} (h : ratioQ x = true) : ∃ r : Rat, x = ratD r := by
  unfold ratioQ at h
  split at h
  · rename_i a b
    rw [Bool.and_eq_true, decide_eq_true_eq, decide_eq_true_eq] at h
    refine ⟨Rat.divInt a b, ?_⟩
    obtain ⟨e1, e2⟩ := divInt_parts (a := a) (b := b) (by omega)
    unfold ratD
    rw [e1, e2, h.2]
    simp
  · cases h
def rcmp (a b : Rat) : Int := if a < b then -1 else if b < a then 1 else 0
theorem cmp_sign (a b : Rat) : (a.num * b.den - b.num * a.den < 0 ↔ a < b) ∧ (a.num * b.den - b.num * a.den > 0 ↔ b < a) := by
  rw [Rat.lt_iff, Rat.lt_iff]
  omega
theorem sum_B {k : Nat} : ∀ {l : List Rat}, (∀ r, r ∈ l → B k r) → B ((k + 1) * l.length + 1) l.sum
  | [], _ => by
    rw [List.sum_nil]
    exact B.zero.mono (by omega)
  | x :: l, h => by
    rw [List.sum_cons, List.length_cons]
    exact ((h x (List.mem_cons_self ..)).add (sum_B fun r hr => h r (List.mem_cons_of_mem _ hr))).mono (by rw [Nat.mul_succ]; omega)
def S_is_whole : DSp := fun ds Q _ => ∃ x lo hi, ds = [x, optD lo, optD hi] ∧ p1 x = true ∧ Q (.bl (wholeQ x lo hi))
def S_is_ratio : DSp := fun ds Q _ => ∃ x, ds = [x] ∧ p2 x = true ∧ Q (.bl (ratioQ x))
def S_lowest_terms : DSp := fun ds Q _ => ∃ a b : Int, ds = [.int a, .int b] ∧ 0 < b ∧ b.natAbs < 2 ^ 9000 ∧ Q (ratD (Rat.divInt a b))
def S_plus : DSp := fun ds Q _ => ∃ a b : Rat, ds = [ratD a, ratD b] ∧ B 4400 a ∧ B 4400 b ∧ Q (ratD (a + b))
def S_minus : DSp := fun ds Q _ => ∃ a b : Rat, ds = [ratD a, ratD b] ∧ B 4400 a ∧ B 4400 b ∧ Q (ratD (a - b))
def S_times : DSp := fun ds Q _ => ∃ a b : Rat, ds = [ratD a, ratD b] ∧ B 4400 a ∧ B 4400 b ∧ Q (ratD (a * b))
def S_size_of : DSp := fun ds Q _ => ∃ a : Rat, ds = [ratD a] ∧ Q (ratD (rabs a))
def S_compare : DSp := fun ds Q _ => ∃ a b : Rat, ds = [ratD a, ratD b] ∧ B 10000 a ∧ B 10000 b ∧ Q (.int (rcmp a b))
def S_sum_of : DSp := fun ds Q _ => ∃ (l : List Rat) (k : Nat), ds = [.lst (l.map ratD)] ∧ (∀ r, r ∈ l → B k r) ∧ (k + 1) * l.length + k + 1 ≤ 4400 ∧ Q (ratD l.sum)
def S_greatest_of : DSp := fun ds Q _ => ∃ l : List Rat, ds = [.lst (l.map ratD)] ∧ l ≠ [] ∧ (∀ r, r ∈ l → B 10000 r) ∧ ∀ m, m ∈ l → (∀ y, y ∈ l → y ≤ m) → Q (ratD m)
def S_is_spot : DSp := fun ds Q _ => ∃ x, ds = [x] ∧ p3 x = true ∧ Q (.bl (spotQ x))
def S_square_sum : DSp := fun ds Q _ => ∃ x y : Rat, ds = [vecD x y] ∧ B 2200 x ∧ B 2200 y ∧ Q (ratD (x * x + y * y))
def S_law_gcd : DSp := fun ds Q _ => ∃ a b : Int, ds = [.int a, .int b] ∧ Q (.int ((Nat.gcd a.natAbs b.natAbs : Nat) : Int))
abbrev S_law_ratio : DSp := S_lowest_terms
abbrev S_law_plus : DSp := S_plus
abbrev S_law_less : DSp := S_minus
abbrev S_law_times : DSp := S_times
def S_law_over : DSp := fun ds Q _ => ∃ a b : Rat, ds = [ratD a, ratD b] ∧ B 4400 a ∧ B 4400 b ∧ 0 < b ∧ Q (ratD (a / b))
def S_law_below : DSp := fun ds Q _ => ∃ a b : Rat, ds = [ratD a, ratD b] ∧ B 10000 a ∧ B 10000 b ∧ Q (.bl (decide (a < b)))
abbrev S_law_size : DSp := S_size_of
abbrev S_law_sum : DSp := S_sum_of
abbrev S_law_is_ratio : DSp := S_is_ratio
abbrev S_law_is_spot : DSp := S_is_spot
abbrev S_law_square : DSp := S_square_sum
end SA
end

section
set_option Elab.async false
set_option linter.all false
set_option maxRecDepth 100000
set_option maxHeartbeats 4000000
namespace SA
open PySem PySem.Spec PyProof.Rows L2 DL RM
local macro_rules | `(tactic| walk_at "rd") => `(tactic| repeat (first | refine ⟨_, rfl, ?_⟩ | refine ⟨rfl, ?_⟩ | refine ⟨_, _, rfl, ?_⟩ | refine iteT ?_ | refine iteF ?_))
section
variable {P : Program} {w : World} {K : PySem.W.Frag} {mg : Str → Option Value} {base : Heap} {f : Addr} {fd : FuncData}
theorem ok_is_whole (F : Fun K "is_whole" "is_whole" s_is_whole f fd) (T : Glob mg) : FnOk P w K mg base CX0 4 f fd ["thing", "low", "high"] (spP K S_is_whole) := by
  refine fnP F sc_is_whole (by intro ds Q E h; unfold S_is_whole at h; repeat (first | (obtain ⟨rfl, _⟩ := h; rfl) | (obtain ⟨_, h⟩ := h))) fun cdv A outer sh H E W hr eW => ⟨_, (bd_cons (sd_if (wd_or (td_not (td_val (ed_isInt (by rfl) T.n_isinstance (by rfl) T.n_int (ed_var 0)))) (wd_or1 (td_val (ed_isBool (by rfl) T.n_isinstance (by rfl) T.n_bool (ed_var 0))))).pt (bd_one (sd_ret ed_bl)) bd_nil)
    (bd_cons (sd_if (wd_and (td_notN (ed_var 1)) (wd_and1 (td_lt (ed_var 0) (ed_var 1)))).pt (bd_one (sd_ret ed_bl)) bd_nil)
    (bd_cons (sd_if (wd_and (td_notN (ed_var 2)) (wd_and1 (td_gt (ed_var 0) (ed_var 2)))).pt (bd_one (sd_ret ed_bl)) bd_nil)
    (bd_one (sd_ret ed_bl))))), ?_⟩
  rintro ds Q EQ ⟨x, lo, hi, rfl, hp, q⟩
  cases x with
  | ins _ _ _ => cases hp
  | int i =>
    cases lo with
    | none =>
      cases hi with
      | none => walk_at "rd"; exact q
      | some h =>
        walk_at "rd"
        refine ifB (fun c => ?_) (fun c => ?_)
        · have e : wholeQ (.int i) none (some h) = false := by simp [wholeQ]; omega
          rw [e] at q; exact q
        · have e : wholeQ (.int i) none (some h) = true := by simp [wholeQ]; omega
          rw [e] at q; exact q
    | some l =>
      walk_at "rd"
      refine ifB (fun c => ?_) (fun c => ?_)
      · have e : wholeQ (.int i) (some l) hi = false := by simp [wholeQ]; omega
        rw [e] at q; exact q
      · cases hi with
        | none =>
          walk_at "rd"
          have e : wholeQ (.int i) (some l) none = true := by simp [wholeQ]; omega
          rw [e] at q; exact q
        | some h =>
          walk_at "rd"
          refine ifB (fun d => ?_) (fun d => ?_)
          · have e : wholeQ (.int i) (some l) (some h) = false := by simp [wholeQ]; omega
            rw [e] at q; exact q
          · have e : wholeQ (.int i) (some l) (some h) = true := by simp [wholeQ]; omega
            rw [e] at q; exact q
  | _ => walk_at "rd"; exact q
theorem whole_free : ∀ {x : D}, (∀ i, x ≠ .int i) → wholeQ x none none = false
  | .int i, h => absurd rfl (h i)
  | .ins _ _ _, _ => rfl
  | .tup _, _ => rfl
  | .lst _, _ => rfl
  | .non, _ => rfl
  | .bl _, _ => rfl
  | .str _, _ => rfl
theorem ok_is_ratio (F : Fun K "is_ratio" "is_ratio" s_is_ratio f fd) (D1_is_whole : CalD P w K mg base 4 "is_whole" (spP K S_is_whole) [.non]) (D2_is_whole : CalD P w K mg base 4 "is_whole" (spP K S_is_whole) [.non, .non]) (T : Glob mg) : FnOk P w K mg base CX0 5 f fd ["thing"] (spP K S_is_ratio) := by
  refine fnP F sc_is_ratio (by intro ds Q E h; unfold S_is_ratio at h; repeat (first | (obtain ⟨rfl, _⟩ := h; rfl) | (obtain ⟨_, h⟩ := h))) fun cdv A outer sh H E W hr eW => ⟨_, (bd_cons (sd_if (td_not (wd_and (td_val (ed_isTup (by rfl) T.n_isinstance (by rfl) T.n_tuple (ed_var 0))) (wd_and1 (td_eq (ed_cb call_len_seq sim_len (by rfl) T.n_len (by decide +kernel) (ad_cons (ed_var 0) ad_nil)) ed_int))).pt) (bd_one (sd_ret ed_bl)) bd_nil)
    (bd_cons (sd_asg (ed_var 0) (gd_tup rfl (gds_cons (gd_name 1 sc_is_ratio.nd) (gds_cons (gd_name 2 sc_is_ratio.nd) gds_nil))))
    (bd_one (sd_ret (ed_and (ecD D2_is_whole hr (by decide) (by rfl) non2 (ad_cons (ed_var 1) ad_nil)) (ed_and (ecD D1_is_whole hr (by decide) (by rfl) non1 (ad_cons (ed_var 2) (ad_cons ed_int ad_nil))) (ed_one (ed_eq (ed_gcd (by rfl) T.gcd (ad_cons (ed_var 1) (ad_cons (ed_var 2) ad_nil))) ed_int)))))))), ?_⟩
  rintro ds Q EQ ⟨x, rfl, hp, q⟩
  cases x with
  | ins _ _ _ => cases hp
  | tup xs =>
    match xs, hp with
    | [], hp => walk_at "rd"; exact q
    | [a], hp =>
      walk_at "rd"
      have e : ratioQ (.tup [a]) = false := by cases a <;> rfl
      rw [e] at q; exact q
    | [a, b], hp =>
      have ha : p1 a = true := by
        have h := List.all_eq_true.mp (show [a, b].all p1 = true from hp)
        exact h a (by simp)
      have hb : p1 b = true := by
        have h := List.all_eq_true.mp (show [a, b].all p1 = true from hp)
        exact h b (by simp)
      walk_at "rd"
      refine ⟨a, none, none, rfl, ha, ?_⟩
      walk_at "rd"
      refine ifb (fun c1 => ?_) (fun c1 => ?_)
      · walk_at "rd"
        refine ⟨b, some 1, none, rfl, hb, ?_⟩
        walk_at "rd"
        cases a with
        | int i =>
          cases b with
          | int j =>
            refine ifb (fun c2 => ?_) (fun c2 => ?_)
            · walk_at "rd"
              have c2' : decide (1 ≤ j) = true := by simpa [wholeQ] using c2
              have e : ratioQ (.tup [.int i, .int j]) = decide (Nat.gcd i.natAbs j.natAbs = 1) := by
                show (decide (1 ≤ j) && _) = _
                rw [c2']; rfl
              rw [e] at q
              have e2 : scalD (.int ((Nat.gcd i.natAbs j.natAbs : Nat) : Int)) (.int 1) = decide (Nat.gcd i.natAbs j.natAbs = 1) := by
                show decide (((Nat.gcd i.natAbs j.natAbs : Nat) : Int) = 1) = _
                exact decide_eq_decide.mpr (by omega)
              rw [e2]; exact q
            · have c2' : decide (1 ≤ j) = false := by simpa [wholeQ] using c2
              have e : ratioQ (.tup [.int i, .int j]) = false := by
                show (decide (1 ≤ j) && _) = _
                rw [c2']; rfl
              rw [e] at q; exact q
          | _ => walk_at "rd"; exact q
        | _ => cases c1
      · cases a with
        | int i => cases c1
        | ins _ _ _ => cases ha
        | _ => exact q
    | a :: b :: c :: r, hp =>
      walk_at "rd"
      have e : ratioQ (.tup (a :: b :: c :: r)) = false := by cases a <;> cases b <;> rfl
      rw [e] at q; exact q
  | _ => walk_at "rd"; exact q
theorem gcd_lt {a b : Int} (hb : 0 < b) (h : b.natAbs < 2 ^ 9000) : CDivW a ((Nat.gcd a.natAbs b.natAbs : Nat) : Int) ∧ CDivW b ((Nat.gcd a.natAbs b.natAbs : Nat) : Int) := by
  have h1 : 0 < Nat.gcd a.natAbs b.natAbs := Nat.gcd_pos_of_pos_right _ (by omega)
  have h2 : Nat.gcd a.natAbs b.natAbs ≤ b.natAbs := Nat.gcd_le_right _ (by omega)
  have h3 : ((Nat.gcd a.natAbs b.natAbs : Nat) : Int).natAbs < 2 ^ 9000 := by rw [Int.natAbs_natCast]; omega
  exact ⟨wide_div (by omega) h3 (by decide) (by decide), wide_div (by omega) h3 (by decide) (by decide)⟩
theorem ok_lowest_terms (F : Fun K "lowest_terms" "lowest_terms" s_lowest_terms f fd) (T : Glob mg) : FnOk P w K mg base CX0 4 f fd ["top", "bottom"] (spP K S_lowest_terms) := by
  refine fnP F sc_lowest_terms (by intro ds Q E h; unfold S_lowest_terms at h; repeat (first | (obtain ⟨rfl, _⟩ := h; rfl) | (obtain ⟨_, h⟩ := h))) fun cdv A outer sh H E W hr eW => ⟨_, (bd_cons (sd_if (td_lt (ed_var 1) ed_int) (bd_one (sd_par 0 1 rfl sc_lowest_terms.nd (ad_cons (ed_neg (ed_var 0)) (ad_cons (ed_neg (ed_var 1)) ad_nil)))) bd_nil)
    (bd_cons (sd_set 2 sc_lowest_terms.nd (ed_gcd (by rfl) T.gcd (ad_cons (ed_var 0) (ad_cons (ed_var 1) ad_nil))))
    (bd_one (sd_ret (ed_tup (ad_cons (ed_fdivW (ed_var 0) (ed_var 2)) (ad_cons (ed_fdivW (ed_var 1) (ed_var 2)) ad_nil))))))), ?_⟩
  rintro ds Q EQ ⟨a, b, rfl, hb, hb2, q⟩
  obtain ⟨c1, c2⟩ := gcd_lt (a := a) hb hb2
  obtain ⟨e1, e2⟩ := divInt_parts (a := a) hb
  walk_at "rd"
  refine ifF (by omega) ?_
  walk_at "rd"
  refine ⟨c1, ?_⟩
  walk_at "rd"
  refine ⟨c2, ?_⟩
  walk_at "rd"
  unfold ratD at q
  rw [e1, e2] at q
  exact q
theorem ok_plus (F : Fun K "plus" "plus" s_plus f fd) (G_lowest_terms : Cal P w K mg base CX0 4 "lowest_terms" (spP K S_lowest_terms)) : FnOk P w K mg base CX0 5 f fd ["one", "other"] (spP K S_plus) := by
  refine fnP F sc_plus (by intro ds Q E h; unfold S_plus at h; repeat (first | (obtain ⟨rfl, _⟩ := h; rfl) | (obtain ⟨_, h⟩ := h))) fun cdv A outer sh H E W hr eW => ⟨_, (bd_one (sd_ret (ec G_lowest_terms hr (by decide) (by rfl) (ad_cons (ed_add (ed_mulW (ed_ix (ed_var 0) ed_int) (ed_ix (ed_var 1) ed_int)) (ed_mulW (ed_ix (ed_var 1) ed_int) (ed_ix (ed_var 0) ed_int))) (ad_cons (ed_mulW (ed_ix (ed_var 0) ed_int) (ed_ix (ed_var 1) ed_int)) ad_nil))))), ?_⟩
  rintro ds Q EQ ⟨a, b, rfl, ha, hb, q⟩
  walk_at "rd"
  refine ⟨wmul ha.n hb.dn, ?_⟩
  walk_at "rd"
  refine ⟨wmul hb.n ha.dn, ?_⟩
  walk_at "rd"
  refine ⟨wmul ha.dn hb.dn, ?_⟩
  walk_at "rd"
  refine ⟨den_mul_pos a b, pow_up (ha.denMul hb) (by decide), ?_⟩
  rw [add_eq]
  exact q
theorem ok_minus (F : Fun K "minus" "minus" s_minus f fd) (G_lowest_terms : Cal P w K mg base CX0 4 "lowest_terms" (spP K S_lowest_terms)) : FnOk P w K mg base CX0 5 f fd ["one", "other"] (spP K S_minus) := by
  refine fnP F sc_minus (by intro ds Q E h; unfold S_minus at h; repeat (first | (obtain ⟨rfl, _⟩ := h; rfl) | (obtain ⟨_, h⟩ := h))) fun cdv A outer sh H E W hr eW => ⟨_, (bd_one (sd_ret (ec G_lowest_terms hr (by decide) (by rfl) (ad_cons (ed_sub (ed_mulW (ed_ix (ed_var 0) ed_int) (ed_ix (ed_var 1) ed_int)) (ed_mulW (ed_ix (ed_var 1) ed_int) (ed_ix (ed_var 0) ed_int))) (ad_cons (ed_mulW (ed_ix (ed_var 0) ed_int) (ed_ix (ed_var 1) ed_int)) ad_nil))))), ?_⟩
  rintro ds Q EQ ⟨a, b, rfl, ha, hb, q⟩
  walk_at "rd"
  refine ⟨wmul ha.n hb.dn, ?_⟩
  walk_at "rd"
  refine ⟨wmul hb.n ha.dn, ?_⟩
  walk_at "rd"
  refine ⟨wmul ha.dn hb.dn, ?_⟩
  walk_at "rd"
  refine ⟨den_mul_pos a b, pow_up (ha.denMul hb) (by decide), ?_⟩
  rw [sub_eq]
  exact q
theorem ok_times (F : Fun K "times" "times" s_times f fd) (G_lowest_terms : Cal P w K mg base CX0 4 "lowest_terms" (spP K S_lowest_terms)) : FnOk P w K mg base CX0 5 f fd ["one", "other"] (spP K S_times) := by
  refine fnP F sc_times (by intro ds Q E h; unfold S_times at h; repeat (first | (obtain ⟨rfl, _⟩ := h; rfl) | (obtain ⟨_, h⟩ := h))) fun cdv A outer sh H E W hr eW => ⟨_, (bd_one (sd_ret (ec G_lowest_terms hr (by decide) (by rfl) (ad_cons (ed_mulW (ed_ix (ed_var 0) ed_int) (ed_ix (ed_var 1) ed_int)) (ad_cons (ed_mulW (ed_ix (ed_var 0) ed_int) (ed_ix (ed_var 1) ed_int)) ad_nil))))), ?_⟩
  rintro ds Q EQ ⟨a, b, rfl, ha, hb, q⟩
  walk_at "rd"
  refine ⟨wmul ha.n hb.n, ?_⟩
  walk_at "rd"
  refine ⟨wmul ha.dn hb.dn, ?_⟩
  walk_at "rd"
  refine ⟨den_mul_pos a b, pow_up (ha.denMul hb) (by decide), ?_⟩
  rw [mul_eq]
  exact q
theorem abs_if (i : Int) : (if i < 0 then -i else i) = (i.natAbs : Int) := by
  split <;> omega
theorem ok_size_of (F : Fun K "size_of" "size_of" s_size_of f fd) (T : Glob mg) : FnOk P w K mg base CX0 4 f fd ["one"] (spP K S_size_of) := by
  refine fnP F sc_size_of (by intro ds Q E h; unfold S_size_of at h; repeat (first | (obtain ⟨rfl, _⟩ := h; rfl) | (obtain ⟨_, h⟩ := h))) fun cdv A outer sh H E W hr eW => ⟨_, (bd_one (sd_ret (ed_tup (ad_cons (ed_cb call_abs sim_abs (by rfl) T.n_abs (by decide +kernel) (ad_cons (ed_ix (ed_var 0) ed_int) ad_nil)) (ad_cons (ed_ix (ed_var 0) ed_int) ad_nil))))), ?_⟩
  rintro ds Q EQ ⟨a, rfl, q⟩
  walk_at "rd"
  unfold ratD at q
  rw [rabs_num, rabs_den] at q
  rw [abs_if]
  exact q
theorem ok_compare (F : Fun K "compare" "compare" s_compare f fd)  : FnOk P w K mg base CX0 4 f fd ["one", "other"] (spP K S_compare) := by
  refine fnP F sc_compare (by intro ds Q E h; unfold S_compare at h; repeat (first | (obtain ⟨rfl, _⟩ := h; rfl) | (obtain ⟨_, h⟩ := h))) fun cdv A outer sh H E W hr eW => ⟨_, (bd_cons (sd_set 2 sc_compare.nd (ed_sub (ed_mulW (ed_ix (ed_var 0) ed_int) (ed_ix (ed_var 1) ed_int)) (ed_mulW (ed_ix (ed_var 1) ed_int) (ed_ix (ed_var 0) ed_int))))
    (bd_cons (sd_if (td_lt (ed_var 2) ed_int) (bd_one (sd_ret (ed_neg ed_int))) bd_nil)
    (bd_one (sd_ret (ed_ifExp (td_gt (ed_var 2) ed_int) ed_int ed_int))))), ?_⟩
  rintro ds Q EQ ⟨a, b, rfl, ha, hb, q⟩
  obtain ⟨s1, s2⟩ := cmp_sign a b
  walk_at "rd"
  refine ⟨wmul ha.n hb.dn, ?_⟩
  walk_at "rd"
  refine ⟨wmul hb.n ha.dn, ?_⟩
  walk_at "rd"
  unfold rcmp at q
  refine ifB (fun c => ?_) (fun c => ?_)
  · walk_at "rd"
    rw [if_pos (s1.1 c)] at q
    exact q
  · walk_at "rd"
    rw [if_neg (fun z => c (s1.2 z))] at q
    refine ifB (fun d => ?_) (fun d => ?_)
    · rw [if_pos (s2.1 d)] at q
      exact q
    · rw [if_neg (fun z => d (s2.2 z))] at q
      exact q
end
end SA
end

section
set_option Elab.async false
set_option linter.all false
set_option maxRecDepth 100000
set_option maxHeartbeats 4000000
namespace SA
open PySem PySem.Spec PyProof.Rows L2 DL RM
local macro_rules | `(tactic| walk_at "rd") => `(tactic| repeat (first | refine ⟨_, rfl, ?_⟩ | refine ⟨rfl, ?_⟩ | refine ⟨_, _, rfl, ?_⟩ | refine iteT ?_ | refine iteF ?_))
section
variable {P : Program} {w : World} {K : PySem.W.Frag} {mg : Str → Option Value} {base : Heap} {f : Addr} {fd : FuncData}
theorem sum_read {k : Nat} {l : List Rat} {g : DG} {tb : DS} {E : DEnds} {c0 : Option Sl}
    (h0 : ∀ e, E.nx [c0, some (.d (ratD l.sum)), e])
    (hs : ∀ (x t : Rat) e (R : DL.Env → Prop) (E' : DEnds), B k x → B 4400 t → k ≤ 4400 → E'.nx = R → R [c0, some (.d (ratD (t + x))), some (.d (ratD x))] → g (ratD x) [c0, some (.d (ratD t)), e] fun ρ' => tb E' ρ') :
    ∀ (l' : List Rat) (t : Rat) (j : Nat) e, t + l'.sum = l.sum → (∀ r, r ∈ l' → B k r) → B j t → j + (k + 1) * l'.length + k ≤ 4400 → forL g tb E (l'.map ratD) [c0, some (.d (ratD t)), e]
  | [], t, j, e, ht, _, _, _ => by
    rw [List.sum_nil, Rat.add_zero] at ht
    rw [ht]
    exact h0 e
  | x :: l', t, j, e, ht, hB, hj, hl => by
    rw [List.length_cons, Nat.mul_succ] at hl
    rw [List.sum_cons, ← Rat.add_assoc] at ht
    refine hs x t e (forL g tb E (l'.map ratD)) _ (hB x (List.mem_cons_self ..)) (hj.mono (by omega)) (by omega) rfl ?_
    exact sum_read h0 hs l' (t + x) (j + k + 1) _ ht (fun r hr => hB r (List.mem_cons_of_mem _ hr)) (hj.add (hB x (List.mem_cons_self ..))) (by omega)
theorem ok_sum_of (F : Fun K "sum_of" "sum_of" s_sum_of f fd) (G_ZERO : Glv K mg "ZERO" (ratD 0)) (G_plus : Cal P w K mg base CX0 5 "plus" (spP K S_plus)) : FnOk P w K mg base CX0 6 f fd ["row"] (spP K S_sum_of) := by
  refine fnP F sc_sum_of (by intro ds Q E h; unfold S_sum_of at h; repeat (first | (obtain ⟨rfl, _⟩ := h; rfl) | (obtain ⟨_, h⟩ := h))) fun cdv A outer sh H E W hr eW => ⟨_, (bd_cons (sd_set 1 sc_sum_of.nd (eg G_ZERO (by rfl)))
    (bd_cons (sd_for PassesOwn.never rfl (id_list (ed_var 0)) (gd_name 2 sc_sum_of.nd) (bd_one (sd_set 1 sc_sum_of.nd (ec G_plus hr (by decide) (by rfl) (ad_cons (ed_var 1) (ad_cons (ed_var 2) ad_nil))))))
    (bd_one (sd_ret (ed_var 1))))), ?_⟩
  rintro ds Q EQ ⟨l, k, rfl, hB, hk, q⟩
  walk_at "rd"
  refine sum_read (k := k) (l := l) (fun e => ?_) (fun x t e R E' hx ht hk eR hR => ?_) l 0 1 _ (Rat.zero_add _) hB B.zero (by omega)
  · walk_at "rd"
    exact q
  · walk_at "rd"
    refine ⟨ht, hx.mono hk, ?_⟩
    walk_at "rd"
    subst eR
    exact hR
theorem ok_greatest_of (F : Fun K "greatest_of" "greatest_of" s_greatest_of f fd) (G_compare : Cal P w K mg base CX0 4 "compare" (spP K S_compare)) : FnOk P w K mg base CX0 5 f fd ["row"] (spP K S_greatest_of) := by
  refine fnP F sc_greatest_of (by intro ds Q E h; unfold S_greatest_of at h; repeat (first | (obtain ⟨rfl, _⟩ := h; rfl) | (obtain ⟨_, h⟩ := h))) fun cdv A outer sh H E W hr eW => ⟨_, (bd_cons (sd_set 1 sc_greatest_of.nd (ed_ix (ed_var 0) ed_int))
    (bd_cons (sd_for PassesOwn.never rfl (id_list (ed_var 0)) (gd_name 2 sc_greatest_of.nd) (bd_one (sd_if (td_gt (ec G_compare hr (by decide) (by rfl) (ad_cons (ed_var 2) (ad_cons (ed_var 1) ad_nil))) ed_int) (bd_one (sd_set 1 sc_greatest_of.nd (ed_var 2))) bd_nil)))
    (bd_one (sd_ret (ed_var 1))))), ?_⟩
  rintro ds Q EQ ⟨l, rfl, hl, hB, q⟩
  obtain ⟨a, ha⟩ : ∃ a, l[0]? = some a := by
    cases l with
    | nil => exact absurd rfl hl
    | cons a _ => exact ⟨a, rfl⟩
  walk_at "rd"
  refine ⟨ratD a, (atI_of (n := 0) rfl).trans (by rw [List.getElem?_map, ha]; rfl), ?_⟩
  walk_at "rd"
  refine forL_ind (fun xs ρ => ∃ (l1 : List Rat) (t : Rat) (e : Option Sl), xs = l1.map ratD ∧ ρ = [some (.d (.lst (l.map ratD))), some (.d (ratD t)), e] ∧ t ∈ l ∧ (∀ y, y ∈ l1 → y ∈ l) ∧ (∀ y, y ∈ l → y ≤ t ∨ y ∈ l1)) ?_ ?_ _ _ ⟨l, a, none, rfl, rfl, List.mem_of_getElem? ha, fun _ h => h, fun y h => .inr h⟩
  · rintro ρ ⟨l1, t, e, h1, rfl, ht, _, hm⟩
    cases l1 with
    | cons _ _ => cases h1
    | nil =>
      walk_at "rd"
      exact q t ht fun y hy => (hm y hy).elim id (fun z => by cases z)
  · rintro x xs ρ ih ⟨l1, t, e, h1, rfl, ht, hs, hm⟩
    cases l1 with
    | nil => cases h1
    | cons b l2 =>
      cases h1
      walk_at "rd"
      refine ⟨hB b (hs b (List.mem_cons_self ..)), hB t ht, ?_⟩
      have hlt : ∀ p : Prop, ∀ q : Prop, (t < b → p) → (¬ t < b → q) → if decide (rcmp b t > 0) = true then p else q := fun p q h1 h2 => by
        unfold rcmp
        by_cases c : b < t
        · rw [if_pos c]; exact iteF (h2 (by grind))
        · rw [if_neg c]
          by_cases d : t < b
          · rw [if_pos d]; exact iteT (h1 d)
          · rw [if_neg d]; exact iteF (h2 d)
      walk_at "rd"
      refine hlt _ _ (fun c => ?_) (fun c => ?_)
      · walk_at "rd"
        refine ih _ ⟨l2, b, _, rfl, rfl, hs b (List.mem_cons_self ..), fun y hy => hs y (List.mem_cons_of_mem _ hy), fun y hy => ?_⟩
        rcases hm y hy with z | z
        · exact .inl (Rat.le_trans z (Rat.le_of_lt c))
        · rcases List.mem_cons.mp z with rfl | z
          · exact .inl Rat.le_refl
          · exact .inr z
      · walk_at "rd"
        refine ih _ ⟨l2, t, _, rfl, rfl, ht, fun y hy => hs y (List.mem_cons_of_mem _ hy), fun y hy => ?_⟩
        rcases hm y hy with z | z
        · exact .inl z
        · rcases List.mem_cons.mp z with rfl | z
          · exact .inl (Rat.not_lt.mp c)
          · exact .inr z
theorem all2 {p : D → Bool} {a b : D} (h : [a, b].all p = true) : p a = true ∧ p b = true := ⟨List.all_eq_true.mp h a (by simp), List.all_eq_true.mp h b (by simp)⟩
theorem ok_is_spot (F : Fun K "is_spot" "is_spot" s_is_spot f fd) (G_is_ratio : Cal P w K mg base CX0 5 "is_ratio" (spP K S_is_ratio)) (T : Glob mg) : FnOk P w K mg base CX0 6 f fd ["thing"] (spP K S_is_spot) := by
  refine fnP F sc_is_spot (by intro ds Q E h; unfold S_is_spot at h; repeat (first | (obtain ⟨rfl, _⟩ := h; rfl) | (obtain ⟨_, h⟩ := h))) fun cdv A outer sh H E W hr eW => ⟨_, (bd_cons (sd_if (wd_or (td_not (td_val (ed_isSeq (by rfl) T.n_isinstance (by rfl) T.n_list (by rfl) T.n_tuple (ed_var 0)))) (wd_or1 (td_ne (ed_cb call_len_seq sim_len (by rfl) T.n_len (by decide +kernel) (ad_cons (ed_var 0) ad_nil)) ed_int))).pt (bd_one (sd_ret ed_bl)) bd_nil)
    (bd_one (sd_ret (ed_and (ec G_is_ratio hr (by decide) (by rfl) (ad_cons (ed_ix (ed_var 0) ed_int) ad_nil)) (ed_one (ec G_is_ratio hr (by decide) (by rfl) (ad_cons (ed_ix (ed_var 0) ed_int) ad_nil))))))), ?_⟩
  rintro ds Q EQ ⟨x, rfl, hp, q⟩
  have key : ∀ xs : List D, itemsD x = some xs → xs.all p2 = true → xs.length = 2 → ∃ a b, xs = [a, b] ∧ spotQ x = (ratioQ a && ratioQ b) ∧ p2 a = true ∧ p2 b = true := fun xs e h hl => by
    match xs, hl with
    | [a, b], _ =>
      refine ⟨a, b, rfl, ?_, (all2 h).1, (all2 h).2⟩
      unfold spotQ; rw [e]
  have key2 : ∀ xs : List D, itemsD x = some xs → xs.length ≠ 2 → spotQ x = false := fun xs e hl => by
    match xs, hl with
    | [], _ => unfold spotQ; rw [e]
    | [a], _ => unfold spotQ; rw [e]
    | [a, b], h => exact absurd rfl h
    | a :: b :: c :: r, _ => unfold spotQ; rw [e]
  cases x with
  | ins _ _ _ => cases hp
  | tup xs =>
    walk_at "rd"
    refine ifb (fun c => ?_) (fun c => ?_)
    · walk_at "rd"
      rw [key2 xs rfl fun z => by rw [z] at c; cases c] at q
      exact q
    · have hl : xs.length = 2 := by
        have c' : (!decide (((xs.length : Nat) : Int) = 2)) = false := c
        rw [Bool.not_eq_false', decide_eq_true_eq] at c'
        omega
      obtain ⟨a, b, rfl, e, pa, pb⟩ := key xs rfl hp hl
      rw [e] at q
      walk_at "rd"
      refine ⟨pa, ?_⟩
      walk_at "rd"
      refine ifb (fun c1 => ?_) (fun c1 => ?_)
      · rw [c1] at q
        walk_at "rd"
        exact ⟨pb, q⟩
      · rw [c1] at q
        exact q
  | lst xs =>
    walk_at "rd"
    refine ifb (fun c => ?_) (fun c => ?_)
    · walk_at "rd"
      rw [key2 xs rfl fun z => by rw [z] at c; cases c] at q
      exact q
    · have hl : xs.length = 2 := by
        have c' : (!decide (((xs.length : Nat) : Int) = 2)) = false := c
        rw [Bool.not_eq_false', decide_eq_true_eq] at c'
        omega
      obtain ⟨a, b, rfl, e, pa, pb⟩ := key xs rfl hp hl
      rw [e] at q
      walk_at "rd"
      refine ⟨pa, ?_⟩
      walk_at "rd"
      refine ifb (fun c1 => ?_) (fun c1 => ?_)
      · rw [c1] at q
        walk_at "rd"
        exact ⟨pb, q⟩
      · rw [c1] at q
        exact q
  | _ => walk_at "rd"; exact q
theorem ok_square_sum (F : Fun K "square_sum" "square_sum" s_square_sum f fd) (G_plus : Cal P w K mg base CX0 5 "plus" (spP K S_plus)) (G_times : Cal P w K mg base CX0 5 "times" (spP K S_times)) : FnOk P w K mg base CX0 6 f fd ["spot"] (spP K S_square_sum) := by
  refine fnP F sc_square_sum (by intro ds Q E h; unfold S_square_sum at h; repeat (first | (obtain ⟨rfl, _⟩ := h; rfl) | (obtain ⟨_, h⟩ := h))) fun cdv A outer sh H E W hr eW => ⟨_, (bd_cons (sd_asg (ed_var 0) (gd_tup rfl (gds_cons (gd_name 1 sc_square_sum.nd) (gds_cons (gd_name 2 sc_square_sum.nd) gds_nil))))
    (bd_one (sd_ret (ec G_plus hr (by decide) (by rfl) (ad_cons (ec G_times hr (by decide) (by rfl) (ad_cons (ed_var 1) (ad_cons (ed_var 1) ad_nil))) (ad_cons (ec G_times hr (by decide) (by rfl) (ad_cons (ed_var 2) (ad_cons (ed_var 2) ad_nil))) ad_nil)))))), ?_⟩
  rintro ds Q EQ ⟨x, y, rfl, hx, hy, q⟩
  walk_at "rd"
  refine ⟨hx.mono (by decide), hx.mono (by decide), ?_⟩
  walk_at "rd"
  refine ⟨hy.mono (by decide), hy.mono (by decide), ?_⟩
  walk_at "rd"
  exact ⟨(hx.mul hx).mono (by decide), (hy.mul hy).mono (by decide), q⟩
theorem ok_law_gcd (F : Fun K "_law_gcd" "_law_gcd" s_law_gcd f fd) (T : Glob mg) : FnOk P w K mg base CX0 4 f fd ["_law_one", "_law_other"] (spP K S_law_gcd) := by
  refine fnP F sc_law_gcd (by intro ds Q E h; unfold S_law_gcd at h; repeat (first | (obtain ⟨rfl, _⟩ := h; rfl) | (obtain ⟨_, h⟩ := h))) fun cdv A outer sh H E W hr eW => ⟨_, (bd_cons (sd_par 0 1 rfl sc_law_gcd.nd (ad_cons (ed_cb call_abs sim_abs (by rfl) T.n_abs (by decide +kernel) (ad_cons (ed_var 0) ad_nil)) (ad_cons (ed_cb call_abs sim_abs (by rfl) T.n_abs (by decide +kernel) (ad_cons (ed_var 1) ad_nil)) ad_nil)))
    (bd_cons (sd_while PassesOwn.never (td_tru (ed_var 1)) (bd_one (sd_par 0 1 rfl sc_law_gcd.nd (ad_cons (ed_var 1) (ad_cons (ed_mod (ed_ct call_int1 sim_int (by rfl) T.n_int (by decide +kernel) (ad_cons (ed_var 0) ad_nil)) (ed_var 1)) ad_nil)))))
    (bd_one (sd_ret (ed_var 0))))), ?_⟩
  rintro ds Q EQ ⟨a, b, rfl, q⟩
  walk_at "rd"
  rw [abs_if, abs_if]
  refine ⟨fun ρ => ∃ i j : Nat, ρ = [some (.d (.int i)), some (.d (.int j))] ∧ Nat.gcd i j = Nat.gcd a.natAbs b.natAbs, fun ρ => match ρ[1]? with | some (some (Sl.d (.int i))) => i.toNat | _ => 0, ⟨a.natAbs, b.natAbs, rfl, rfl⟩, ?_⟩
  rintro ρ ⟨i, j, rfl, hg⟩
  walk_at "rd"
  refine ifb (fun c => ?_) (fun c => ?_)
  · have hj : 0 < j := by
      have : ((j : Int) != 0) = true := c
      simp at this
      omega
    walk_at "rd"
    refine ⟨by omega, ?_⟩
    walk_at "rd"
    refine ⟨⟨j, i % j, rfl, ?_⟩, ?_⟩
    · rw [← hg, Nat.gcd_comm j, ← Nat.gcd_rec, Nat.gcd_comm]
    · show ((i : Int) % (j : Int)).toNat < ((j : Int)).toNat
      have := Nat.mod_lt i hj
      omega
  · have hj : j = 0 := by
      have : ((j : Int) != 0) = false := c
      simp at this
      omega
    subst hj
    walk_at "rd"
    rw [Nat.gcd_zero_right] at hg
    rw [hg]
    exact q
theorem ok_law_ratio (F : Fun K "_law_ratio" "_law_ratio" s_law_ratio f fd) (G_law_gcd : Cal P w K mg base CX0 4 "_law_gcd" (spP K S_law_gcd)) : FnOk P w K mg base CX0 5 f fd ["_law_top", "_law_bottom"] (spP K S_law_ratio) := by
  refine fnP F sc_law_ratio (by intro ds Q E h; unfold S_law_ratio at h; repeat (first | (obtain ⟨rfl, _⟩ := h; rfl) | (obtain ⟨_, h⟩ := h))) fun cdv A outer sh H E W hr eW => ⟨_, (bd_cons (sd_set 2 sc_law_ratio.nd (ec G_law_gcd hr (by decide) (by rfl) (ad_cons (ed_var 0) (ad_cons (ed_var 1) ad_nil))))
    (bd_cons (sd_if (td_lt (ed_var 1) ed_int) (bd_one (sd_set 2 sc_law_ratio.nd (ed_neg (ed_var 2)))) bd_nil)
    (bd_one (sd_ret (ed_tup (ad_cons (ed_fdivW (ed_var 0) (ed_var 2)) (ad_cons (ed_fdivW (ed_var 1) (ed_var 2)) ad_nil))))))), ?_⟩
  rintro ds Q EQ ⟨a, b, rfl, hb, hb2, q⟩
  obtain ⟨c1, c2⟩ := gcd_lt (a := a) hb hb2
  obtain ⟨e1, e2⟩ := divInt_parts (a := a) hb
  walk_at "rd"
  skip
  walk_at "rd"
  refine ifF (by omega) ?_
  walk_at "rd"
  refine ⟨c1, ?_⟩
  walk_at "rd"
  refine ⟨c2, ?_⟩
  walk_at "rd"
  unfold ratD at q
  rw [e1, e2] at q
  exact q
theorem ok_law_plus (F : Fun K "_law_plus" "_law_plus" s_law_plus f fd) (G_law_ratio : Cal P w K mg base CX0 5 "_law_ratio" (spP K S_law_ratio)) : FnOk P w K mg base CX0 6 f fd ["_law_one", "_law_other"] (spP K S_law_plus) := by
  refine fnP F sc_law_plus (by intro ds Q E h; unfold S_law_plus at h; repeat (first | (obtain ⟨rfl, _⟩ := h; rfl) | (obtain ⟨_, h⟩ := h))) fun cdv A outer sh H E W hr eW => ⟨_, (bd_one (sd_ret (ec G_law_ratio hr (by decide) (by rfl) (ad_cons (ed_add (ed_mulW (ed_ix (ed_var 0) ed_int) (ed_ix (ed_var 1) ed_int)) (ed_mulW (ed_ix (ed_var 1) ed_int) (ed_ix (ed_var 0) ed_int))) (ad_cons (ed_mulW (ed_ix (ed_var 0) ed_int) (ed_ix (ed_var 1) ed_int)) ad_nil))))), ?_⟩
  rintro ds Q EQ ⟨a, b, rfl, ha, hb, q⟩
  walk_at "rd"
  refine ⟨wmul ha.n hb.dn, ?_⟩
  walk_at "rd"
  refine ⟨wmul hb.n ha.dn, ?_⟩
  walk_at "rd"
  refine ⟨wmul ha.dn hb.dn, ?_⟩
  walk_at "rd"
  refine ⟨den_mul_pos a b, pow_up (ha.denMul hb) (by decide), ?_⟩
  rw [add_eq]
  exact q
theorem ok_law_less (F : Fun K "_law_less" "_law_less" s_law_less f fd) (G_law_ratio : Cal P w K mg base CX0 5 "_law_ratio" (spP K S_law_ratio)) : FnOk P w K mg base CX0 6 f fd ["_law_one", "_law_other"] (spP K S_law_less) := by
  refine fnP F sc_law_less (by intro ds Q E h; unfold S_law_less at h; repeat (first | (obtain ⟨rfl, _⟩ := h; rfl) | (obtain ⟨_, h⟩ := h))) fun cdv A outer sh H E W hr eW => ⟨_, (bd_one (sd_ret (ec G_law_ratio hr (by decide) (by rfl) (ad_cons (ed_sub (ed_mulW (ed_ix (ed_var 0) ed_int) (ed_ix (ed_var 1) ed_int)) (ed_mulW (ed_ix (ed_var 1) ed_int) (ed_ix (ed_var 0) ed_int))) (ad_cons (ed_mulW (ed_ix (ed_var 0) ed_int) (ed_ix (ed_var 1) ed_int)) ad_nil))))), ?_⟩
  rintro ds Q EQ ⟨a, b, rfl, ha, hb, q⟩
  walk_at "rd"
  refine ⟨wmul ha.n hb.dn, ?_⟩
  walk_at "rd"
  refine ⟨wmul hb.n ha.dn, ?_⟩
  walk_at "rd"
  refine ⟨wmul ha.dn hb.dn, ?_⟩
  walk_at "rd"
  refine ⟨den_mul_pos a b, pow_up (ha.denMul hb) (by decide), ?_⟩
  rw [sub_eq]
  exact q
theorem ok_law_times (F : Fun K "_law_times" "_law_times" s_law_times f fd) (G_law_ratio : Cal P w K mg base CX0 5 "_law_ratio" (spP K S_law_ratio)) : FnOk P w K mg base CX0 6 f fd ["_law_one", "_law_other"] (spP K S_law_times) := by
  refine fnP F sc_law_times (by intro ds Q E h; unfold S_law_times at h; repeat (first | (obtain ⟨rfl, _⟩ := h; rfl) | (obtain ⟨_, h⟩ := h))) fun cdv A outer sh H E W hr eW => ⟨_, (bd_one (sd_ret (ec G_law_ratio hr (by decide) (by rfl) (ad_cons (ed_mulW (ed_ix (ed_var 0) ed_int) (ed_ix (ed_var 1) ed_int)) (ad_cons (ed_mulW (ed_ix (ed_var 0) ed_int) (ed_ix (ed_var 1) ed_int)) ad_nil))))), ?_⟩
  rintro ds Q EQ ⟨a, b, rfl, ha, hb, q⟩
  walk_at "rd"
  refine ⟨wmul ha.n hb.n, ?_⟩
  walk_at "rd"
  refine ⟨wmul ha.dn hb.dn, ?_⟩
  walk_at "rd"
  refine ⟨den_mul_pos a b, pow_up (ha.denMul hb) (by decide), ?_⟩
  rw [mul_eq]
  exact q
theorem ok_law_over (F : Fun K "_law_over" "_law_over" s_law_over f fd) (G_law_ratio : Cal P w K mg base CX0 5 "_law_ratio" (spP K S_law_ratio)) : FnOk P w K mg base CX0 6 f fd ["_law_one", "_law_other"] (spP K S_law_over) := by
  refine fnP F sc_law_over (by intro ds Q E h; unfold S_law_over at h; repeat (first | (obtain ⟨rfl, _⟩ := h; rfl) | (obtain ⟨_, h⟩ := h))) fun cdv A outer sh H E W hr eW => ⟨_, (bd_one (sd_ret (ec G_law_ratio hr (by decide) (by rfl) (ad_cons (ed_mulW (ed_ix (ed_var 0) ed_int) (ed_ix (ed_var 1) ed_int)) (ad_cons (ed_mulW (ed_ix (ed_var 0) ed_int) (ed_ix (ed_var 1) ed_int)) ad_nil))))), ?_⟩
  rintro ds Q EQ ⟨a, b, rfl, ha, hb, h0, q⟩
  walk_at "rd"
  refine ⟨wmul ha.n hb.dn, ?_⟩
  walk_at "rd"
  refine ⟨wmul ha.dn hb.n, ?_⟩
  walk_at "rd"
  refine ⟨Int.mul_pos (den_pos a) ((by simpa using (Rat.lt_iff 0 b).mp h0)), pow_up (lt_imul ha.dn hb.n) (by decide), ?_⟩
  rw [div_eq]
  exact q
theorem ok_law_below (F : Fun K "_law_below" "_law_below" s_law_below f fd)  : FnOk P w K mg base CX0 4 f fd ["_law_one", "_law_other"] (spP K S_law_below) := by
  refine fnP F sc_law_below (by intro ds Q E h; unfold S_law_below at h; repeat (first | (obtain ⟨rfl, _⟩ := h; rfl) | (obtain ⟨_, h⟩ := h))) fun cdv A outer sh H E W hr eW => ⟨_, (bd_one (sd_ret (ed_lt (ed_mulW (ed_ix (ed_var 0) ed_int) (ed_ix (ed_var 1) ed_int)) (ed_mulW (ed_ix (ed_var 1) ed_int) (ed_ix (ed_var 0) ed_int))))), ?_⟩
  rintro ds Q EQ ⟨a, b, rfl, ha, hb, q⟩
  walk_at "rd"
  refine ⟨wmul ha.n hb.dn, ?_⟩
  walk_at "rd"
  refine ⟨wmul hb.n ha.dn, ?_⟩
  walk_at "rd"
  rw [decide_eq_decide.mpr (Rat.lt_iff _ _)] at q
  exact q
theorem ok_law_size (F : Fun K "_law_size" "_law_size" s_law_size f fd) (T : Glob mg) : FnOk P w K mg base CX0 4 f fd ["_law_one"] (spP K S_law_size) := by
  refine fnP F sc_law_size (by intro ds Q E h; unfold S_law_size at h; repeat (first | (obtain ⟨rfl, _⟩ := h; rfl) | (obtain ⟨_, h⟩ := h))) fun cdv A outer sh H E W hr eW => ⟨_, (bd_one (sd_ret (ed_tup (ad_cons (ed_cb call_abs sim_abs (by rfl) T.n_abs (by decide +kernel) (ad_cons (ed_ix (ed_var 0) ed_int) ad_nil)) (ad_cons (ed_ix (ed_var 0) ed_int) ad_nil))))), ?_⟩
  rintro ds Q EQ ⟨a, rfl, q⟩
  walk_at "rd"
  unfold ratD at q
  rw [rabs_num, rabs_den] at q
  rw [abs_if]
  exact q
theorem ok_law_sum (F : Fun K "_law_sum" "_law_sum" s_law_sum f fd) (G_law_plus : Cal P w K mg base CX0 6 "_law_plus" (spP K S_law_plus)) : FnOk P w K mg base CX0 7 f fd ["_law_rows"] (spP K S_law_sum) := by
  refine fnP F sc_law_sum (by intro ds Q E h; unfold S_law_sum at h; repeat (first | (obtain ⟨rfl, _⟩ := h; rfl) | (obtain ⟨_, h⟩ := h))) fun cdv A outer sh H E W hr eW => ⟨_, (bd_cons (sd_set 1 sc_law_sum.nd (ed_tup (ad_cons ed_int (ad_cons ed_int ad_nil))))
    (bd_cons (sd_for PassesOwn.never rfl (id_list (ed_var 0)) (gd_name 2 sc_law_sum.nd) (bd_one (sd_set 1 sc_law_sum.nd (ec G_law_plus hr (by decide) (by rfl) (ad_cons (ed_var 1) (ad_cons (ed_var 2) ad_nil))))))
    (bd_one (sd_ret (ed_var 1))))), ?_⟩
  rintro ds Q EQ ⟨l, k, rfl, hB, hk, q⟩
  walk_at "rd"
  refine sum_read (k := k) (l := l) (fun e => ?_) (fun x t e R E' hx ht hk eR hR => ?_) l 0 1 _ (Rat.zero_add _) hB B.zero (by omega)
  · walk_at "rd"
    exact q
  · walk_at "rd"
    refine ⟨ht, hx.mono hk, ?_⟩
    walk_at "rd"
    subst eR
    exact hR
theorem ok_law_square (F : Fun K "_law_square" "_law_square" s_law_square f fd) (G_law_plus : Cal P w K mg base CX0 6 "_law_plus" (spP K S_law_plus)) (G_law_times : Cal P w K mg base CX0 6 "_law_times" (spP K S_law_times)) : FnOk P w K mg base CX0 7 f fd ["_law_spot"] (spP K S_law_square) := by
  refine fnP F sc_law_square (by intro ds Q E h; unfold S_law_square at h; repeat (first | (obtain ⟨rfl, _⟩ := h; rfl) | (obtain ⟨_, h⟩ := h))) fun cdv A outer sh H E W hr eW => ⟨_, (bd_one (sd_ret (ec G_law_plus hr (by decide) (by rfl) (ad_cons (ec G_law_times hr (by decide) (by rfl) (ad_cons (ed_ix (ed_var 0) ed_int) (ad_cons (ed_ix (ed_var 0) ed_int) ad_nil))) (ad_cons (ec G_law_times hr (by decide) (by rfl) (ad_cons (ed_ix (ed_var 0) ed_int) (ad_cons (ed_ix (ed_var 0) ed_int) ad_nil))) ad_nil))))), ?_⟩
  rintro ds Q EQ ⟨x, y, rfl, hx, hy, q⟩
  walk_at "rd"
  refine ⟨hx.mono (by decide), hx.mono (by decide), ?_⟩
  walk_at "rd"
  refine ⟨hy.mono (by decide), hy.mono (by decide), ?_⟩
  walk_at "rd"
  exact ⟨(hx.mul hx).mono (by decide), (hy.mul hy).mono (by decide), q⟩
end
end SA
end

section
set_option Elab.async false
set_option linter.all false
set_option maxRecDepth 100000
set_option maxHeartbeats 4000000

namespace SA
open PySem PySem.Spec PyProof.Rows L2 DL RM

structure Z (c : Nat) (r : Rat) : Prop where
  z : ∃ z : Int, r * 27720000000000 = z
  lo : -(c : Rat) ≤ r
  hi : r ≤ (c : Rat)
theorem Z.mono {c d : Nat} {r : Rat} (h : Z c r) (hc : c ≤ d) : Z d r := by
  have e : (c : Rat) ≤ (d : Rat) := by exact_mod_cast hc
  exact ⟨h.z, by have := h.lo; grind, by have := h.hi; grind⟩
theorem Z.add {c d : Nat} {a b : Rat} (ha : Z c a) (hb : Z d b) : Z (c + d) (a + b) := by
  obtain ⟨⟨x, hx⟩, l1, u1⟩ := ha
  obtain ⟨⟨y, hy⟩, l2, u2⟩ := hb
  refine ⟨⟨x + y, ?_⟩, ?_, ?_⟩
  · rw [Rat.intCast_add, ← hx, ← hy]; grind
  · rw [Rat.natCast_add]; grind
  · rw [Rat.natCast_add]; grind
theorem Z.neg {c : Nat} {a : Rat} (ha : Z c a) : Z c (-a) := by
  obtain ⟨⟨x, hx⟩, l1, u1⟩ := ha
  refine ⟨⟨-x, ?_⟩, ?_, ?_⟩
  · rw [Rat.intCast_neg, ← hx]; grind
  · grind
  · grind
theorem Z.sub {c d : Nat} {a b : Rat} (ha : Z c a) (hb : Z d b) : Z (c + d) (a - b) := by
  rw [Rat.sub_eq_add_neg]
  exact ha.add hb.neg
theorem Z.zero : Z 0 0 := ⟨⟨0, by grind⟩, by grind, by grind⟩
theorem Z.abs {c : Nat} {a : Rat} (ha : Z c a) : Z c (rabs a) := by
  unfold rabs
  split
  · exact ha.neg
  · exact ha
theorem Z.B {c : Nat} {r : Rat} (h : Z c r) (hc : c ≤ 1000000000000000) : B 100 r := by
  obtain ⟨⟨z, hz⟩, l, u⟩ := h
  have e : (c : Rat) ≤ ((1000000000000000 : Nat) : Rat) := by exact_mod_cast hc
  have e2 : ((1000000000000000 : Nat) : Rat) = 1000000000000000 := rfl
  rw [e2] at e
  have h1 : (z : Rat) ≤ ((27720000000000000000000000000 : Int) : Rat) := by
    have : ((27720000000000000000000000000 : Int) : Rat) = 27720000000000000000000000000 := rfl
    rw [this, ← hz]; grind
  have h2 : ((-27720000000000000000000000000 : Int) : Rat) ≤ (z : Rat) := by
    have : ((-27720000000000000000000000000 : Int) : Rat) = -27720000000000000000000000000 := rfl
    rw [this, ← hz]; grind
  have h1' := Rat.intCast_le_intCast.mp h1
  have h2' := Rat.intCast_le_intCast.mp h2
  have er : r = Rat.divInt z 27720000000000 := by
    rw [Rat.divInt_eq_div, ← hz]
    have : ((27720000000000 : Int) : Rat) = 27720000000000 := rfl
    rw [this]; grind
  rw [er]
  exact B.divInt (by decide) (by have : (2 : Nat) ^ 100 = 1267650600228229401496703205376 := by decide
                                 omega) (by decide)
theorem Z.of {p q : Int} {c : Nat} (hq : 0 < q) (hd : q ∣ 27720000000000) (hp : p.natAbs ≤ c * q.natAbs) : Z c (Rat.divInt p q) := by
  obtain ⟨k, hk⟩ := hd
  have hq0 : (q : Rat) ≠ 0 := fun z => by
    have := Rat.intCast_inj.mp (show ((q : Int) : Rat) = ((0 : Int) : Rat) from z)
    omega
  have hqp : (0 : Rat) < (q : Rat) := by exact_mod_cast hq
  have e : Rat.divInt p q * (q : Rat) = p := by
    rw [Rat.divInt_eq_div]; grind
  refine ⟨⟨p * k, ?_⟩, ?_, ?_⟩
  · have : (27720000000000 : Rat) = ((27720000000000 : Int) : Rat) := rfl
    rw [this, hk, Rat.intCast_mul, Rat.intCast_mul, ← Rat.mul_assoc, e]
  · have h : ((-(c * q) : Int) : Rat) ≤ (p : Rat) := Rat.intCast_le_intCast.mpr (by
      have : ((c * q.natAbs : Nat) : Int) = c * q := by rw [Int.natCast_mul]; congr 1; omega
      omega)
    rw [Rat.intCast_neg, Rat.intCast_mul, ← e] at h
    have h2 : (-(c : Rat)) * q ≤ Rat.divInt p q * q := by
      have : ((c : Int) : Rat) = (c : Rat) := rfl
      rw [this] at h; grind
    exact Rat.le_of_mul_le_mul_right h2 hqp
  · have h : (p : Rat) ≤ ((c * q : Int) : Rat) := Rat.intCast_le_intCast.mpr (by
      have : ((c * q.natAbs : Nat) : Int) = c * q := by rw [Int.natCast_mul]; congr 1; omega
      omega)
    rw [Rat.intCast_mul, ← e] at h
    have h2 : Rat.divInt p q * q ≤ (c : Rat) * q := by
      have : ((c : Int) : Rat) = (c : Rat) := rfl
      rw [this] at h; grind
    exact Rat.le_of_mul_le_mul_right h2 hqp
theorem Z.sum {c : Nat} : ∀ {l : List Rat}, (∀ r, r ∈ l → Z c r) → Z (l.length * c) l.sum
  | [], _ => by
    rw [List.sum_nil, List.length_nil, Nat.zero_mul]
    exact Z.zero
  | x :: l, h => by
    rw [List.sum_cons, List.length_cons, Nat.succ_mul, Nat.add_comm]
    exact (h x (List.mem_cons_self ..)).add (Z.sum fun r hr => h r (List.mem_cons_of_mem _ hr))
end SA
end

section
set_option Elab.async false
set_option linter.all false
set_option maxRecDepth 100000
set_option maxHeartbeats 4000000

namespace SA
open PySem PySem.Spec PyProof.Rows L2 DL RM
/-- host, mark, letter -/
abbrev Bar := Int × Rat × Int
abbrev Place := Int × Rat
def barD (b : Bar) : D := .tup [.int b.1, ratD b.2.1, .int b.2.2]
def barsD (bs : List Bar) : D := .tup (bs.map barD)
def placeD (p : Place) : D := .tup [.int p.1, ratD p.2]
def rowD (r : List Rat) : D := .tup (r.map ratD)
def dirD (u : Rat × Rat) : D := vecD u.1 u.2
def poseD (us : List (Rat × Rat)) : D := .tup (us.map dirD)
def armsD (bs : List Bar) (n : Nat) : D := .ins C_Arms ["bars", "letters"] [barsD bs, .int n]
def beltD (c lo hi : Rat) : D := .ins C_Belt ["centre", "low", "high"] [ratD c, ratD lo, ratD hi]
structure BarsOk (bs : List Bar) (n : Nat) : Prop where
  l1 : 1 ≤ bs.length
  l6 : bs.length ≤ 6
  n1 : 1 ≤ n
  n4 : n ≤ 4
  host : ∀ (i : Nat) (b : Bar), bs[i]? = some b → -1 ≤ b.1 ∧ b.1 < i
  mark2 : ∀ b, b ∈ bs → Z 2000002 b.2.1
  lett : ∀ b, b ∈ bs → 0 ≤ b.2.2 ∧ b.2.2 ≤ n
  all : ∀ k : Nat, 1 ≤ k → k ≤ n → ∃ b, b ∈ bs ∧ b.2.2 = k
theorem BarsOk.mark {bs : List Bar} {n : Nat} (h : BarsOk bs n) : ∀ b, b ∈ bs → Z 100000000 b.2.1 := fun b hb => (h.mark2 b hb).mono (by decide)
structure PlaceOk (bs : List Bar) (p : Place) : Prop where
  lo : -1 ≤ p.1
  hi : p.1 < bs.length
  mark : Z 100000000 p.2

def addAt (r : List Rat) (l : Nat) (m : Rat) : List Rat := r.set l (r.getD l 0 + m)
def rowGo (bs : List Bar) : Nat → Int → Rat → List Rat → List Rat
  | 0, _, _, r => r
  | f + 1, n, m, r => if n < 0 then addAt r 0 m else
    match bs[n.toNat]? with
    | none => r
    | some b => rowGo bs f b.1 b.2.1 (addAt r b.2.2.toNat m)
def rowOf (bs : List Bar) (n : Nat) (p : Place) : List Rat := rowGo bs (bs.length + 1) p.1 p.2 (List.replicate (n + 1) 0)
theorem addAt_len (r : List Rat) (l : Nat) (m : Rat) : (addAt r l m).length = r.length := List.length_set
theorem rowGo_len (bs : List Bar) : ∀ (f : Nat) (n : Int) (m : Rat) (r : List Rat), (rowGo bs f n m r).length = r.length
  | 0, _, _, _ => rfl
  | f + 1, n, m, r => by
    unfold rowGo
    split
    · exact addAt_len _ _ _
    · split
      · rfl
      · rw [rowGo_len bs f, addAt_len]
theorem rowOf_len (bs : List Bar) (n : Nat) (p : Place) : (rowOf bs n p).length = n + 1 := by
  unfold rowOf
  rw [rowGo_len, List.length_replicate]
theorem addAt_Z {c d : Nat} {r : List Rat} {l : Nat} {m : Rat} (h : ∀ x, x ∈ r → Z c x) (hm : Z d m) : ∀ x, x ∈ addAt r l m → Z (c + d) x := fun x hx => by
  unfold addAt at hx
  rcases List.mem_or_eq_of_mem_set hx with z | z
  · exact (h x z).mono (by omega)
  · rw [z]
    refine Z.add ?_ hm
    rw [List.getD_eq_getElem?_getD]
    cases q : r[l]? with
    | none => exact Z.zero.mono (by omega)
    | some y => exact h y (List.mem_of_getElem? q)
theorem rowGo_Z {bs : List Bar} {k : Nat} (hb : ∀ b, b ∈ bs → Z k b.2.1) : ∀ (f c : Nat) (n : Int) (m : Rat) (r : List Rat), Z k m → (∀ x, x ∈ r → Z c x) → ∀ x, x ∈ rowGo bs f n m r → Z (c + f * k) x
  | 0, c, n, m, r, _, h => fun x hx => (h x hx).mono (Nat.le_add_right ..)
  | f + 1, c, n, m, r, hm, h => fun x hx => by
    unfold rowGo at hx
    split at hx
    · exact (addAt_Z h hm x hx).mono (by rw [Nat.succ_mul]; omega)
    · split at hx
      · exact (h x hx).mono (Nat.le_add_right ..)
      · rename_i b e
        exact (rowGo_Z hb f _ _ _ _ (hb b (List.mem_of_getElem? e)) (addAt_Z h hm) x hx).mono (by rw [Nat.succ_mul]; omega)
theorem rowOf_Z {bs : List Bar} {n : Nat} {p : Place} (hb : BarsOk bs n) (hp : PlaceOk bs p) : ∀ x, x ∈ rowOf bs n p → Z 700000000 x := fun x hx => by
  refine (rowGo_Z hb.mark _ 0 _ _ _ hp.mark (fun y hy => ?_) x hx).mono ?_
  · rw [(List.mem_replicate.mp hy).2]; exact Z.zero
  · have := hb.l6; omega
theorem rowOf_Z2 {bs : List Bar} {n : Nat} {p : Place} (hb : BarsOk bs n) (hp : Z 2000002 p.2) : ∀ x, x ∈ rowOf bs n p → Z 14000014 x := fun x hx => by
  refine (rowGo_Z hb.mark2 _ 0 _ _ _ hp (fun y hy => ?_) x hx).mono ?_
  · rw [(List.mem_replicate.mp hy).2]; exact Z.zero
  · have := hb.l6; omega

def dot : List Rat → List Rat → Rat
  | a :: r, x :: xs => a * x + dot r xs
  | _, _ => 0
theorem dot_set (v : Rat) : ∀ (r xs : List Rat) (l : Nat), l < r.length → l < xs.length → dot (r.set l v) xs = dot r xs + (v - r.getD l 0) * xs.getD l 0
  | a :: r, x :: xs, 0, _, _ => by
    show v * x + dot r xs = a * x + dot r xs + (v - a) * x
    grind
  | a :: r, x :: xs, l + 1, h1, h2 => by
    show a * x + dot (r.set l v) xs = a * x + dot r xs + (v - r.getD l 0) * xs.getD l 0
    rw [dot_set v r xs l (by simpa using h1) (by simpa using h2)]
    grind
  | [], _, _, h, _ => absurd h (by simp)
  | _ :: _, [], _, _, h => absurd h (by simp)
theorem dot_addAt (r xs : List Rat) (l : Nat) (m : Rat) (h1 : l < r.length) (h2 : l < xs.length) : dot (addAt r l m) xs = dot r xs + m * xs.getD l 0 := by
  unfold addAt
  rw [dot_set _ r xs l h1 h2]
  grind
def standGo (bs : List Bar) (xs : List Rat) : Nat → Int → Rat → Rat → Rat
  | 0, _, _, a => a
  | f + 1, n, m, a => if n < 0 then a + m * xs.getD 0 0 else
    match bs[n.toNat]? with
    | none => a
    | some b => standGo bs xs f b.1 b.2.1 (a + m * xs.getD b.2.2.toNat 0)
theorem stand_dot {bs : List Bar} {xs : List Rat} {N : Nat} (hl : ∀ b, b ∈ bs → 0 ≤ b.2.2 ∧ b.2.2 ≤ N) (hx : xs.length = N + 1) : ∀ (f : Nat) (n : Int) (m : Rat) (r : List Rat), r.length = N + 1 → standGo bs xs f n m (dot r xs) = dot (rowGo bs f n m r) xs
  | 0, _, _, _, _ => rfl
  | f + 1, n, m, r, hr => by
    unfold standGo rowGo
    split
    · rw [dot_addAt r xs 0 m (by omega) (by omega)]
    · split
      · rfl
      · rename_i b e
        have := hl b (List.mem_of_getElem? e)
        rw [← dot_addAt r xs _ m (by omega) (by omega)]
        exact stand_dot hl hx f _ _ _ (by rw [addAt_len, hr])
theorem dot_zero : ∀ (n : Nat) (xs : List Rat), dot (List.replicate n 0) xs = 0
  | 0, _ => rfl
  | n + 1, [] => rfl
  | n + 1, x :: xs => by
    show 0 * x + dot (List.replicate n 0) xs = 0
    rw [dot_zero n xs]; grind
theorem stand_row {bs : List Bar} {xs : List Rat} {N : Nat} (hl : ∀ b, b ∈ bs → 0 ≤ b.2.2 ∧ b.2.2 ≤ N) (hx : xs.length = N + 1) (p : Place) : standGo bs xs (bs.length + 1) p.1 p.2 0 = dot (rowOf bs N p) xs := by
  have := stand_dot hl hx (bs.length + 1) p.1 p.2 (List.replicate (N + 1) 0) List.length_replicate
  rw [dot_zero] at this
  exact this

def lowOf (ss : List Rat) : Rat := ss.foldl (fun a s => if a < 2 * s - ss.sum then 2 * s - ss.sum else a) 0
structure IsLow (ss : List Rat) (h lo : Rat) : Prop where
  n : 0 ≤ lo
  b : ∀ s, s ∈ ss → 2 * s - h ≤ lo
  m : lo = 0 ∨ ∃ s, s ∈ ss ∧ lo = 2 * s - h
theorem IsLow.uniq {ss : List Rat} {h a b : Rat} (x : IsLow ss h a) (y : IsLow ss h b) : a = b := by
  have key : ∀ {a b : Rat}, IsLow ss h a → IsLow ss h b → a ≤ b := fun {a b} x y => by
    rcases x.m with z | ⟨s, hs, z⟩
    · rw [z]; exact y.n
    · rw [z]; exact y.b s hs
  exact Rat.le_antisymm (key x y) (key y x)
theorem low_go (h : Rat) : ∀ (ss : List Rat) (a : Rat), 0 ≤ a → 0 ≤ ss.foldl (fun a s => if a < 2 * s - h then 2 * s - h else a) a ∧ a ≤ ss.foldl (fun a s => if a < 2 * s - h then 2 * s - h else a) a ∧
    (∀ s, s ∈ ss → 2 * s - h ≤ ss.foldl (fun a s => if a < 2 * s - h then 2 * s - h else a) a) ∧ (ss.foldl (fun a s => if a < 2 * s - h then 2 * s - h else a) a = a ∨ ∃ s, s ∈ ss ∧ ss.foldl (fun a s => if a < 2 * s - h then 2 * s - h else a) a = 2 * s - h)
  | [], a, h0 => ⟨h0, Rat.le_refl, (fun s hs => by cases hs), .inl rfl⟩
  | s :: ss, a, h0 => by
    have h1 : 0 ≤ (if a < 2 * s - h then 2 * s - h else a) := by split <;> grind
    have h2 : a ≤ (if a < 2 * s - h then 2 * s - h else a) := by split <;> grind
    have h3 : 2 * s - h ≤ (if a < 2 * s - h then 2 * s - h else a) := by split <;> grind
    obtain ⟨x1, x2, x3, x4⟩ := low_go h ss _ h1
    rw [List.foldl_cons]
    refine ⟨x1, Rat.le_trans h2 x2, fun t ht => ?_, ?_⟩
    · rcases List.mem_cons.mp ht with rfl | z
      · exact Rat.le_trans h3 x2
      · exact x3 t z
    · rcases x4 with z | ⟨t, ht, z⟩
      · rw [z]
        split
        · exact .inr ⟨s, List.mem_cons_self .., rfl⟩
        · exact .inl rfl
      · exact .inr ⟨t, List.mem_cons_of_mem _ ht, z⟩
theorem lowOf_is (ss : List Rat) : IsLow ss ss.sum (lowOf ss) := by
  obtain ⟨x1, x2, x3, x4⟩ := low_go ss.sum ss 0 Rat.le_refl
  exact ⟨x1, x3, x4⟩
theorem low_max {ss : List Rat} {m : Rat} (hm : m ∈ ss) (hx : ∀ y, y ∈ ss → y ≤ m) : (if 0 < m + m - ss.sum then m + m - ss.sum else 0) = lowOf ss := by
  refine IsLow.uniq (h := ss.sum) ?_ (lowOf_is ss)
  refine ⟨by split <;> grind, fun s hs => ?_, ?_⟩
  · have := hx s hs
    split <;> grind
  · split
    · exact .inr ⟨m, hm, by grind⟩
    · exact .inl rfl
theorem lowOf_Z {ss : List Rat} {c : Nat} (h : ∀ s, s ∈ ss → Z c s) : Z (2 * c + ss.length * c) (lowOf ss) := by
  rcases (lowOf_is ss).m with z | ⟨s, hs, z⟩
  · rw [z]; exact Z.zero.mono (by omega)
  · rw [z]
    have : 2 * s = s + s := by grind
    rw [this]
    exact (((h s hs).add (h s hs)).sub (Z.sum h)).mono (by omega)
def absT (r : List Rat) : List Rat := r.tail.map rabs
def highOf (r : List Rat) : Rat := (absT r).sum
def loOf (r : List Rat) : Rat := lowOf (absT r)
def footOf (r : List Rat) : Rat := r.headD 0
def lowU (r : List Rat) : List (Rat × Rat) := r.tail.map fun c => (0, if 0 < c then -1 else 1)
def highU (r : List Rat) : List (Rat × Rat) := r.tail.map fun c => (0, if c < 0 then -1 else 1)
def subRow (a b : List Rat) : List Rat := List.zipWith (fun x y => x - y) a b
def inBelt (c lo hi x y : Rat) : Bool := !decide (x * x + (y - c) * (y - c) < lo * lo) && decide (x * x + (y - c) * (y - c) ≤ hi * hi)
/-- the two coordinates of a pose, the letter 0 ahead -/
def xsOf (us : List (Rat × Rat)) : List Rat := 0 :: us.map (·.1)
def ysOf (us : List (Rat × Rat)) : List Rat := 1 :: us.map (·.2)
theorem dot_low : ∀ (r : List Rat), dot r (r.map fun c => if 0 < c then -1 else 1) = -(r.map rabs).sum
  | [] => by
    show (0 : Rat) = -([] : List Rat).sum
    rw [List.sum_nil]; grind
  | c :: r => by
    show c * (if 0 < c then -1 else 1) + dot r (r.map fun c => if 0 < c then -1 else 1) = -((c :: r).map rabs).sum
    rw [dot_low r, List.map_cons, List.sum_cons]
    unfold rabs
    split <;> split <;> grind
theorem dot_high : ∀ (r : List Rat), dot r (r.map fun c => if c < 0 then -1 else 1) = (r.map rabs).sum
  | [] => rfl
  | c :: r => by
    show c * (if c < 0 then -1 else 1) + dot r (r.map fun c => if c < 0 then -1 else 1) = ((c :: r).map rabs).sum
    rw [dot_high r, List.map_cons, List.sum_cons]
    unfold rabs
    split <;> grind
theorem dot_lowU {r : List Rat} (h : r ≠ []) : dot r (ysOf (lowU r)) = footOf r - highOf r := by
  obtain ⟨a, r, rfl⟩ := List.exists_cons_of_ne_nil h
  unfold ysOf lowU footOf highOf absT
  rw [List.tail_cons, List.map_map]
  show a * 1 + dot r (r.map fun c => if 0 < c then -1 else 1) = a - (r.map rabs).sum
  rw [dot_low]; grind
theorem dot_highU {r : List Rat} (h : r ≠ []) : dot r (ysOf (highU r)) = footOf r + highOf r := by
  obtain ⟨a, r, rfl⟩ := List.exists_cons_of_ne_nil h
  unfold ysOf highU footOf highOf absT
  rw [List.tail_cons, List.map_map]
  show a * 1 + dot r (r.map fun c => if c < 0 then -1 else 1) = a + (r.map rabs).sum
  rw [dot_high]; grind
theorem dot_sub : ∀ (a b xs : List Rat), a.length = b.length → dot (subRow a b) xs = dot a xs - dot b xs
  | [], [], _, _ => by
    show (0 : Rat) = 0 - 0
    grind
  | x :: a, y :: b, [], _ => by
    show (0 : Rat) = 0 - 0
    grind
  | x :: a, y :: b, t :: xs, h => by
    show (x - y) * t + dot (subRow a b) xs = x * t + dot a xs - (y * t + dot b xs)
    rw [dot_sub a b xs (by simpa using h)]; grind
  | [], _ :: _, _, h => by cases h
  | _ :: _, [], _, h => by cases h
end SA
end

section
set_option Elab.async false
set_option linter.all false
set_option maxRecDepth 100000
set_option maxHeartbeats 4000000

namespace SA
open PySem PySem.Spec PyProof.Rows L2 DL RM
def Unit2 (u : Rat × Rat) : Prop := u.1 * u.1 + u.2 * u.2 = 1
theorem sq0 (a : Rat) : 0 ≤ a * a := by
  by_cases h : 0 ≤ a
  · exact Rat.mul_nonneg h h
  · have := Rat.mul_nonneg (show 0 ≤ -a by grind) (show 0 ≤ -a by grind)
    grind
theorem le_of_sq {t h : Rat} (h0 : 0 ≤ h) (e : t * t ≤ h * h) : t ≤ h := by
  by_cases c : t ≤ h
  · exact c
  · have := Rat.mul_pos (show 0 < t - h by grind) (show 0 < t + h by grind)
    grind
theorem sq_le {t h : Rat} (h0 : 0 ≤ t) (e : t ≤ h) : t * t ≤ h * h := by
  have := Rat.mul_nonneg (show 0 ≤ h - t by grind) (show 0 ≤ h + t by grind)
  grind
theorem sq_lt {t h : Rat} (h0 : 0 ≤ t) (e : t < h) : t * t < h * h := by
  have := Rat.mul_pos (show 0 < h - t by grind) (show 0 < h + t by grind)
  grind
theorem along {x y X Y h : Rat} (hu : x * x + y * y = 1) (h0 : 0 ≤ h) (hv : X * X + Y * Y ≤ h * h) : -h ≤ x * X + y * Y ∧ x * X + y * Y ≤ h := by
  have e : (x * X + y * Y) * (x * X + y * Y) + (x * Y - y * X) * (x * Y - y * X) = X * X + Y * Y := by
    have : (x * X + y * Y) * (x * X + y * Y) + (x * Y - y * X) * (x * Y - y * X) = (x * x + y * y) * (X * X + Y * Y) := by grind
    rw [this, hu]; grind
  have k := sq0 (x * Y - y * X)
  have l : (x * X + y * Y) * (x * X + y * Y) ≤ h * h := by grind
  refine ⟨?_, le_of_sq h0 l⟩
  have := le_of_sq (t := -(x * X + y * Y)) h0 (by grind)
  grind
theorem add_hi {x y X Y h c : Rat} (hu : x * x + y * y = 1) (h0 : 0 ≤ h) (hv : X * X + Y * Y ≤ h * h) : (c * x + X) * (c * x + X) + (c * y + Y) * (c * y + Y) ≤ (rabs c + h) * (rabs c + h) := by
  obtain ⟨a1, a2⟩ := along hu h0 hv
  have e : (c * x + X) * (c * x + X) + (c * y + Y) * (c * y + Y) = c * c * (x * x + y * y) + 2 * (c * (x * X + y * Y)) + (X * X + Y * Y) := by grind
  rw [e, hu]
  have s := rabs_sq c
  have e2 : (rabs c + h) * (rabs c + h) = c * c + 2 * (rabs c * h) + h * h := by grind
  rw [e2]
  have m : c * (x * X + y * Y) ≤ rabs c * h := by
    unfold rabs
    split
    · have := Rat.mul_nonneg (show 0 ≤ -c by grind) (show 0 ≤ h + (x * X + y * Y) by grind)
      grind
    · have := Rat.mul_nonneg (show 0 ≤ c by grind) (show 0 ≤ h - (x * X + y * Y) by grind)
      grind
  grind
theorem add_lo {x y X Y h c : Rat} (hu : x * x + y * y = 1) (h0 : 0 ≤ h) (hv : X * X + Y * Y ≤ h * h) (hc : 0 ≤ rabs c - h) : (rabs c - h) * (rabs c - h) ≤ (c * x + X) * (c * x + X) + (c * y + Y) * (c * y + Y) := by
  obtain ⟨a1, a2⟩ := along hu h0 hv
  have e : (c * x + X) * (c * x + X) + (c * y + Y) * (c * y + Y) = (c + (x * X + y * Y)) * (c + (x * X + y * Y)) + (x * Y - y * X) * (x * Y - y * X) := by
    have e1 : (c * x + X) * (c * x + X) + (c * y + Y) * (c * y + Y) = c * c * (x * x + y * y) + 2 * (c * (x * X + y * Y)) + (X * X + Y * Y) := by grind
    have e2 : (x * X + y * Y) * (x * X + y * Y) + (x * Y - y * X) * (x * Y - y * X) = X * X + Y * Y := by
      have : (x * X + y * Y) * (x * X + y * Y) + (x * Y - y * X) * (x * Y - y * X) = (x * x + y * y) * (X * X + Y * Y) := by grind
      rw [this, hu]; grind
    rw [e1, hu]; grind
  rw [e]
  have k := sq0 (x * Y - y * X)
  have l : (rabs c - h) * (rabs c - h) ≤ (c + (x * X + y * Y)) * (c + (x * X + y * Y)) := by
    unfold rabs at *
    split at hc
    · rename_i hn
      rw [if_pos hn]
      have := sq_le (t := -c - h) (h := -(c + (x * X + y * Y))) hc (by grind)
      grind
    · rename_i hn
      rw [if_neg hn]
      exact sq_le hc (by grind)
  grind
theorem abs_sum0 (r : List Rat) : 0 ≤ (r.map rabs).sum := by
  induction r with
  | nil => exact Rat.le_refl
  | cons c r ih =>
    rw [List.map_cons, List.sum_cons]
    have := rabs_nonneg c
    grind
theorem belt_hi : ∀ (r : List Rat) (us : List (Rat × Rat)), (∀ u, u ∈ us → Unit2 u) → dot r (us.map (·.1)) * dot r (us.map (·.1)) + dot r (us.map (·.2)) * dot r (us.map (·.2)) ≤ (r.map rabs).sum * (r.map rabs).sum
  | [], us, _ => by
    show (0 : Rat) * 0 + 0 * 0 ≤ ([] : List Rat).sum * ([] : List Rat).sum
    rw [List.sum_nil]; grind
  | c :: r, [], _ => by
    show (0 : Rat) * 0 + 0 * 0 ≤ _
    have := sq0 ((c :: r).map rabs).sum
    grind
  | c :: r, u :: us, h => by
    rw [List.map_cons (f := rabs), List.sum_cons]
    exact add_hi (h u (List.mem_cons_self ..)) (abs_sum0 r) (belt_hi r us fun v hv => h v (List.mem_cons_of_mem _ hv))
theorem abs_set : ∀ (r : List Rat) (l : Nat) (c : Rat), r[l]? = some c → ((r.set l 0).map rabs).sum = (r.map rabs).sum - rabs c
  | a :: r, 0, c, h => by
    cases h
    show rabs 0 + (r.map rabs).sum = rabs a + (r.map rabs).sum - rabs a
    have : rabs 0 = 0 := rfl
    rw [this]; grind
  | a :: r, l + 1, c, h => by
    show rabs a + ((r.set l 0).map rabs).sum = rabs a + (r.map rabs).sum - rabs c
    rw [abs_set r l c h]; grind
  | [], _, _, h => by cases h
theorem getD_of {α : Type} {l : List α} {i : Nat} {a d : α} (h : l[i]? = some a) : l.getD i d = a := by
  rw [List.getD_eq_getElem?_getD, h]; rfl
theorem belt_lo {r : List Rat} {us : List (Rat × Rat)} (hl : us.length = r.length) (h : ∀ u, u ∈ us → Unit2 u) : lowOf (r.map rabs) * lowOf (r.map rabs) ≤ dot r (us.map (·.1)) * dot r (us.map (·.1)) + dot r (us.map (·.2)) * dot r (us.map (·.2)) := by
  have il := lowOf_is (r.map rabs)
  have k1 := sq0 (dot r (us.map (·.1)))
  have k2 := sq0 (dot r (us.map (·.2)))
  rcases il.m with z | ⟨s, hs, z⟩
  · rw [z]; grind
  · obtain ⟨c, hc, rfl⟩ := List.mem_map.mp hs
    obtain ⟨l, hlt, hg⟩ := List.mem_iff_getElem.mp hc
    have hc' : r[l]? = some c := by rw [List.getElem?_eq_getElem hlt, hg]
    have hu : us[l]? = some us[l] := List.getElem?_eq_getElem (by omega)
    have hUU := belt_hi (r.set l 0) us h
    rw [abs_set r l c hc'] at hUU
    have hh0 := abs_sum0 (r.set l 0)
    rw [abs_set r l c hc'] at hh0
    have n := il.n
    rw [z] at n
    have e : ∀ xs : List Rat, xs.length = r.length → dot r xs = c * xs.getD l 0 + dot (r.set l 0) xs := fun xs hx => by
      rw [dot_set 0 r xs l hlt (by omega), getD_of hc']; grind
    have g1 : (us.map (·.1)).getD l 0 = us[l].1 := getD_of (by rw [List.getElem?_map, hu]; rfl)
    have g2 : (us.map (·.2)).getD l 0 = us[l].2 := getD_of (by rw [List.getElem?_map, hu]; rfl)
    have := add_lo (c := c) (h us[l] (List.getElem_mem _)) hh0 hUU (by grind)
    rw [z, e _ (by rw [List.length_map, hl]), e (us.map (·.2)) (by rw [List.length_map, hl]), g1, g2]
    have e3 : rabs c - ((r.map rabs).sum - rabs c) = 2 * rabs c - (r.map rabs).sum := by grind
    rw [e3] at this
    exact this
/-- a spot of a pose lies in the belt -/
theorem pose_in {r : List Rat} {us : List (Rat × Rat)} (hl : r.length = us.length + 1) (h : ∀ u, u ∈ us → Unit2 u) : inBelt (footOf r) (loOf r) (highOf r) (dot r (xsOf us)) (dot r (ysOf us)) = true := by
  obtain ⟨a, t, rfl⟩ : ∃ a t, r = a :: t := by
    cases r with
    | nil => simp at hl
    | cons a t => exact ⟨a, t, rfl⟩
  have hl' : us.length = t.length := by simpa using hl.symm
  have e1 : dot (a :: t) (xsOf us) = dot t (us.map (·.1)) := by
    show a * 0 + dot t (us.map (·.1)) = _
    grind
  have e2 : dot (a :: t) (ysOf us) - a = dot t (us.map (·.2)) := by
    show a * 1 + dot t (us.map (·.2)) - a = _
    grind
  unfold inBelt
  show (!decide (dot (a :: t) (xsOf us) * dot (a :: t) (xsOf us) + (dot (a :: t) (ysOf us) - a) * (dot (a :: t) (ysOf us) - a) < lowOf (t.map rabs) * lowOf (t.map rabs)) && decide (dot (a :: t) (xsOf us) * dot (a :: t) (xsOf us) + (dot (a :: t) (ysOf us) - a) * (dot (a :: t) (ysOf us) - a) ≤ (t.map rabs).sum * (t.map rabs).sum)) = true
  rw [e1, e2, decide_eq_true (belt_hi t us h), decide_eq_false (Rat.not_lt.mpr (belt_lo hl' h))]
  rfl
/-- a spot at a length from the foot, in any direction -/
theorem ray_in {c lo hi len x y : Rat} (hu : x * x + y * y = 1) (h0 : 0 ≤ len) (hlo : 0 ≤ lo) (hlh : 0 ≤ hi) : inBelt c lo hi (len * x) (c + len * y) = (decide (lo ≤ len) && decide (len ≤ hi)) := by
  unfold inBelt
  have e : len * x * (len * x) + (c + len * y - c) * (c + len * y - c) = len * len := by
    have : len * x * (len * x) + (c + len * y - c) * (c + len * y - c) = len * len * (x * x + y * y) := by grind
    rw [this, hu]; grind
  rw [e]
  congr 1
  · by_cases h : lo ≤ len
    · rw [decide_eq_true h, decide_eq_false (Rat.not_lt.mpr (sq_le hlo h))]; rfl
    · rw [decide_eq_false h, decide_eq_true (sq_lt h0 (by grind))]; rfl
  · by_cases h : len ≤ hi
    · rw [decide_eq_true h, decide_eq_true (sq_le h0 h)]
    · rw [decide_eq_false h, decide_eq_false]
      have := sq_lt hlh (show hi < len by grind)
      grind
theorem low_le_high (r : List Rat) : loOf r ≤ highOf r := by
  unfold loOf highOf
  have il := lowOf_is (absT r)
  have key : ∀ l : List Rat, ∀ c, c ∈ l → rabs c ≤ (l.map rabs).sum := fun l c hc => by
    induction l with
    | nil => cases hc
    | cons a l ih =>
      rw [List.map_cons, List.sum_cons]
      have := abs_sum0 l
      have := rabs_nonneg a
      rcases List.mem_cons.mp hc with rfl | z
      · grind
      · have := ih z; grind
  rcases il.m with z | ⟨s, hs, z⟩
  · rw [z]; exact abs_sum0 _
  · obtain ⟨c, hc, rfl⟩ := List.mem_map.mp hs
    have := key _ c hc
    rw [z]
    show 2 * rabs c - (r.tail.map rabs).sum ≤ (r.tail.map rabs).sum
    grind
theorem low0 (r : List Rat) : 0 ≤ loOf r := (lowOf_is _).n
theorem high0 (r : List Rat) : 0 ≤ highOf r := abs_sum0 _
/-- up turned by a half -/
def turned (t : Rat) : Rat × Rat := (-2 * t / (1 + t * t), (1 - t * t) / (1 + t * t))
theorem turned_unit (t : Rat) : Unit2 (turned t) := by
  unfold Unit2 turned
  have h : (1 + t * t) ≠ 0 := by have := sq0 t; grind
  show -2 * t / (1 + t * t) * (-2 * t / (1 + t * t)) + (1 - t * t) / (1 + t * t) * ((1 - t * t) / (1 + t * t)) = 1
  have e : ∀ a b d : Rat, d ≠ 0 → a * a + b * b = d * d → a / d * (a / d) + b / d * (b / d) = 1 := fun a b d hd hh => by grind
  exact e _ _ _ h (by grind)
end SA
end

section
set_option Elab.async false
set_option linter.all false
set_option maxRecDepth 100000
set_option maxHeartbeats 4000000

namespace SA
open PySem PySem.Spec PyProof.Rows L2 DL RM
def rowQ (x : D) (a b : Int) : Bool :=
  match itemsD x with
  | some xs => decide (a ≤ ((xs.length : Nat) : Int)) && decide (((xs.length : Nat) : Int) ≤ b)
  | none => false
def placeQ (x : D) (many : Int) : Bool :=
  match itemsD x with
  | some [a, b] => wholeQ a (some (-1)) (some (many - 1)) && ratioQ b
  | _ => false
/-- a place as an argument: one of these arms, or none of theirs -/
def PArg (bs : List Bar) (x : D) (q : Place → Prop) (e : Prop) : Prop :=
  (∃ p : Place, itemsD x = some [.int p.1, ratD p.2] ∧ p3 x = true ∧ PlaceOk bs p ∧ q p) ∨ (p3 x = true ∧ placeQ x bs.length = false ∧ e)
def SArg (s : D) (q : Rat → Rat → Prop) (e : Prop) : Prop :=
  (∃ a b : Rat, itemsD s = some [ratD a, ratD b] ∧ p3 s = true ∧ B 2000 a ∧ B 2000 b ∧ q a b) ∨ (p3 s = true ∧ spotQ s = false ∧ e)
def S_is_row : DSp := fun ds Q _ => ∃ x a b, ds = [x, .int a, .int b] ∧ p1 x = true ∧ Q (.bl (rowQ x a b))
def S_take_row : DSp := fun ds Q _ => ∃ r s : List Rat, ds = [rowD r, rowD s] ∧ r.length = s.length ∧ r.length ≤ 900 ∧ (∀ x, x ∈ r → B 4400 x) ∧ (∀ x, x ∈ s → B 4400 x) ∧ Q (rowD (subRow r s))
def S_is_place_form : DSp := fun ds Q _ => ∃ x many, ds = [x, .int many] ∧ p3 x = true ∧ Q (.bl (placeQ x many))
def S_check_place : DSp := fun ds Q E => ∃ bs n x, ds = [armsD bs n, x] ∧ bs.length ≤ 6 ∧ ((∃ xs, p3 x = true ∧ placeQ x bs.length = true ∧ itemsD x = some xs ∧ Q (.tup xs)) ∨ (p3 x = true ∧ placeQ x bs.length = false ∧ E C_BadPlace))
def S_bad_bar : DSp := fun ds Q _ => ∃ (i : Int) (b : Bar), ds = [.int i, barD b] ∧ -1 ≤ b.1 ∧ b.1 < i ∧ 0 ≤ b.2.2 ∧ b.2.2 ≤ 4 ∧ Q .non
def S_check_bars : DSp := fun ds Q _ => ∃ bs n, ds = [barsD bs] ∧ BarsOk bs n ∧ Q (barsD bs)
def S_Arms_init : DSp := fun ds Q _ => ∃ bs n, ds = [barsD bs] ∧ BarsOk bs n ∧ Q (armsD bs n)
def S_Belt_init : DSp := fun ds Q _ => ∃ c lo hi : Rat, ds = [ratD c, ratD lo, ratD hi] ∧ Q (beltD c lo hi)
def S_Arms_len : DSp := fun ds Q _ => ∃ bs n, ds = [armsD bs n] ∧ Q (.int ((bs.length : Nat) : Int))
def S_Arms_line_row : DSp := fun ds Q _ => ∃ bs n k m, ds = [armsD bs n, .int k, ratD m] ∧ BarsOk bs n ∧ PlaceOk bs (k, m) ∧ Q (rowD (rowOf bs n (k, m)))
def S_Arms_row_of : DSp := fun ds Q E => ∃ bs n x, ds = [armsD bs n, x] ∧ BarsOk bs n ∧ PArg bs x (fun p => Q (rowD (rowOf bs n p))) (E C_BadPlace)
def S_Arms_difference_row : DSp := fun ds Q E => ∃ bs n x y, ds = [armsD bs n, x, y] ∧ BarsOk bs n ∧ PArg bs x (fun p => PArg bs y (fun q => Q (rowD (subRow (rowOf bs n p) (rowOf bs n q)))) (E C_BadPlace)) (E C_BadPlace)
def Flat (us : List (Rat × Rat)) : Prop := ∀ u, u ∈ us → u.1 = 0 ∧ (u.2 = 1 ∨ u.2 = -1)
def S_spot_of : DSp := fun ds Q _ => ∃ us r, ds = [poseD us, rowD r] ∧ us.length = r.length ∧ r.length ≤ 6 ∧ Flat us ∧ (∀ x, x ∈ r → Z 10000000000 x) ∧ Q (vecD (dot r (us.map (·.1))) (dot r (us.map (·.2))))
def S_far_ends : DSp := fun ds Q _ => ∃ r : List Rat, ds = [rowD r] ∧ r ≠ [] ∧ r.length ≤ 6 ∧ (∀ x, x ∈ r → Z 10000000000 x) ∧ Q (.tup [ratD (lowOf (r.map rabs)), ratD (r.map rabs).sum])
def S_lowest_flat : DSp := fun ds Q _ => ∃ r : List Rat, ds = [rowD r] ∧ r ≠ [] ∧ r.length ≤ 6 ∧ Q (poseD (lowU r))
def S_highest_flat : DSp := fun ds Q _ => ∃ r : List Rat, ds = [rowD r] ∧ r ≠ [] ∧ r.length ≤ 6 ∧ Q (poseD (highU r))
def S_reach_of : DSp := fun ds Q _ => ∃ r : List Rat, ds = [rowD r] ∧ r ≠ [] ∧ r.length ≤ 6 ∧ (∀ x, x ∈ r → Z 10000000000 x) ∧ Q (ratD (highOf r))
def S_Belt_eq : DSp := fun ds Q _ => ∃ a b c a' b' c' : Rat, ds = [beltD a b c, beltD a' b' c'] ∧ Q (.bl (decide (a = a') && (decide (b = b') && decide (c = c'))))
def S_Belt_contains : DSp := fun ds Q _ => ∃ c lo hi s, ds = [beltD c lo hi, s] ∧ B 100 c ∧ B 100 lo ∧ B 100 hi ∧ SArg s (fun x y => Q (.bl (inBelt c lo hi x y))) (Q (.bl false))
def S_check_spot : DSp := fun ds Q E => ∃ s, ds = [s] ∧ ((∃ xs, p3 s = true ∧ spotQ s = true ∧ itemsD s = some xs ∧ Q (.tup xs)) ∨ (p3 s = true ∧ spotQ s = false ∧ E C_BadSpot))
def S_below_pose : DSp := fun ds Q E => ∃ bs n x y, ds = [armsD bs n, x, y] ∧ BarsOk bs n ∧ PArg bs x (fun p => PArg bs y (fun q =>
  Q (if footOf (subRow (rowOf bs n p) (rowOf bs n q)) < highOf (subRow (rowOf bs n p) (rowOf bs n q)) then poseD (lowU (subRow (rowOf bs n p) (rowOf bs n q))) else .non)) (E C_BadPlace)) (E C_BadPlace)
def S_heights_of : DSp := fun ds Q E => ∃ bs n x, ds = [armsD bs n, x] ∧ BarsOk bs n ∧ PArg bs x (fun p => Q (rowD [footOf (rowOf bs n p) - highOf (rowOf bs n p), footOf (rowOf bs n p) + highOf (rowOf bs n p)])) (E C_BadPlace)
def S_height_poses : DSp := fun ds Q E => ∃ bs n x, ds = [armsD bs n, x] ∧ BarsOk bs n ∧ PArg bs x (fun p => Q (.tup [poseD (lowU (rowOf bs n p)), poseD (highU (rowOf bs n p))])) (E C_BadPlace)
def S_belt_of : DSp := fun ds Q E => ∃ bs n x, ds = [armsD bs n, x] ∧ BarsOk bs n ∧ PArg bs x (fun p => Q (beltD (footOf (rowOf bs n p)) (loOf (rowOf bs n p)) (highOf (rowOf bs n p)))) (E C_BadPlace)
/-- can_come_to may raise two things: what it tells of is one at a time -/
def S_can_come_to : DSp := fun ds Q E => ∃ bs n x s, ds = [armsD bs n, x, s] ∧ BarsOk bs n ∧ PArg bs x (fun p => SArg s (fun a b => Q (.bl (inBelt (footOf (rowOf bs n p)) (loOf (rowOf bs n p)) (highOf (rowOf bs n p)) a b))) (E C_BadSpot)) (E C_BadPlace)

def S_law_most : DSp := fun ds Q _ => ∃ bs n, ds = [barsD bs] ∧ BarsOk bs n ∧ Q (.int ((n : Nat) : Int))
def S_law_row : DSp := fun ds Q _ => ∃ bs n p, ds = [barsD bs, placeD p] ∧ BarsOk bs n ∧ PlaceOk bs p ∧ Q (rowD (rowOf bs n p))
def S_law_apart : DSp := fun ds Q _ => ∃ bs n p q, ds = [barsD bs, placeD p, placeD q] ∧ BarsOk bs n ∧ PlaceOk bs p ∧ PlaceOk bs q ∧ Q (rowD (subRow (rowOf bs n p) (rowOf bs n q)))
def halfD : Option Rat → D
  | none => .non
  | some t => ratD t
def dirOf : Option Rat → Rat × Rat
  | none => (0, -1)
  | some t => turned t
def S_law_direction : DSp := fun ds Q _ => ∃ h : Option Rat, ds = [halfD h] ∧ (∀ t, h = some t → B 20 t) ∧ Q (dirD (dirOf h))
def S_law_stand : DSp := fun ds Q _ => ∃ bs n us p, ds = [barsD bs, poseD us, placeD p] ∧ BarsOk bs n ∧ PlaceOk bs p ∧ us.length = n ∧ (∀ u, u ∈ us → B 100 u.1 ∧ B 100 u.2) ∧ Q (vecD (dot (rowOf bs n p) (xsOf us)) (dot (rowOf bs n p) (ysOf us)))
def S_law_same : DSp := fun ds Q _ => ∃ a : Rat, ds = [ratD a, ratD a] ∧ Q (.bl true)
def S_law_same_row : DSp := fun ds Q _ => ∃ r : List Rat, ds = [rowD r, rowD r] ∧ r.length ≤ 900 ∧ Q (.bl true)
def S_law_same_rows : DSp := fun ds Q _ => ∃ us : List (Rat × Rat), ds = [poseD us, poseD us] ∧ us.length ≤ 900 ∧ Q (.bl true)
def S_law_truth : DSp := fun ds Q _ => ∃ a b : Bool, ds = [.bl a, .bl b] ∧ Q (.bl (decide (a = b)))
def S_law_is_pose : DSp := fun ds Q _ => ∃ us : List (Rat × Rat), ds = [poseD us, .int ((us.length : Nat) : Int)] ∧ us.length ≤ 900 ∧ (∀ u, u ∈ us → Unit2 u ∧ B 100 u.1 ∧ B 100 u.2) ∧ Q (.bl true)
def S_law_flat : DSp := fun ds Q _ => ∃ ss : List Int, ds = [.lst (ss.map D.int)] ∧ ss.length ≤ 900 ∧ Q (poseD (ss.map fun s : Int => ((0 : Rat), ((s : Int) : Rat))))
def S_law_ends : DSp := fun ds Q _ => ∃ r : List Rat, ds = [rowD r] ∧ r ≠ [] ∧ r.length ≤ 6 ∧ (∀ x, x ∈ r → Z 10000000000 x) ∧ Q (.tup [ratD (loOf r), ratD (highOf r)])
end SA
end

section
set_option Elab.async false
set_option linter.all false
set_option maxRecDepth 100000
set_option maxHeartbeats 4000000
namespace SA
open PySem PySem.Spec PyProof.Rows L2 DL RM
local macro_rules | `(tactic| walk_at "rd") => `(tactic| repeat (first | refine ⟨_, rfl, ?_⟩ | refine ⟨rfl, ?_⟩ | refine ⟨_, _, rfl, ?_⟩ | refine ⟨_, _, _, rfl, rfl, ?_⟩ | refine ⟨_, _, _, rfl, ?_⟩ | refine iteT ?_ | refine iteF ?_))
section
variable {P : Program} {w : World} {K : PySem.W.Frag} {mg : Str → Option Value} {base : Heap} {f : Addr} {fd : FuncData}
theorem ok_is_row (F : Fun K "is_row" "is_row" s_is_row f fd) (T : Glob mg) : FnOk P w K mg base CX0 4 f fd ["thing", "least", "most"] (spP K S_is_row) := by
  refine fnP F sc_is_row (by intro ds Q E h; unfold S_is_row at h; repeat (first | (obtain ⟨rfl, _⟩ := h; rfl) | (obtain ⟨_, h⟩ := h))) fun cdv A outer sh H E W hr eW => ⟨_, (bd_one (sd_ret (ed_and (ed_isSeq (by rfl) T.n_isinstance (by rfl) T.n_list (by rfl) T.n_tuple (ed_var 0)) (ed_one (ed_chain op_le op_le (ed_var 1) (ed_cb call_len_seq sim_len (by rfl) T.n_len (by decide +kernel) (ad_cons (ed_var 0) ad_nil)) (ed_var 2)))))), ?_⟩
  rintro ds Q EQ ⟨x, a, b, rfl, hp, q⟩
  have key : ∀ xs : List D, a ≤ ((xs.length : Nat) : Int) → (decide (a ≤ ((xs.length : Nat) : Int)) && decide (((xs.length : Nat) : Int) ≤ b)) = decide (((xs.length : Nat) : Int) ≤ b) := fun xs c => by
    rw [decide_eq_true c]; rfl
  have key2 : ∀ xs : List D, ¬ a ≤ ((xs.length : Nat) : Int) → (decide (a ≤ ((xs.length : Nat) : Int)) && decide (((xs.length : Nat) : Int) ≤ b)) = false := fun xs c => by
    rw [decide_eq_false c]; rfl
  cases x with
  | ins _ _ _ => cases hp
  | tup xs =>
    walk_at "rd"
    have q' : Q (.bl (decide (a ≤ ((xs.length : Nat) : Int)) && decide (((xs.length : Nat) : Int) ≤ b))) := q
    refine ifB (fun c => ?_) (fun c => ?_)
    · rw [key xs c] at q'; walk_at "rd"; exact q'
    · rw [key2 xs c] at q'; exact q'
  | lst xs =>
    walk_at "rd"
    have q' : Q (.bl (decide (a ≤ ((xs.length : Nat) : Int)) && decide (((xs.length : Nat) : Int) ≤ b))) := q
    refine ifB (fun c => ?_) (fun c => ?_)
    · rw [key xs c] at q'; walk_at "rd"; exact q'
    · rw [key2 xs c] at q'; exact q'
  | _ => walk_at "rd"; exact q
theorem zip_map (r s : List Rat) : ((r.map ratD).zip (s.map ratD)).map (fun p => D.tup [p.1, p.2]) = (r.zip s).map fun p => D.tup [ratD p.1, ratD p.2] := by
  rw [List.zip_map, List.map_map]; rfl
theorem subRow_zip (r s : List Rat) : (subRow r s).map ratD = (r.zip s).map fun p => ratD (p.1 - p.2) := by
  unfold subRow
  rw [List.map_zipWith, List.zip, List.map_zipWith]
theorem ok_take_row (F : Fun K "take_row" "take_row" s_take_row f fd) (G_minus : Cal P w K mg base CX0 5 "minus" (spP K S_minus)) (T : Glob mg) : FnOk P w K mg base CX0 6 f fd ["one", "other"] (spP K S_take_row) := by
  refine fnP F sc_take_row (by intro ds Q E h; unfold S_take_row at h; repeat (first | (obtain ⟨rfl, _⟩ := h; rfl) | (obtain ⟨_, h⟩ := h))) fun cdv A outer sh H E W hr eW => ⟨_, (bd_one (sd_ret (ed_ct call_tuple_of sim_tuple (by rfl) T.n_tuple (by decide +kernel) (ad_cons (ed_frz (eo_lc rfl sc_take_row.nd (id_zip (by rfl) T.n_zip (ad_cons (ed_var 0) (ad_cons (ed_var 1) ad_nil))) (own := [("left", 2), ("right", 3)]) (blk_of (N := N_take_row) (sc := defScope s_take_row)) (tg2 2 3 (by decide)) (fun _ _ _ _ _ => pg_tup rfl (pgs_cons (pg_name (i := 2) sc_take_row.nd rfl (Or.inl rfl) (.inr rfl)) (pgs_cons (pg_name (i := 3) sc_take_row.nd rfl (Or.inl rfl) (.inr rfl)) pgs_nil))) (fun _ _ _ _ _ => pts_yes) (fun _ _ _ _ _ => (ec G_minus hr (by decide) (by rfl) (ad_cons (ed_var 2) (ad_cons (ed_var 3) ad_nil)))))) ad_nil)))), ?_⟩
  rintro ds Q EQ ⟨r, s, rfl, hl, h9, hr, hs, q⟩
  walk_at "rd"
  refine ⟨by rw [List.length_map, List.length_map, hl], ?_⟩
  walk_at "rd"
  rw [zip_map]
  refine compL_map (fun p : Rat × Rat => D.tup [ratD p.1, ratD p.2]) (fun p => ratD (p.1 - p.2)) (r.zip s) [] (by rw [List.length_zip, List.length_nil]; omega) (fun p hp => ⟨⟨_, _, rfl⟩, fun k hk => ?_⟩) ?_
  · walk_at "rd"
    exact ⟨hr _ (List.of_mem_zip hp).1, hs _ (List.of_mem_zip hp).2, hk⟩
  · walk_at "rd"
    unfold rowD at q
    rw [subRow_zip] at q
    exact q
theorem ok_is_place_form (F : Fun K "is_place_form" "is_place_form" s_is_place_form f fd) (G_MAST : Glv K mg "MAST" (.int (-1))) (G_is_ratio : Cal P w K mg base CX0 5 "is_ratio" (spP K S_is_ratio)) (G_is_row : Cal P w K mg base CX0 4 "is_row" (spP K S_is_row)) (G_is_whole : Cal P w K mg base CX0 4 "is_whole" (spP K S_is_whole)) : FnOk P w K mg base CX0 6 f fd ["thing", "many"] (spP K S_is_place_form) := by
  refine fnP F sc_is_place_form (by intro ds Q E h; unfold S_is_place_form at h; repeat (first | (obtain ⟨rfl, _⟩ := h; rfl) | (obtain ⟨_, h⟩ := h))) fun cdv A outer sh H E W hr eW => ⟨_, (bd_cons (sd_if (td_not (td_val (ec G_is_row hr (by decide) (by rfl) (ad_cons (ed_var 0) (ad_cons ed_int (ad_cons ed_int ad_nil)))))) (bd_one (sd_ret ed_bl)) bd_nil)
    (bd_one (sd_ret (ed_and (ec G_is_whole hr (by decide) (by rfl) (ad_cons (ed_ix (ed_var 0) ed_int) (ad_cons (eg G_MAST (by rfl)) (ad_cons (ed_sub (ed_var 1) ed_int) ad_nil)))) (ed_one (ec G_is_ratio hr (by decide) (by rfl) (ad_cons (ed_ix (ed_var 0) ed_int) ad_nil))))))), ?_⟩
  rintro ds Q EQ ⟨x, many, rfl, hp, q⟩
  have h3 : p1 x = true := p1_of2 (p2_of3 hp)
  walk_at "rd"
  refine ⟨h3, ?_⟩
  walk_at "rd"
  have bad : rowQ x 2 2 = false → placeQ x many = false := fun h => by
    unfold rowQ at h
    unfold placeQ
    split at h
    · rename_i xs e
      rw [e]
      match xs, h with
      | [], _ => rfl
      | [a], _ => rfl
      | [a, b], h => cases h
      | a :: b :: c :: r, _ => rfl
    · rename_i e
      rw [e]
  have good : rowQ x 2 2 = true → ∃ a b, itemsD x = some [a, b] ∧ p2 a = true ∧ p2 b = true ∧ placeQ x many = (wholeQ a (some (-1)) (some (many - 1)) && ratioQ b) := fun h => by
    unfold rowQ at h
    split at h
    · rename_i xs e
      have hl : xs.length = 2 := by
        rw [Bool.and_eq_true, decide_eq_true_eq, decide_eq_true_eq] at h
        omega
      match xs, hl with
      | [a, b], _ =>
        have hpp : [a, b].all p2 = true := by
          rcases itemsD_inv e with rfl | rfl
          · exact hp
          · exact hp
        refine ⟨a, b, e, (all2 hpp).1, (all2 hpp).2, ?_⟩
        unfold placeQ; rw [e]
    · cases h
  refine ifb (fun c => ?_) (fun c => ?_)
  · have c' : rowQ x 2 2 = false := by simpa using c
    rw [bad c'] at q
    walk_at "rd"
    exact q
  · have c' : rowQ x 2 2 = true := by simpa using c
    obtain ⟨a, b, e, ha, hb, eq⟩ := good c'
    rw [eq] at q
    walk_at "rd"
    refine ⟨_, e, ?_⟩
    walk_at "rd"
    refine ⟨a, some (-1), some (many - 1), rfl, p1_of2 ha, ?_⟩
    walk_at "rd"
    refine ifb (fun c1 => ?_) (fun c1 => ?_)
    · rw [c1] at q
      walk_at "rd"
      refine ⟨_, e, ?_⟩
      walk_at "rd"
      exact ⟨hb, q⟩
    · rw [c1] at q
      exact q
theorem ok_bad_bar (F : Fun K "bad_bar" "bad_bar" s_bad_bar f fd) (G_MAST : Glv K mg "MAST" (.int (-1))) (G_MOST_LETTERS : Glv K mg "MOST_LETTERS" (.int 4)) (G_is_ratio : Cal P w K mg base CX0 5 "is_ratio" (spP K S_is_ratio)) (G_is_row : Cal P w K mg base CX0 4 "is_row" (spP K S_is_row)) (G_is_whole : Cal P w K mg base CX0 4 "is_whole" (spP K S_is_whole)) : FnOk P w K mg base CX0 6 f fd ["number", "bar"] (spP K S_bad_bar) := by
  refine fnP F sc_bad_bar (by intro ds Q E h; unfold S_bad_bar at h; repeat (first | (obtain ⟨rfl, _⟩ := h; rfl) | (obtain ⟨_, h⟩ := h))) fun cdv A outer sh H E W hr eW => ⟨_, (bd_cons (sd_if (td_not (td_val (ec G_is_row hr (by decide) (by rfl) (ad_cons (ed_var 1) (ad_cons ed_int (ad_cons ed_int ad_nil)))))) (bd_one (sd_ret ed_str)) bd_nil)
    (bd_cons (sd_if (td_not (td_val (ec G_is_whole hr (by decide) (by rfl) (ad_cons (ed_ix (ed_var 1) ed_int) (ad_cons (eg G_MAST (by rfl)) (ad_cons (ed_sub (ed_var 0) ed_int) ad_nil)))))) (bd_one (sd_ret ed_str)) bd_nil)
    (bd_cons (sd_if (td_not (td_val (ec G_is_ratio hr (by decide) (by rfl) (ad_cons (ed_ix (ed_var 1) ed_int) ad_nil)))) (bd_one (sd_ret ed_str)) bd_nil)
    (bd_cons (sd_if (td_not (td_val (ec G_is_whole hr (by decide) (by rfl) (ad_cons (ed_ix (ed_var 1) ed_int) (ad_cons ed_int (ad_cons (eg G_MOST_LETTERS (by rfl)) ad_nil)))))) (bd_one (sd_ret ed_str)) bd_nil)
    (bd_one (sd_ret ed_non)))))), ?_⟩
  rintro ds Q EQ ⟨i, b, rfl, h1, h2, h3, h4, q⟩
  walk_at "rd"
  refine ⟨.int b.1, some (-1), some (i - 1), rfl, rfl, ?_⟩
  have e1 : wholeQ (.int b.1) (some (-1)) (some (i - 1)) = true := by simp [wholeQ]; omega
  rw [e1]
  walk_at "rd"
  rw [ratioQ_rat]
  walk_at "rd"
  refine ⟨.int b.2.2, some 0, some 4, rfl, rfl, ?_⟩
  have e2 : wholeQ (.int b.2.2) (some 0) (some 4) = true := by simp [wholeQ]; omega
  rw [e2]
  walk_at "rd"
  exact q
theorem ok_Arms_len (F : Fun K "__len__" "Arms.__len__" s_Arms_len f fd) (T : Glob mg) (c_Arms : Cls K C_Arms) (na_bars : NoAttr K C_Arms "bars") : FnOk P w K mg base CX0 4 f fd ["self"] (spP K S_Arms_len) := by
  refine fnP F sc_Arms_len (by intro ds Q E h; unfold S_Arms_len at h; repeat (first | (obtain ⟨rfl, _⟩ := h; rfl) | (obtain ⟨_, h⟩ := h))) fun cdv A outer sh H E W hr eW => ⟨_, (bd_one (sd_ret (ed_cb call_len_seq sim_len (by rfl) T.n_len (by decide +kernel) (ad_cons (ed_fld (ed_var 0) c_Arms na_bars) ad_nil)))), ?_⟩
  rintro ds Q EQ ⟨bs, n, rfl, q⟩
  walk_at "rd"
  rw [List.length_map]
  exact q
end
end SA
end

section
set_option Elab.async false
set_option linter.all false
set_option maxRecDepth 100000
set_option maxHeartbeats 4000000
namespace SA
open PySem PySem.Spec PyProof.Rows L2 DL RM
local macro_rules | `(tactic| walk_at "rd") => `(tactic| repeat (first | refine ⟨_, rfl, ?_⟩ | refine ⟨rfl, ?_⟩ | refine ⟨_, _, rfl, ?_⟩ | refine ⟨_, _, _, rfl, rfl, ?_⟩ | refine ⟨_, _, _, rfl, ?_⟩ | refine iteT ?_ | refine iteF ?_))
section
variable {P : Program} {w : World} {K : PySem.W.Frag} {mg : Str → Option Value} {base : Heap} {f : Addr} {fd : FuncData}
theorem addAt_map {r : List Rat} {l : Nat} {v m : Rat} (h : r[l]? = some v) : (r.map ratD).set l (ratD (v + m)) = (addAt r l m).map ratD := by
  unfold addAt
  rw [getD_of h, List.map_set]
theorem rep_map (n : Nat) (x : Rat) : (List.replicate n [ratD x]).flatten = (List.replicate n x).map ratD := by
  induction n with
  | zero => rfl
  | succ n ih => rw [List.replicate_succ, List.flatten_cons, ih, List.replicate_succ]; rfl
theorem bar_at {bs : List Bar} {i : Int} {b : Bar} (h0 : 0 ≤ i) (h : bs[i.toNat]? = some b) : atI (bs.map barD) i = some (barD b) :=
  (atI_of (n := i.toNat) (by omega)).trans (by rw [List.getElem?_map, h]; rfl)
theorem row_at {r : List Rat} {i : Int} {v : Rat} (h0 : 0 ≤ i) (h : r[i.toNat]? = some v) : atI (r.map ratD) i = some (ratD v) :=
  (atI_of (n := i.toNat) (by omega)).trans (by rw [List.getElem?_map, h]; rfl)
theorem at_some {α : Type} {l : List α} {i : Nat} (h : i < l.length) : ∃ a, l[i]? = some a := ⟨l[i], List.getElem?_eq_getElem h⟩
theorem ok_Arms_line_row (F : Fun K "line_row" "Arms.line_row" s_Arms_line_row f fd) (G_ZERO : Glv K mg "ZERO" (ratD 0)) (G_plus : Cal P w K mg base CX0 5 "plus" (spP K S_plus)) (T : Glob mg) (c_Arms : Cls K C_Arms) (na_bars : NoAttr K C_Arms "bars") (na_letters : NoAttr K C_Arms "letters") : FnOk P w K mg base CX0 6 f fd ["self", "number", "mark"] (spP K S_Arms_line_row) := by
  refine fnP F sc_Arms_line_row (by intro ds Q E h; unfold S_Arms_line_row at h; repeat (first | (obtain ⟨rfl, _⟩ := h; rfl) | (obtain ⟨_, h⟩ := h))) fun cdv A outer sh H E W hr eW => ⟨_, (bd_cons (sd_setO 3 sc_Arms_line_row.nd (eo_rep (eo_lst (ad_cons (eg G_ZERO (by rfl)) ad_nil)) (ed_add (ed_fld (ed_var 0) c_Arms na_letters) ed_int)))
    (bd_cons (sd_while PassesOwn.never (td_ge (ed_var 1) ed_int) (bd_cons (sd_asg (ed_ix (ed_fld (ed_var 0) c_Arms na_bars) (ed_var 1)) (gd_tup rfl (gds_cons (gd_name 4 sc_Arms_line_row.nd) (gds_cons (gd_name 5 sc_Arms_line_row.nd) (gds_cons (gd_name 6 sc_Arms_line_row.nd) gds_nil)))))
    (bd_cons (sd_asg (ec G_plus hr (by decide) (by rfl) (ad_cons (ed_ixO 3 (ed_var 6)) (ad_cons (ed_var 2) ad_nil))) (gd_sub 3 (ed_var 6)))
    (bd_one (sd_par 1 2 rfl sc_Arms_line_row.nd (ad_cons (ed_var 4) (ad_cons (ed_var 5) ad_nil)))))))
    (bd_cons (sd_asg (ec G_plus hr (by decide) (by rfl) (ad_cons (ed_ixO 3 ed_int) (ad_cons (ed_var 2) ad_nil))) (gd_sub 3 ed_int))
    (bd_one (sd_fz 3 (sd_ret (ed_ct call_tuple_of sim_tuple (by rfl) T.n_tuple (by decide +kernel) (ad_cons (ed_var 3) ad_nil)))))))), ?_⟩
  rintro ds Q EQ ⟨bs, n, k, m, rfl, hb, hp, q⟩
  have h4 := hb.n4
  have h6 := hb.l6
  walk_at "rd"
  refine ⟨show (0 : Int) ≤ ((n : Nat) : Int) + 1 by omega, show ((n : Nat) : Int) + 1 < 1000 by omega, by decide, ?_⟩
  dsimp only
  rw [show (((n : Nat) : Int) + 1).toNat = n + 1 by omega, rep_map]
  walk_at "rd"
  refine ⟨fun ρ => ∃ (k' : Int) (m' : Rat) (r : List Rat) (f c : Nat) (e4 e5 e6 : Option Sl), ρ = [some (.d (armsD bs n)), some (.d (.int k')), some (.d (ratD m')), some (.own (r.map ratD)), e4, e5, e6] ∧
      r.length = n + 1 ∧ rowGo bs f k' m' r = rowOf bs n (k, m) ∧ k' + 2 ≤ f ∧ -1 ≤ k' ∧ k' < bs.length ∧ Z 100000000 m' ∧ (∀ x, x ∈ r → Z c x) ∧ c + f * 100000000 ≤ 700000000,
    fun ρ => match ρ[1]? with | some (some (Sl.d (.int i))) => (i + 1).toNat | _ => 0,
    ⟨k, m, List.replicate (n + 1) 0, bs.length + 1, 0, _, _, _, rfl, List.length_replicate, rfl, by have := hp.hi; omega, hp.lo, hp.hi, hp.mark, fun x hx => by rw [(List.mem_replicate.mp hx).2]; exact Z.zero, by omega⟩, ?_⟩
  rintro ρ ⟨k', m', r, f, c, e4, e5, e6, rfl, hr, hg, hf, hk, hk2, hm, hz, hc⟩
  obtain ⟨f, rfl⟩ : ∃ f', f = f' + 1 := ⟨f - 1, by omega⟩
  walk_at "rd"
  refine ifB (fun hn => ?_) (fun hn => ?_)
  · obtain ⟨b, hbk⟩ := at_some (l := bs) (i := k'.toNat) (by omega)
    have hbm := List.mem_of_getElem? hbk
    obtain ⟨h1, h2⟩ := hb.host _ _ hbk
    obtain ⟨h3, h5⟩ := hb.lett b hbm
    obtain ⟨v, hv⟩ := at_some (l := r) (i := b.2.2.toNat) (by omega)
    walk_at "rd"
    refine ⟨_, bar_at (by omega) hbk, ?_⟩
    walk_at "rd"
    refine ⟨_, row_at h3 hv, ?_⟩
    walk_at "rd"
    refine ⟨((hz v (List.mem_of_getElem? hv)).B (by omega)).mono (by decide), (hm.B (by decide)).mono (by decide), ?_⟩
    walk_at "rd"
    refine ⟨b.2.2.toNat, ixN_of (by omega) (by rw [List.length_map]; omega), ?_⟩
    rw [addAt_map hv]
    walk_at "rd"
    refine ⟨⟨b.1, b.2.1, addAt r b.2.2.toNat m', f, c + 100000000, _, _, _, rfl, by rw [addAt_len, hr], ?_, by omega, h1, by omega, hb.mark b hbm, addAt_Z hz hm, by omega⟩, ?_⟩
    · rw [← hg]
      unfold rowGo
      rw [if_neg (by omega), hbk]
      cases f <;> rfl
    · show (b.1 + 1).toNat < (k' + 1).toNat
      omega
  · obtain ⟨v, hv⟩ := at_some (l := r) (i := 0) (by omega)
    walk_at "rd"
    refine ⟨_, row_at (i := 0) (by decide) hv, ?_⟩
    walk_at "rd"
    refine ⟨((hz v (List.mem_of_getElem? hv)).B (by omega)).mono (by decide), (hm.B (by decide)).mono (by decide), ?_⟩
    walk_at "rd"
    refine ⟨0, ixN_of (n := 0) (by decide) (by rw [List.length_map]; omega), ?_⟩
    rw [addAt_map hv]
    walk_at "rd"
    have e : rowOf bs n (k, m) = addAt r 0 m' := by
      rw [← hg]
      unfold rowGo
      rw [if_pos (by omega)]
    rw [e] at q
    exact q
theorem ok_lowest_flat (F : Fun K "lowest_flat" "lowest_flat" s_lowest_flat f fd) (G_DOWN : Glv K mg "DOWN" (downD)) (G_UP : Glv K mg "UP" (upD)) (T : Glob mg) : FnOk P w K mg base CX0 4 f fd ["row"] (spP K S_lowest_flat) := by
  refine fnP F sc_lowest_flat (by intro ds Q E h; unfold S_lowest_flat at h; repeat (first | (obtain ⟨rfl, _⟩ := h; rfl) | (obtain ⟨_, h⟩ := h))) fun cdv A outer sh H E W hr eW => ⟨_, (bd_one (sd_ret (ed_ct call_tuple_of sim_tuple (by rfl) T.n_tuple (by decide +kernel) (ad_cons (ed_frz (eo_lc rfl sc_lowest_flat.nd (id_tup (ed_tail (ed_var 0))) (own := [("number", 1)]) (blk_of (N := N_lowest_flat) (sc := defScope s_lowest_flat)) (tg1 1) (fun _ _ _ _ _ => pg_name (i := 1) sc_lowest_flat.nd rfl (Or.inl rfl) (.inr rfl)) (fun _ _ _ _ _ => pts_yes) (fun _ _ _ _ _ => (ed_ifExp (td_gt (ed_ix (ed_var 1) ed_int) ed_int) (eg G_DOWN (by rfl)) (eg G_UP (by rfl)))))) ad_nil)))), ?_⟩
  rintro ds Q EQ ⟨r, rfl, hr, h6, q⟩
  obtain ⟨a, t, rfl⟩ := List.exists_cons_of_ne_nil hr
  rw [List.length_cons] at h6
  walk_at "rd"
  refine compL_map ratD (fun c => dirD (0, if 0 < c then -1 else 1)) t [] (by rw [List.length_nil]; omega) (fun c hc => ⟨trivial, fun k hk => ?_⟩) ?_
  · walk_at "rd"
    refine ifB (fun h => ?_) (fun h => ?_)
    · rw [if_pos (by rw [Rat.lt_iff]; simpa using h)] at hk
      exact hk
    · rw [if_neg (by rw [Rat.lt_iff]; simpa using h)] at hk
      exact hk
  · walk_at "rd"
    unfold poseD lowU at q
    rw [List.tail_cons, List.map_map] at q
    exact q
theorem ok_highest_flat (F : Fun K "highest_flat" "highest_flat" s_highest_flat f fd) (G_DOWN : Glv K mg "DOWN" (downD)) (G_UP : Glv K mg "UP" (upD)) (T : Glob mg) : FnOk P w K mg base CX0 4 f fd ["row"] (spP K S_highest_flat) := by
  refine fnP F sc_highest_flat (by intro ds Q E h; unfold S_highest_flat at h; repeat (first | (obtain ⟨rfl, _⟩ := h; rfl) | (obtain ⟨_, h⟩ := h))) fun cdv A outer sh H E W hr eW => ⟨_, (bd_one (sd_ret (ed_ct call_tuple_of sim_tuple (by rfl) T.n_tuple (by decide +kernel) (ad_cons (ed_frz (eo_lc rfl sc_highest_flat.nd (id_tup (ed_tail (ed_var 0))) (own := [("number", 1)]) (blk_of (N := N_highest_flat) (sc := defScope s_highest_flat)) (tg1 1) (fun _ _ _ _ _ => pg_name (i := 1) sc_highest_flat.nd rfl (Or.inl rfl) (.inr rfl)) (fun _ _ _ _ _ => pts_yes) (fun _ _ _ _ _ => (ed_ifExp (td_lt (ed_ix (ed_var 1) ed_int) ed_int) (eg G_DOWN (by rfl)) (eg G_UP (by rfl)))))) ad_nil)))), ?_⟩
  rintro ds Q EQ ⟨r, rfl, hr, h6, q⟩
  obtain ⟨a, t, rfl⟩ := List.exists_cons_of_ne_nil hr
  rw [List.length_cons] at h6
  walk_at "rd"
  refine compL_map ratD (fun c => dirD (0, if c < 0 then -1 else 1)) t [] (by rw [List.length_nil]; omega) (fun c hc => ⟨trivial, fun k hk => ?_⟩) ?_
  · walk_at "rd"
    refine ifB (fun h => ?_) (fun h => ?_)
    · rw [if_pos (by rw [Rat.lt_iff]; simpa using h)] at hk
      exact hk
    · rw [if_neg (by rw [Rat.lt_iff]; simpa using h)] at hk
      exact hk
  · walk_at "rd"
    unfold poseD highU at q
    rw [List.tail_cons, List.map_map] at q
    exact q
theorem abs_Z {r : List Rat} {c : Nat} (h : ∀ x, x ∈ r → Z c x) : ∀ x, x ∈ r.map rabs → Z c x := fun x hx => by
  obtain ⟨y, hy, rfl⟩ := List.mem_map.mp hx
  exact (h y hy).abs
theorem ok_reach_of (F : Fun K "reach_of" "reach_of" s_reach_of f fd) (G_size_of : Cal P w K mg base CX0 4 "size_of" (spP K S_size_of)) (G_sum_of : Cal P w K mg base CX0 6 "sum_of" (spP K S_sum_of)) : FnOk P w K mg base CX0 7 f fd ["row"] (spP K S_reach_of) := by
  refine fnP F sc_reach_of (by intro ds Q E h; unfold S_reach_of at h; repeat (first | (obtain ⟨rfl, _⟩ := h; rfl) | (obtain ⟨_, h⟩ := h))) fun cdv A outer sh H E W hr eW => ⟨_, (bd_one (sd_ret (ec G_sum_of hr (by decide) (by rfl) (ad_cons (ed_frz (eo_lc rfl sc_reach_of.nd (id_tup (ed_tail (ed_var 0))) (own := [("number", 1)]) (blk_of (N := N_reach_of) (sc := defScope s_reach_of)) (tg1 1) (fun _ _ _ _ _ => pg_name (i := 1) sc_reach_of.nd rfl (Or.inl rfl) (.inr rfl)) (fun _ _ _ _ _ => pts_yes) (fun _ _ _ _ _ => (ec G_size_of hr (by decide) (by rfl) (ad_cons (ed_var 1) ad_nil))))) ad_nil)))), ?_⟩
  rintro ds Q EQ ⟨r, rfl, hr, h6, hz, q⟩
  obtain ⟨a, t, rfl⟩ := List.exists_cons_of_ne_nil hr
  rw [List.length_cons] at h6
  walk_at "rd"
  refine compL_map ratD (fun c => ratD (rabs c)) t [] (by rw [List.length_nil]; omega) (fun c hc => ⟨trivial, fun k hk => ?_⟩) ?_
  · walk_at "rd"
    exact hk
  · have hz' := abs_Z (r := t) fun x hx => hz x (List.mem_cons_of_mem _ hx)
    refine ⟨t.map rabs, 100, by rw [List.nil_append, List.map_map]; rfl, fun x hx => (hz' x hx).B (by decide), by rw [List.length_map]; omega, ?_⟩
    exact q
theorem ok_far_ends (F : Fun K "far_ends" "far_ends" s_far_ends f fd) (G_ZERO : Glv K mg "ZERO" (ratD 0)) (G_greatest_of : Cal P w K mg base CX0 5 "greatest_of" (spP K S_greatest_of)) (G_minus : Cal P w K mg base CX0 5 "minus" (spP K S_minus)) (G_plus : Cal P w K mg base CX0 5 "plus" (spP K S_plus)) (G_size_of : Cal P w K mg base CX0 4 "size_of" (spP K S_size_of)) (G_sum_of : Cal P w K mg base CX0 6 "sum_of" (spP K S_sum_of)) : FnOk P w K mg base CX0 7 f fd ["row"] (spP K S_far_ends) := by
  refine fnP F sc_far_ends (by intro ds Q E h; unfold S_far_ends at h; repeat (first | (obtain ⟨rfl, _⟩ := h; rfl) | (obtain ⟨_, h⟩ := h))) fun cdv A outer sh H E W hr eW => ⟨_, (bd_cons (sd_setLc 1 rfl sc_far_ends.nd (id_tup (ed_var 0)) (own := [("number", 5)]) (blk_of (N := N_far_ends) (sc := defScope s_far_ends)) (tg1 5) (fun _ _ _ _ _ => pg_name (i := 5) sc_far_ends.nd rfl (Or.inl rfl) (.inr rfl)) (fun _ _ _ _ _ => pts_yes) (fun _ _ _ _ _ => (ec G_size_of hr (by decide) (by rfl) (ad_cons (ed_var 5) ad_nil))) rfl)
    (bd_cons (sd_fz 1 (sd_set 2 sc_far_ends.nd (ec G_sum_of hr (by decide) (by rfl) (ad_cons (ed_var 1) ad_nil))))
    (bd_cons (sd_set 3 sc_far_ends.nd (ec G_greatest_of hr (by decide) (by rfl) (ad_cons (ed_var 1) ad_nil)))
    (bd_cons (sd_set 4 sc_far_ends.nd (ec G_minus hr (by decide) (by rfl) (ad_cons (ec G_plus hr (by decide) (by rfl) (ad_cons (ed_var 3) (ad_cons (ed_var 3) ad_nil))) (ad_cons (ed_var 2) ad_nil))))
    (bd_one (sd_ret (ed_tup (ad_cons (ed_ifExp (td_gt (ed_ix (ed_var 4) ed_int) ed_int) (ed_var 4) (eg G_ZERO (by rfl))) (ad_cons (ed_var 2) ad_nil))))))))), ?_⟩
  rintro ds Q EQ ⟨r, rfl, hr, h6, hz, q⟩
  walk_at "rd"
  refine compL_map ratD (fun c => ratD (rabs c)) r [] (by rw [List.length_nil]; omega) (fun c hc => ⟨trivial, fun k hk => ?_⟩) ?_
  · walk_at "rd"
    exact hk
  · have hz' := abs_Z hz
    rw [List.nil_append, show r.map (fun c => ratD (rabs c)) = (r.map rabs).map ratD by rw [List.map_map]; rfl]
    walk_at "rd"
    refine ⟨r.map rabs, 100, rfl, fun x hx => (hz' x hx).B (by decide), by rw [List.length_map]; omega, ?_⟩
    walk_at "rd"
    refine ⟨fun z => hr (List.map_eq_nil_iff.mp z), fun x hx => ((hz' x hx).B (by decide)).mono (by decide), fun m hm hx => ?_⟩
    have zs := Z.sum hz'
    rw [List.length_map] at zs
    have zm := hz' m hm
    walk_at "rd"
    refine ⟨(zm.B (by decide)).mono (by decide), (zm.B (by decide)).mono (by decide), ?_⟩
    walk_at "rd"
    refine ⟨((zm.add zm).B (by decide)).mono (by decide), (zs.B (by omega)).mono (by decide), ?_⟩
    walk_at "rd"
    have e := low_max hm hx
    refine ifB (fun h => ?_) (fun h => ?_)
    · rw [if_pos (by rw [Rat.lt_iff]; simpa using h)] at e
      rw [← e] at q
      walk_at "rd"
      exact q
    · rw [if_neg (by rw [Rat.lt_iff]; simpa using h)] at e
      rw [← e] at q
      walk_at "rd"
      exact q
end
end SA
end

section
set_option Elab.async false
set_option linter.all false
set_option maxRecDepth 100000
set_option maxHeartbeats 4000000
namespace SA
open PySem PySem.Spec PyProof.Rows L2 DL RM
local macro_rules | `(tactic| walk_at "rd") => `(tactic| repeat (first | refine ⟨_, rfl, ?_⟩ | refine ⟨rfl, ?_⟩ | refine ⟨_, _, rfl, ?_⟩ | refine ⟨_, _, _, rfl, rfl, ?_⟩ | refine ⟨_, _, _, rfl, ?_⟩ | refine iteT ?_ | refine iteF ?_))
section
variable {P : Program} {w : World} {K : PySem.W.Frag} {mg : Str → Option Value} {base : Heap} {f : Addr} {fd : FuncData}
theorem flat_part {c : Nat} {a y : Rat} (ha : Z c a) (hy : y = 0 ∨ y = 1 ∨ y = -1) : Z c (a * y) := by
  rcases hy with rfl | rfl | rfl
  · rw [Rat.mul_zero]; exact Z.zero.mono (by omega)
  · rw [Rat.mul_one]; exact ha
  · rw [show a * (-1) = -a by grind]; exact ha.neg
theorem ok_spot_of (F : Fun K "spot_of" "spot_of" s_spot_of f fd) (G_ZERO : Glv K mg "ZERO" (ratD 0)) (G_plus : Cal P w K mg base CX0 5 "plus" (spP K S_plus)) (G_times : Cal P w K mg base CX0 5 "times" (spP K S_times)) (T : Glob mg) : FnOk P w K mg base CX0 6 f fd ["directions", "row"] (spP K S_spot_of) := by
  refine fnP F sc_spot_of (by intro ds Q E h; unfold S_spot_of at h; repeat (first | (obtain ⟨rfl, _⟩ := h; rfl) | (obtain ⟨_, h⟩ := h))) fun cdv A outer sh H E W hr eW => ⟨_, (bd_cons (sd_set 2 sc_spot_of.nd (eg G_ZERO (by rfl)))
    (bd_cons (sd_set 3 sc_spot_of.nd (eg G_ZERO (by rfl)))
    (bd_cons (sd_for PassesOwn.never rfl (id_zip (by rfl) T.n_zip (ad_cons (ed_var 0) (ad_cons (ed_var 1) ad_nil))) (gd_tup rfl (gds_cons (gd_name 4 sc_spot_of.nd) (gds_cons (gd_name 5 sc_spot_of.nd) gds_nil))) (bd_cons (sd_set 2 sc_spot_of.nd (ec G_plus hr (by decide) (by rfl) (ad_cons (ed_var 2) (ad_cons (ec G_times hr (by decide) (by rfl) (ad_cons (ed_var 5) (ad_cons (ed_ix (ed_var 4) ed_int) ad_nil))) ad_nil))))
    (bd_one (sd_set 3 sc_spot_of.nd (ec G_plus hr (by decide) (by rfl) (ad_cons (ed_var 3) (ad_cons (ec G_times hr (by decide) (by rfl) (ad_cons (ed_var 5) (ad_cons (ed_ix (ed_var 4) ed_int) ad_nil))) ad_nil)))))))
    (bd_one (sd_ret (ed_tup (ad_cons (ed_var 2) (ad_cons (ed_var 3) ad_nil)))))))), ?_⟩
  rintro ds Q EQ ⟨us, r, rfl, hl, h6, hf, hz, q⟩
  walk_at "rd"
  refine ⟨by rw [List.length_map, List.length_map, hl], ?_⟩
  refine forL_ind (fun xs ρ => ∃ (us' : List (Rat × Rat)) (r' : List Rat) (x y : Rat) (c : Nat) (e4 e5 : Option Sl), xs = ((us'.map dirD).zip (r'.map ratD)).map (fun p => D.tup [p.1, p.2]) ∧ ρ = [some (.d (poseD us)), some (.d (rowD r)), some (.d (ratD x)), some (.d (ratD y)), e4, e5] ∧
    us'.length = r'.length ∧ Flat us' ∧ (∀ a, a ∈ r' → Z 10000000000 a) ∧ Z c x ∧ Z c y ∧ c + r'.length * 10000000000 ≤ 60000000000 ∧ x + dot r' (us'.map (·.1)) = dot r (us.map (·.1)) ∧ y + dot r' (us'.map (·.2)) = dot r (us.map (·.2))) ?_ ?_ _ _
    ⟨us, r, 0, 0, 0, none, none, rfl, rfl, hl, hf, hz, Z.zero, Z.zero, by omega, by rw [Rat.zero_add], by rw [Rat.zero_add]⟩
  · rintro ρ ⟨us', r', x, y, c, e4, e5, h1, rfl, hl', _, _, _, _, _, ex, ey⟩
    have e1 : us' = [] ∧ r' = [] := by
      cases us' with
      | nil => cases r' with
        | nil => exact ⟨rfl, rfl⟩
        | cons _ _ => cases hl'
      | cons _ _ => cases r' with
        | nil => cases hl'
        | cons _ _ => cases h1
    obtain ⟨rfl, rfl⟩ := e1
    have ex' : x = dot r (us.map (·.1)) := by rw [← ex]; show x = x + 0; grind
    have ey' : y = dot r (us.map (·.2)) := by rw [← ey]; show y = y + 0; grind
    walk_at "rd"
    rw [ex', ey']
    exact q
  · rintro x0 xs ρ ih ⟨us', r', x, y, c, e4, e5, h1, rfl, hl', hf', hz', hx, hy, hc, ex, ey⟩
    cases us' with
    | nil => cases r' with
      | nil => cases h1
      | cons _ _ => cases hl'
    | cons u us' => cases r' with
     | nil => cases hl'
     | cons a r' =>
      cases h1
      have hu := hf' u (List.mem_cons_self ..)
      have ha := hz' a (List.mem_cons_self ..)
      rw [List.length_cons] at hc
      have zx : Z 10000000000 (a * u.1) := flat_part ha (.inl hu.1)
      have zy : Z 10000000000 (a * u.2) := flat_part ha (hu.2.elim (fun z => .inr (.inl z)) fun z => .inr (.inr z))
      have b1 : B 4400 u.1 := by rw [hu.1]; exact B.zero.mono (by decide)
      have b2 : B 4400 u.2 := by
        rcases hu.2 with z | z
        · rw [z]; exact B.one.mono (by decide)
        · rw [z]; exact (B.one.neg).mono (by decide)
      walk_at "rd"
      refine ⟨(ha.B (by decide)).mono (by decide), b1, ?_⟩
      walk_at "rd"
      refine ⟨(hx.B (by omega)).mono (by decide), (zx.B (by decide)).mono (by decide), ?_⟩
      walk_at "rd"
      refine ⟨(ha.B (by decide)).mono (by decide), b2, ?_⟩
      walk_at "rd"
      refine ⟨(hy.B (by omega)).mono (by decide), (zy.B (by decide)).mono (by decide), ?_⟩
      walk_at "rd"
      refine ih _ ⟨us', r', x + a * u.1, y + a * u.2, c + 10000000000, _, _, rfl, rfl, by simpa using hl', fun v hv => hf' v (List.mem_cons_of_mem _ hv), fun b hb => hz' b (List.mem_cons_of_mem _ hb), hx.add zx, hy.add zy, by omega, ?_, ?_⟩
      · rw [← ex]
        show x + a * u.1 + dot r' (us'.map (·.1)) = x + (a * u.1 + dot r' (us'.map (·.1)))
        grind
      · rw [← ey]
        show y + a * u.2 + dot r' (us'.map (·.2)) = y + (a * u.2 + dot r' (us'.map (·.2)))
        grind
theorem ok_Belt_eq (F : Fun K "__eq__" "Belt.__eq__" s_Belt_eq f fd) (T : Glob mg) (c_Belt : Cls K C_Belt) (isc_Belt : IsiC K C_Belt) (m_Belt : mg "Belt" = some (.ref C_Belt)) (na_centre : NoAttr K C_Belt "centre") (na_high : NoAttr K C_Belt "high") (na_low : NoAttr K C_Belt "low") : FnOk P w K mg base CX0 4 f fd ["self", "other"] (spP K S_Belt_eq) := by
  refine fnP F sc_Belt_eq (by intro ds Q E h; unfold S_Belt_eq at h; repeat (first | (obtain ⟨rfl, _⟩ := h; rfl) | (obtain ⟨_, h⟩ := h))) fun cdv A outer sh H E W hr eW => ⟨_, (bd_cons (sd_if (td_not (td_val (ed_isC isc_Belt (by rfl) T.n_isinstance (by rfl) m_Belt (ed_var 1)))) (bd_one (sd_ret ed_bl)) bd_nil)
    (bd_one (sd_ret (ed_and (ed_eqD hr (ed_fld (ed_var 0) c_Belt na_centre) (ed_fld (ed_var 1) c_Belt na_centre)) (ed_and (ed_eqD hr (ed_fld (ed_var 0) c_Belt na_low) (ed_fld (ed_var 1) c_Belt na_low)) (ed_one (ed_eqD hr (ed_fld (ed_var 0) c_Belt na_high) (ed_fld (ed_var 1) c_Belt na_high)))))))), ?_⟩
  rintro ds Q EQ ⟨a, b, c, a', b', c', rfl, q⟩
  walk_at "rd"
  refine ⟨_, eqD_rat a a', ?_⟩
  walk_at "rd"
  refine ifB (fun h1 => ?_) (fun h1 => ?_)
  · rw [decide_eq_true h1] at q
    walk_at "rd"
    refine ⟨_, eqD_rat b b', ?_⟩
    walk_at "rd"
    refine ifB (fun h2 => ?_) (fun h2 => ?_)
    · rw [decide_eq_true h2] at q
      walk_at "rd"
      exact ⟨_, eqD_rat c c', q⟩
    · rw [decide_eq_false h2] at q
      exact q
  · rw [decide_eq_false h1] at q
    exact q
theorem rcmp_lt (a b : Rat) : decide (rcmp a b < 0) = decide (a < b) := by
  unfold rcmp
  by_cases h : a < b
  · rw [if_pos h, decide_eq_true h]; rfl
  · rw [if_neg h, decide_eq_false h]
    split <;> rfl
theorem rcmp_le (a b : Rat) : decide (rcmp a b ≤ 0) = decide (a ≤ b) := by
  unfold rcmp
  by_cases h : a < b
  · rw [if_pos h, decide_eq_true (Rat.le_of_lt h)]; rfl
  · rw [if_neg h]
    by_cases h2 : b < a
    · rw [if_pos h2, decide_eq_false (Rat.not_le.mpr h2)]; rfl
    · rw [if_neg h2, decide_eq_true (Rat.not_lt.mp h2)]; rfl
theorem ok_Belt_contains (F : Fun K "__contains__" "Belt.__contains__" s_Belt_contains f fd) (G_compare : Cal P w K mg base CX0 4 "compare" (spP K S_compare)) (G_is_spot : Cal P w K mg base CX0 6 "is_spot" (spP K S_is_spot)) (G_minus : Cal P w K mg base CX0 5 "minus" (spP K S_minus)) (G_square_sum : Cal P w K mg base CX0 6 "square_sum" (spP K S_square_sum)) (G_times : Cal P w K mg base CX0 5 "times" (spP K S_times)) (c_Belt : Cls K C_Belt) (na_centre : NoAttr K C_Belt "centre") (na_high : NoAttr K C_Belt "high") (na_low : NoAttr K C_Belt "low") : FnOk P w K mg base CX0 7 f fd ["self", "spot"] (spP K S_Belt_contains) := by
  refine fnP F sc_Belt_contains (by intro ds Q E h; unfold S_Belt_contains at h; repeat (first | (obtain ⟨rfl, _⟩ := h; rfl) | (obtain ⟨_, h⟩ := h))) fun cdv A outer sh H E W hr eW => ⟨_, (bd_cons (sd_if (td_not (td_val (ec G_is_spot hr (by decide) (by rfl) (ad_cons (ed_var 1) ad_nil)))) (bd_one (sd_ret ed_bl)) bd_nil)
    (bd_cons (sd_set 2 sc_Belt_contains.nd (ec G_square_sum hr (by decide) (by rfl) (ad_cons (ed_tup (ad_cons (ed_ix (ed_var 1) ed_int) (ad_cons (ec G_minus hr (by decide) (by rfl) (ad_cons (ed_ix (ed_var 1) ed_int) (ad_cons (ed_fld (ed_var 0) c_Belt na_centre) ad_nil))) ad_nil))) ad_nil)))
    (bd_cons (sd_if (td_lt (ec G_compare hr (by decide) (by rfl) (ad_cons (ed_var 2) (ad_cons (ec G_times hr (by decide) (by rfl) (ad_cons (ed_fld (ed_var 0) c_Belt na_low) (ad_cons (ed_fld (ed_var 0) c_Belt na_low) ad_nil))) ad_nil))) ed_int) (bd_one (sd_ret ed_bl)) bd_nil)
    (bd_one (sd_ret (ed_le (ec G_compare hr (by decide) (by rfl) (ad_cons (ed_var 2) (ad_cons (ec G_times hr (by decide) (by rfl) (ad_cons (ed_fld (ed_var 0) c_Belt na_high) (ad_cons (ed_fld (ed_var 0) c_Belt na_high) ad_nil))) ad_nil))) ed_int)))))), ?_⟩
  rintro ds Q EQ ⟨c, lo, hi, s, rfl, hc, hlo, hhi, (⟨x, y, e, h3, hx, hy, q⟩ | ⟨h3, hs, q⟩)⟩
  · have es : spotQ s = true := by
      unfold spotQ
      rw [e]
      show (ratioQ (ratD x) && ratioQ (ratD y)) = true
      rw [ratioQ_rat, ratioQ_rat]; rfl
    walk_at "rd"
    refine ⟨h3, ?_⟩
    rw [es]
    walk_at "rd"
    refine ⟨_, e, ?_⟩
    walk_at "rd"
    refine ⟨_, e, ?_⟩
    walk_at "rd"
    refine ⟨hy.mono (by decide), hc.mono (by decide), ?_⟩
    walk_at "rd"
    have hd := hy.sub hc
    refine ⟨hx.mono (by decide), hd.mono (by decide), ?_⟩
    walk_at "rd"
    have hq := (hx.mul hx).add (hd.mul hd)
    have hl2 := hlo.mul hlo
    have hh2 := hhi.mul hhi
    refine ⟨hlo.mono (by decide), hlo.mono (by decide), ?_⟩
    walk_at "rd"
    refine ⟨hq.mono (by decide), hl2.mono (by decide), ?_⟩
    walk_at "rd"
    unfold inBelt at q
    refine ifQ (rcmp_lt _ _) ?_
    refine ifB (fun h => ?_) (fun h => ?_)
    · rw [decide_eq_true h] at q
      walk_at "rd"
      exact q
    · rw [decide_eq_false h] at q
      walk_at "rd"
      refine ⟨hhi.mono (by decide), hhi.mono (by decide), ?_⟩
      walk_at "rd"
      refine ⟨hq.mono (by decide), hh2.mono (by decide), ?_⟩
      walk_at "rd"
      rw [← rcmp_le] at q
      exact q
  · walk_at "rd"
    refine ⟨h3, ?_⟩
    rw [hs]
    walk_at "rd"
    exact q
theorem letters_max {bs : List Bar} {n : Nat} (hb : BarsOk bs n) {m : Int} (hm : m ∈ bs.map (·.2.2)) (hx : ∀ y, y ∈ bs.map (fun b : Bar => b.2.2) → y ≤ m) : m = n := by
  obtain ⟨b, hb1, rfl⟩ := List.mem_map.mp hm
  obtain ⟨b2, hb2, e⟩ := hb.all n hb.n1 (Nat.le_refl n)
  have h1 := (hb.lett b hb1).2
  have h2 := hx b2.2.2 (List.mem_map.mpr ⟨b2, hb2, rfl⟩)
  omega
theorem lett_ints (bs : List Bar) : bs.map (fun b => D.int b.2.2) = (bs.map (·.2.2)).map D.int := by rw [List.map_map]; rfl
theorem ok_law_most (F : Fun K "_law_most" "_law_most" s_law_most f fd) (T : Glob mg) : FnOk P w K mg base CX0 4 f fd ["_law_bars"] (spP K S_law_most) := by
  refine fnP F sc_law_most (by intro ds Q E h; unfold S_law_most at h; repeat (first | (obtain ⟨rfl, _⟩ := h; rfl) | (obtain ⟨_, h⟩ := h))) fun cdv A outer sh H E W hr eW => ⟨_, (bd_one (sd_ret (ed_cb (cr_max rfl) sim_max (by rfl) T.n_max (by decide +kernel) (ad_cons (ed_frz (eo_lc rfl sc_law_most.nd (id_tup (ed_var 0)) (own := [("_law_bar", 1)]) (blk_of (N := N_law_most) (sc := defScope s_law_most)) (tg1 1) (fun _ _ _ _ _ => pg_name (i := 1) sc_law_most.nd rfl (Or.inl rfl) (.inr rfl)) (fun _ _ _ _ _ => pts_yes) (fun _ _ _ _ _ => (ed_ix (ed_var 1) ed_int)))) ad_nil)))), ?_⟩
  rintro ds Q EQ ⟨bs, n, rfl, hb, q⟩
  have h6 := hb.l6
  walk_at "rd"
  refine compL_map barD (fun b => D.int b.2.2) bs [] (by rw [List.length_nil]; omega) (fun b hbm => ⟨trivial, fun k hk => ?_⟩) ?_
  · walk_at "rd"
    exact hk
  · rw [List.nil_append, lett_ints]
    refine ⟨bs.map (·.2.2), rfl, by rw [List.length_map]; exact hb.l1, fun m hm hx => ?_⟩
    have e := letters_max hb hm hx
    subst e
    exact q
end
end SA
end

section
set_option Elab.async false
set_option linter.all false
set_option maxRecDepth 100000
set_option maxHeartbeats 4000000
namespace SA
open PySem PySem.Spec PyProof.Rows L2 DL RM
local macro_rules | `(tactic| walk_at "rd") => `(tactic| repeat (first | refine ⟨_, rfl, ?_⟩ | refine ⟨rfl, ?_⟩ | refine ⟨_, _, rfl, ?_⟩ | refine ⟨_, _, _, rfl, rfl, ?_⟩ | refine ⟨_, _, _, rfl, ?_⟩ | refine iteT ?_ | refine iteF ?_))
section
variable {P : Program} {w : World} {K : PySem.W.Frag} {mg : Str → Option Value} {base : Heap} {f : Addr} {fd : FuncData}
theorem ok_law_row (F : Fun K "_law_row" "_law_row" s_law_row f fd) (G_law_most : Cal P w K mg base CX0 4 "_law_most" (spP K S_law_most)) (G_law_plus : Cal P w K mg base CX0 6 "_law_plus" (spP K S_law_plus)) (T : Glob mg) : FnOk P w K mg base CX0 7 f fd ["_law_bars", "_law_place"] (spP K S_law_row) := by
  refine fnP F sc_law_row (by intro ds Q E h; unfold S_law_row at h; repeat (first | (obtain ⟨rfl, _⟩ := h; rfl) | (obtain ⟨_, h⟩ := h))) fun cdv A outer sh H E W hr eW => ⟨_, (bd_cons (sd_setLc 2 rfl sc_law_row.nd (id_range1 (by rfl) T.n_range (ad_cons (ed_add (ec G_law_most hr (by decide) (by rfl) (ad_cons (ed_var 0) ad_nil)) ed_int) ad_nil)) (own := [("_law_k", 7)]) (blk_of (N := N_law_row) (sc := defScope s_law_row)) (tg1 7) (fun _ _ _ _ _ => pg_name (i := 7) sc_law_row.nd rfl (Or.inl rfl) (.inr rfl)) (fun _ _ _ _ _ => pts_yes) (fun _ _ _ _ _ => (ed_tup (ad_cons ed_int (ad_cons ed_int ad_nil)))) rfl)
    (bd_cons (sd_asg (ed_var 1) (gd_tup rfl (gds_cons (gd_name 3 sc_law_row.nd) (gds_cons (gd_name 4 sc_law_row.nd) gds_nil))))
    (bd_cons (sd_for PassesOwn.never rfl (id_range1 (by rfl) T.n_range (ad_cons (ed_add (ed_cb call_len_seq sim_len (by rfl) T.n_len (by decide +kernel) (ad_cons (ed_var 0) ad_nil)) ed_int) ad_nil)) (gd_name 5 sc_law_row.nd) (bd_cons (sd_set 6 sc_law_row.nd (ed_ifExp (td_lt (ed_var 3) ed_int) ed_int (ed_ix (ed_ix (ed_var 0) (ed_var 3)) ed_int)))
    (bd_cons (sd_asg (ec G_law_plus hr (by decide) (by rfl) (ad_cons (ed_ixO 2 (ed_var 6)) (ad_cons (ed_var 4) ad_nil))) (gd_sub 2 (ed_var 6)))
    (bd_cons (sd_if (td_lt (ed_var 3) ed_int) (bd_one (sd_fz 2 (sd_ret (ed_ct call_tuple_of sim_tuple (by rfl) T.n_tuple (by decide +kernel) (ad_cons (ed_var 2) ad_nil))))) bd_nil)
    (bd_one (sd_par 3 4 rfl sc_law_row.nd (ad_cons (ed_ix (ed_ix (ed_var 0) (ed_var 3)) ed_int) (ad_cons (ed_ix (ed_ix (ed_var 0) (ed_var 3)) ed_int) ad_nil))))))))
    (bd_one (sd_fz 2 (sd_ret (ed_ct call_tuple_of sim_tuple (by rfl) T.n_tuple (by decide +kernel) (ad_cons (ed_var 2) ad_nil)))))))), ?_⟩
  rintro ds Q EQ ⟨bs, n, p, rfl, hb, hp, q⟩
  have h4 := hb.n4
  have h6 := hb.l6
  walk_at "rd"
  refine ⟨bs, n, rfl, hb, ?_⟩
  walk_at "rd"
  refine ⟨show (-(2 ^ 62) : Int) ≤ ((n : Nat) : Int) + 1 by omega, show ((n : Nat) : Int) + 1 < 2 ^ 62 by omega, ?_⟩
  walk_at "rd"
  refine compL_map (fun i : Nat => D.int (0 + (i : Nat))) (fun _ => ratD 0) (List.range (n + 1)) [] (by rw [List.length_range, List.length_nil]; omega) (fun i hi => ⟨trivial, fun k hk => ?_⟩) ?_
  · walk_at "rd"
    exact hk
  rw [List.nil_append, show (List.range (n + 1)).map (fun _ => ratD 0) = (List.replicate (n + 1) 0).map ratD by rw [List.map_const', List.length_range, List.map_replicate]]
  walk_at "rd"
  rw [List.length_map]
  refine ⟨show (-(2 ^ 62) : Int) ≤ ((bs.length : Nat) : Int) + 1 by omega, show ((bs.length : Nat) : Int) + 1 < 2 ^ 62 by omega, ?_⟩
  refine forL_ind (fun xs ρ => ∃ (k' : Int) (m' : Rat) (r : List Rat) (c : Nat) (e5 e6 e7 : Option Sl), ρ = [some (.d (barsD bs)), some (.d (placeD p)), some (.own (r.map ratD)), some (.d (.int k')), some (.d (ratD m')), e5, e6, e7] ∧
      r.length = n + 1 ∧ rowGo bs xs.length k' m' r = rowOf bs n p ∧ -1 ≤ k' ∧ k' < bs.length ∧ Z 100000000 m' ∧ (∀ x, x ∈ r → Z c x) ∧ c + xs.length * 100000000 ≤ 700000000) ?_ ?_ _ _
    ⟨p.1, p.2, List.replicate (n + 1) 0, 0, none, none, none, rfl, List.length_replicate, ?_, hp.lo, hp.hi, hp.mark, fun x hx => by rw [(List.mem_replicate.mp hx).2]; exact Z.zero, ?_⟩
  · rintro ρ ⟨k', m', r, c, e5, e6, e7, rfl, hr, hg, _⟩
    walk_at "rd"
    have hg' : r = rowOf bs n p := hg
    rw [hg']
    exact q
  · rintro x xs ρ ih ⟨k', m', r, c, e5, e6, e7, rfl, hr, hg, hk, hk2, hm, hz, hc⟩
    rw [List.length_cons] at hg hc
    unfold rowGo at hg
    walk_at "rd"
    refine ifB (fun hn => ?_) (fun hn => ?_)
    · rw [if_pos hn] at hg
      obtain ⟨v, hv⟩ := at_some (l := r) (i := 0) (by omega)
      walk_at "rd"
      refine ⟨_, row_at (i := 0) (by decide) hv, ?_⟩
      walk_at "rd"
      refine ⟨((hz v (List.mem_of_getElem? hv)).B (by omega)).mono (by decide), (hm.B (by decide)).mono (by decide), ?_⟩
      walk_at "rd"
      refine ⟨0, ixN_of (n := 0) (by decide) (by rw [List.length_map]; omega), ?_⟩
      rw [addAt_map hv, hg]
      walk_at "rd"
      refine ifT hn ?_
      walk_at "rd"
      exact q
    · rw [if_neg hn] at hg
      obtain ⟨b, hbk⟩ := at_some (l := bs) (i := k'.toNat) (by omega)
      rw [hbk] at hg
      have hbm := List.mem_of_getElem? hbk
      obtain ⟨h1, h2⟩ := hb.host _ _ hbk
      obtain ⟨h3, h5⟩ := hb.lett b hbm
      obtain ⟨v, hv⟩ := at_some (l := r) (i := b.2.2.toNat) (by omega)
      walk_at "rd"
      refine ⟨_, bar_at (by omega) hbk, ?_⟩
      walk_at "rd"
      refine ⟨_, row_at h3 hv, ?_⟩
      walk_at "rd"
      refine ⟨((hz v (List.mem_of_getElem? hv)).B (by omega)).mono (by decide), (hm.B (by decide)).mono (by decide), ?_⟩
      walk_at "rd"
      refine ⟨b.2.2.toNat, ixN_of (by omega) (by rw [List.length_map]; omega), ?_⟩
      rw [addAt_map hv]
      walk_at "rd"
      refine ifF hn ?_
      walk_at "rd"
      refine ⟨_, bar_at (by omega) hbk, ?_⟩
      walk_at "rd"
      refine ⟨_, bar_at (by omega) hbk, ?_⟩
      walk_at "rd"
      exact ih _ ⟨b.1, b.2.1, addAt r b.2.2.toNat m', c + 100000000, _, _, _, rfl, by rw [addAt_len, hr], hg, h1, by omega, hb.mark b hbm, addAt_Z hz hm, by omega⟩
  · show rowGo bs (DL.intsFrom 0 (((bs.length : Nat) : Int) + 1).toNat).length p.1 p.2 _ = _
    unfold DL.intsFrom rowOf
    rw [List.length_map, List.length_range, show (((bs.length : Nat) : Int) + 1).toNat = bs.length + 1 by omega]
  · show 0 + (DL.intsFrom 0 (((bs.length : Nat) : Int) + 1).toNat).length * 100000000 ≤ _
    unfold DL.intsFrom
    rw [List.length_map, List.length_range]
    omega
end
end SA
end

section
set_option Elab.async false
set_option linter.all false
set_option maxRecDepth 100000
set_option maxHeartbeats 4000000
namespace SA
open PySem PySem.Spec PyProof.Rows L2 DL RM
local macro_rules | `(tactic| walk_at "rd") => `(tactic| repeat (first | refine ⟨_, rfl, ?_⟩ | refine ⟨rfl, ?_⟩ | refine ⟨_, _, rfl, ?_⟩ | refine ⟨_, _, _, rfl, rfl, ?_⟩ | refine ⟨_, _, _, rfl, ?_⟩ | refine iteT ?_ | refine iteF ?_))
section
variable {P : Program} {w : World} {K : PySem.W.Frag} {mg : Str → Option Value} {base : Heap} {f : Addr} {fd : FuncData}
theorem subRow_get {a b : List Rat} (hl : a.length = b.length) : (List.range a.length).map (fun i => ratD (a.getD i 0 - b.getD i 0)) = (subRow a b).map ratD := by
  show _ = (List.zipWith (fun x y => x - y) a b).map ratD
  refine List.ext_getElem (by simp [hl]) fun i h1 h2 => ?_
  have hi : i < a.length := by simpa using h1
  rw [List.getElem_map, List.getElem_map, List.getElem_zipWith, List.getElem_range]
  rw [getD_of (List.getElem?_eq_getElem hi), getD_of (List.getElem?_eq_getElem (by omega : i < b.length))]
theorem ok_law_apart (F : Fun K "_law_apart" "_law_apart" s_law_apart f fd) (G_law_less : Cal P w K mg base CX0 6 "_law_less" (spP K S_law_less)) (G_law_row : Cal P w K mg base CX0 7 "_law_row" (spP K S_law_row)) (T : Glob mg) : FnOk P w K mg base CX0 8 f fd ["_law_bars", "_law_one", "_law_other"] (spP K S_law_apart) := by
  refine fnP F sc_law_apart (by intro ds Q E h; unfold S_law_apart at h; repeat (first | (obtain ⟨rfl, _⟩ := h; rfl) | (obtain ⟨_, h⟩ := h))) fun cdv A outer sh H E W hr eW => ⟨_, (bd_cons (sd_set 3 sc_law_apart.nd (ec G_law_row hr (by decide) (by rfl) (ad_cons (ed_var 0) (ad_cons (ed_var 1) ad_nil))))
    (bd_cons (sd_set 4 sc_law_apart.nd (ec G_law_row hr (by decide) (by rfl) (ad_cons (ed_var 0) (ad_cons (ed_var 2) ad_nil))))
    (bd_one (sd_ret (ed_ct call_tuple_of sim_tuple (by rfl) T.n_tuple (by decide +kernel) (ad_cons (ed_frz (eo_lc rfl sc_law_apart.nd (id_range1 (by rfl) T.n_range (ad_cons (ed_cb call_len_seq sim_len (by rfl) T.n_len (by decide +kernel) (ad_cons (ed_var 3) ad_nil)) ad_nil)) (own := [("_law_k", 5)]) (blk_of (N := N_law_apart) (sc := defScope s_law_apart)) (tg1 5) (fun _ _ _ _ _ => pg_name (i := 5) sc_law_apart.nd rfl (Or.inl rfl) (.inr rfl)) (fun _ _ _ _ _ => pts_yes) (fun _ _ _ _ _ => (ec G_law_less hr (by decide) (by rfl) (ad_cons (ed_ix (ed_var 3) (ed_var 5)) (ad_cons (ed_ix (ed_var 4) (ed_var 5)) ad_nil)))))) ad_nil)))))), ?_⟩
  rintro ds Q EQ ⟨bs, n, p, r, rfl, hb, hp, hr, q⟩
  have hlp := rowOf_len bs n p
  have hlr := rowOf_len bs n r
  have zp := rowOf_Z hb hp
  have zr := rowOf_Z hb hr
  have h4 := hb.n4
  walk_at "rd"
  refine ⟨bs, n, p, rfl, hb, hp, ?_⟩
  walk_at "rd"
  refine ⟨bs, n, r, rfl, hb, hr, ?_⟩
  walk_at "rd"
  rw [List.length_map]
  refine ⟨by omega, by omega, ?_⟩
  unfold DL.intsFrom
  rw [show (((rowOf bs n p).length : Nat) : Int).toNat = (rowOf bs n p).length by omega]
  walk_at "rd"
  refine compL_map (fun i : Nat => D.int (0 + (i : Nat))) (fun i => ratD ((rowOf bs n p).getD i 0 - (rowOf bs n r).getD i 0)) (List.range (rowOf bs n p).length) [] (by rw [List.length_range, List.length_nil]; omega) (fun i hi => ⟨trivial, fun k hk => ?_⟩) ?_
  · have hi' := List.mem_range.mp hi
    obtain ⟨v, hv⟩ := at_some (l := rowOf bs n p) (i := i) hi'
    obtain ⟨u, hu⟩ := at_some (l := rowOf bs n r) (i := i) (by omega)
    rw [getD_of hv, getD_of hu] at hk
    walk_at "rd"
    refine ⟨_, row_at (by omega) (show (rowOf bs n p)[(0 + (i : Int)).toNat]? = some v by rw [show (0 + (i : Int)).toNat = i by omega]; exact hv), ?_⟩
    walk_at "rd"
    refine ⟨_, row_at (by omega) (show (rowOf bs n r)[(0 + (i : Int)).toNat]? = some u by rw [show (0 + (i : Int)).toNat = i by omega]; exact hu), ?_⟩
    walk_at "rd"
    exact ⟨((zp v (List.mem_of_getElem? hv)).B (by decide)).mono (by decide), ((zr u (List.mem_of_getElem? hu)).B (by decide)).mono (by decide), hk⟩
  · rw [List.nil_append, subRow_get (by omega)]
    walk_at "rd"
    exact q
theorem ok_law_ends (F : Fun K "_law_ends" "_law_ends" s_law_ends f fd) (G_law_below : Cal P w K mg base CX0 4 "_law_below" (spP K S_law_below)) (G_law_less : Cal P w K mg base CX0 6 "_law_less" (spP K S_law_less)) (G_law_size : Cal P w K mg base CX0 4 "_law_size" (spP K S_law_size)) (G_law_sum : Cal P w K mg base CX0 7 "_law_sum" (spP K S_law_sum)) (G_law_times : Cal P w K mg base CX0 6 "_law_times" (spP K S_law_times)) : FnOk P w K mg base CX0 8 f fd ["_law_row_here"] (spP K S_law_ends) := by
  refine fnP F sc_law_ends (by intro ds Q E h; unfold S_law_ends at h; repeat (first | (obtain ⟨rfl, _⟩ := h; rfl) | (obtain ⟨_, h⟩ := h))) fun cdv A outer sh H E W hr eW => ⟨_, (bd_cons (sd_setLc 2 rfl sc_law_ends.nd (id_tup (ed_tail (ed_var 0))) (own := [("_law_number", 1)]) (blk_of (N := N_law_ends) (sc := defScope s_law_ends)) (tg1 1) (fun _ _ _ _ _ => pg_name (i := 1) sc_law_ends.nd rfl (Or.inl rfl) (.inr rfl)) (fun _ _ _ _ _ => pts_yes) (fun _ _ _ _ _ => (ec G_law_size hr (by decide) (by rfl) (ad_cons (ed_var 1) ad_nil))) rfl)
    (bd_cons (sd_fz 2 (sd_set 3 sc_law_ends.nd (ec G_law_sum hr (by decide) (by rfl) (ad_cons (ed_var 2) ad_nil))))
    (bd_cons (sd_set 4 sc_law_ends.nd (ed_tup (ad_cons ed_int (ad_cons ed_int ad_nil))))
    (bd_cons (sd_for PassesOwn.never rfl (id_list (ed_var 2)) (gd_name 1 sc_law_ends.nd) (bd_cons (sd_set 5 sc_law_ends.nd (ec G_law_less hr (by decide) (by rfl) (ad_cons (ec G_law_times hr (by decide) (by rfl) (ad_cons (ed_tup (ad_cons ed_int (ad_cons ed_int ad_nil))) (ad_cons (ed_var 1) ad_nil))) (ad_cons (ed_var 3) ad_nil))))
    (bd_one (sd_if (td_val (ec G_law_below hr (by decide) (by rfl) (ad_cons (ed_var 4) (ad_cons (ed_var 5) ad_nil)))) (bd_one (sd_set 4 sc_law_ends.nd (ed_var 5))) bd_nil))))
    (bd_one (sd_ret (ed_tup (ad_cons (ed_var 4) (ad_cons (ed_var 3) ad_nil))))))))), ?_⟩
  rintro ds Q EQ ⟨r, rfl, hr, h6, hz, q⟩
  obtain ⟨a, t, rfl⟩ := List.exists_cons_of_ne_nil hr
  rw [List.length_cons] at h6
  have hz' := abs_Z (r := t) fun x hx => hz x (List.mem_cons_of_mem _ hx)
  have zs := Z.sum hz'
  rw [List.length_map] at zs
  walk_at "rd"
  refine compL_map ratD (fun c => ratD (rabs c)) t [] (by rw [List.length_nil]; omega) (fun c hc => ⟨trivial, fun k hk => ?_⟩) ?_
  · walk_at "rd"
    exact hk
  rw [List.nil_append, show t.map (fun c => ratD (rabs c)) = (t.map rabs).map ratD by rw [List.map_map]; rfl]
  walk_at "rd"
  refine ⟨t.map rabs, 100, rfl, fun x hx => (hz' x hx).B (by decide), by rw [List.length_map]; omega, ?_⟩
  walk_at "rd"
  refine forL_ind (fun xs ρ => ∃ (ss : List Rat) (lo : Rat) (e1 e5 : Option Sl), xs = ss.map ratD ∧ ρ = [some (.d (rowD (a :: t))), e1, some (.d (.lst ((t.map rabs).map ratD))), some (.d (ratD (t.map rabs).sum)), some (.d (ratD lo)), e5] ∧
    (∀ s, s ∈ ss → Z 10000000000 s) ∧ (∃ c, c ≤ 80000000000 ∧ Z c lo) ∧ ss.foldl (fun a s => if a < 2 * s - (t.map rabs).sum then 2 * s - (t.map rabs).sum else a) lo = lowOf (t.map rabs)) ?_ ?_ _ _
    ⟨t.map rabs, 0, none, none, rfl, rfl, hz', ⟨0, by decide, Z.zero⟩, rfl⟩
  · rintro ρ ⟨ss, lo, e1, e5, h1, rfl, _, _, hf⟩
    cases ss with
    | cons _ _ => cases h1
    | nil =>
      have hf' : lo = lowOf (t.map rabs) := hf
      walk_at "rd"
      rw [hf']
      exact q
  · rintro x xs ρ ih ⟨ss, lo, e1, e5, h1, rfl, hs, ⟨c, hc, hlo⟩, hf⟩
    cases ss with
    | nil => cases h1
    | cons s ss =>
      cases h1
      rw [List.foldl_cons] at hf
      have z1 := hs s (List.mem_cons_self ..)
      have z2 : Z 20000000000 (2 * s) := by
        rw [show 2 * s = s + s by grind]
        exact z1.add z1
      have z3 := z2.sub zs
      walk_at "rd"
      refine ⟨2, s, rfl, B.int (i := 2) (by decide) (by decide), (z1.B (by decide)).mono (by decide), ?_⟩
      walk_at "rd"
      refine ⟨(z2.B (by decide)).mono (by decide), (zs.B (by omega)).mono (by decide), ?_⟩
      walk_at "rd"
      refine ⟨(hlo.B (by omega)).mono (by decide), (z3.B (by omega)).mono (by decide), ?_⟩
      walk_at "rd"
      refine ifB (fun h => ?_) (fun h => ?_)
      · rw [if_pos h] at hf
        walk_at "rd"
        exact ih _ ⟨ss, _, _, _, rfl, rfl, fun y hy => hs y (List.mem_cons_of_mem _ hy), ⟨_, by omega, z3⟩, hf⟩
      · rw [if_neg h] at hf
        walk_at "rd"
        exact ih _ ⟨ss, _, _, _, rfl, rfl, fun y hy => hs y (List.mem_cons_of_mem _ hy), ⟨c, hc, hlo⟩, hf⟩
theorem ok_law_flat (F : Fun K "_law_flat" "_law_flat" s_law_flat f fd) (T : Glob mg) : FnOk P w K mg base CX0 4 f fd ["_law_signs"] (spP K S_law_flat) := by
  refine fnP F sc_law_flat (by intro ds Q E h; unfold S_law_flat at h; repeat (first | (obtain ⟨rfl, _⟩ := h; rfl) | (obtain ⟨_, h⟩ := h))) fun cdv A outer sh H E W hr eW => ⟨_, (bd_one (sd_ret (ed_ct call_tuple_of sim_tuple (by rfl) T.n_tuple (by decide +kernel) (ad_cons (ed_frz (eo_lc rfl sc_law_flat.nd (id_list (ed_var 0)) (own := [("_law_sign", 1)]) (blk_of (N := N_law_flat) (sc := defScope s_law_flat)) (tg1 1) (fun _ _ _ _ _ => pg_name (i := 1) sc_law_flat.nd rfl (Or.inl rfl) (.inr rfl)) (fun _ _ _ _ _ => pts_yes) (fun _ _ _ _ _ => (ed_tup (ad_cons (ed_tup (ad_cons ed_int (ad_cons ed_int ad_nil))) (ad_cons (ed_tup (ad_cons (ed_var 1) (ad_cons ed_int ad_nil))) ad_nil)))))) ad_nil)))), ?_⟩
  rintro ds Q EQ ⟨ss, rfl, hl, q⟩
  walk_at "rd"
  refine compL_map D.int (fun s : Int => dirD (0, (s : Rat))) ss [] (by rw [List.length_nil]; omega) (fun s hs => ⟨trivial, fun k hk => ?_⟩) ?_
  · walk_at "rd"
    exact hk
  · walk_at "rd"
    unfold poseD at q
    rw [List.map_map] at q
    exact q
theorem ok_law_truth (F : Fun K "_law_truth" "_law_truth" s_law_truth f fd)  : FnOk P w K mg base CX0 4 f fd ["_law_told", "_law_due"] (spP K S_law_truth) := by
  refine fnP F sc_law_truth (by intro ds Q E h; unfold S_law_truth at h; repeat (first | (obtain ⟨rfl, _⟩ := h; rfl) | (obtain ⟨_, h⟩ := h))) fun cdv A outer sh H E W hr eW => ⟨_, (bd_one (sd_ret (ed_or (ed_and (ed_isB (ed_var 0) ed_bl) (ed_one (ed_var 1))) (ed_one (ed_and (ed_isB (ed_var 0) ed_bl) (ed_one (ed_not (ed_var 1)))))))), ?_⟩
  rintro ds Q EQ ⟨a, b, rfl, q⟩
  cases a <;> cases b <;> (walk_at "rd"; exact q)
theorem ok_law_direction (F : Fun K "_law_direction" "_law_direction" s_law_direction f fd) (G_law_less : Cal P w K mg base CX0 6 "_law_less" (spP K S_law_less)) (G_law_over : Cal P w K mg base CX0 6 "_law_over" (spP K S_law_over)) (G_law_plus : Cal P w K mg base CX0 6 "_law_plus" (spP K S_law_plus)) (G_law_times : Cal P w K mg base CX0 6 "_law_times" (spP K S_law_times)) : FnOk P w K mg base CX0 7 f fd ["_law_half_here"] (spP K S_law_direction) := by
  refine fnP F sc_law_direction (by intro ds Q E h; unfold S_law_direction at h; repeat (first | (obtain ⟨rfl, _⟩ := h; rfl) | (obtain ⟨_, h⟩ := h))) fun cdv A outer sh H E W hr eW => ⟨_, (bd_cons (sd_if (td_isN (ed_var 0)) (bd_one (sd_ret (ed_tup (ad_cons (ed_tup (ad_cons ed_int (ad_cons ed_int ad_nil))) (ad_cons (ed_tup (ad_cons (ed_neg ed_int) (ad_cons ed_int ad_nil))) ad_nil))))) bd_nil)
    (bd_cons (sd_set 1 sc_law_direction.nd (ec G_law_times hr (by decide) (by rfl) (ad_cons (ed_var 0) (ad_cons (ed_var 0) ad_nil))))
    (bd_cons (sd_set 2 sc_law_direction.nd (ec G_law_plus hr (by decide) (by rfl) (ad_cons (ed_tup (ad_cons ed_int (ad_cons ed_int ad_nil))) (ad_cons (ed_var 1) ad_nil))))
    (bd_one (sd_ret (ed_tup (ad_cons (ec G_law_over hr (by decide) (by rfl) (ad_cons (ec G_law_times hr (by decide) (by rfl) (ad_cons (ed_tup (ad_cons (ed_neg ed_int) (ad_cons ed_int ad_nil))) (ad_cons (ed_var 0) ad_nil))) (ad_cons (ed_var 2) ad_nil))) (ad_cons (ec G_law_over hr (by decide) (by rfl) (ad_cons (ec G_law_less hr (by decide) (by rfl) (ad_cons (ed_tup (ad_cons ed_int (ad_cons ed_int ad_nil))) (ad_cons (ed_var 1) ad_nil))) (ad_cons (ed_var 2) ad_nil))) ad_nil)))))))), ?_⟩
  rintro ds Q EQ ⟨h, rfl, hB, q⟩
  cases h with
  | none =>
    walk_at "rd"
    exact q
  | some t =>
    have ht := hB t rfl
    have h2 : B 2 (-2 : Rat) := B.int (i := -2) (by decide) (by decide)
    have hs := ht.mul ht
    have hb := B.one.add hs
    have hp : (0 : Rat) < 1 + t * t := by have := sq0 t; grind
    walk_at "rd"
    refine ⟨ht.mono (by decide), ht.mono (by decide), ?_⟩
    walk_at "rd"
    refine ⟨1, t * t, rfl, B.one.mono (by decide), hs.mono (by decide), ?_⟩
    walk_at "rd"
    refine ⟨-2, t, rfl, h2.mono (by decide), ht.mono (by decide), ?_⟩
    walk_at "rd"
    refine ⟨(h2.mul ht).mono (by decide), hb.mono (by decide), hp, ?_⟩
    walk_at "rd"
    refine ⟨1, t * t, rfl, B.one.mono (by decide), hs.mono (by decide), ?_⟩
    walk_at "rd"
    refine ⟨(B.one.sub hs).mono (by decide), hb.mono (by decide), hp, ?_⟩
    walk_at "rd"
    exact q
end
end SA
end

section
set_option Elab.async false
set_option linter.all false
set_option maxRecDepth 100000
set_option maxHeartbeats 4000000
namespace SA
open PySem PySem.Spec PyProof.Rows L2 DL RM
local macro_rules | `(tactic| walk_at "rd") => `(tactic| repeat (first | refine ⟨_, rfl, ?_⟩ | refine ⟨rfl, ?_⟩ | refine ⟨_, _, rfl, ?_⟩ | refine ⟨_, _, _, rfl, rfl, ?_⟩ | refine ⟨_, _, _, rfl, ?_⟩ | refine iteT ?_ | refine iteF ?_))
section
variable {P : Program} {w : World} {K : PySem.W.Frag} {mg : Str → Option Value} {base : Heap} {f : Addr} {fd : FuncData}
theorem compL_none {ok : D → Prop} {f : D → DL.Env} {tt : DT} {te : DE} {Q : List D → Prop} {α : Type} (G : α → D) : ∀ (l : List α) (acc : List D), (∀ a, a ∈ l → ok (G a) ∧ ∀ p : Bool → Prop, p false → tt (f (G a)) p) → Q acc → compL ok f tt te (l.map G) acc Q
  | [], acc, _, q => q
  | a :: l, acc, hs, q => by
    refine ⟨(hs a (List.mem_cons_self ..)).1, (hs a (List.mem_cons_self ..)).2 _ ?_⟩
    rw [if_neg Bool.false_ne_true]
    exact compL_none G l acc (fun b hb => hs b (List.mem_cons_of_mem _ hb)) q
theorem ok_law_same (F : Fun K "_law_same" "_law_same" s_law_same f fd) (T : Glob mg) : FnOk P w K mg base CX0 4 f fd ["_law_told", "_law_due"] (spP K S_law_same) := by
  refine fnP F sc_law_same (by intro ds Q E h; unfold S_law_same at h; repeat (first | (obtain ⟨rfl, _⟩ := h; rfl) | (obtain ⟨_, h⟩ := h))) fun cdv A outer sh H E W hr eW => ⟨_, (bd_cons (sd_if (wd_or (td_not (td_val (ed_isTup (by rfl) T.n_isinstance (by rfl) T.n_tuple (ed_var 0)))) (wd_or1 (td_ne (ed_cb call_len_seq sim_len (by rfl) T.n_len (by decide +kernel) (ad_cons (ed_var 0) ad_nil)) ed_int))).pt (bd_one (sd_ret ed_bl)) bd_nil)
    (bd_cons (sd_for PassesOwn.never rfl (id_tup (ed_var 0)) (gd_name 2 sc_law_same.nd) (bd_one (sd_if (wd_or (td_not (td_val (ed_isInt (by rfl) T.n_isinstance (by rfl) T.n_int (ed_var 2)))) (wd_or1 (td_val (ed_isBool (by rfl) T.n_isinstance (by rfl) T.n_bool (ed_var 2))))).pt (bd_one (sd_ret ed_bl)) bd_nil)))
    (bd_one (sd_ret (ed_and (ed_eq (ed_ix (ed_var 0) ed_int) (ed_ix (ed_var 1) ed_int)) (ed_one (ed_eq (ed_ix (ed_var 0) ed_int) (ed_ix (ed_var 1) ed_int)))))))), ?_⟩
  rintro ds Q EQ ⟨a, rfl, q⟩
  walk_at "rd"
  have e1 : scalD (.int a.num) (.int a.num) = true := decide_eq_true rfl
  have e2 : scalD (.int ((a.den : Nat) : Int)) (.int ((a.den : Nat) : Int)) = true := decide_eq_true rfl
  rw [e1]
  walk_at "rd"
  rw [e2]
  exact q
theorem ok_law_same_row (F : Fun K "_law_same_row" "_law_same_row" s_law_same_row f fd) (G_law_same : Cal P w K mg base CX0 4 "_law_same" (spP K S_law_same)) (T : Glob mg) : FnOk P w K mg base CX0 5 f fd ["_law_told", "_law_due"] (spP K S_law_same_row) := by
  refine fnP F sc_law_same_row (by intro ds Q E h; unfold S_law_same_row at h; repeat (first | (obtain ⟨rfl, _⟩ := h; rfl) | (obtain ⟨_, h⟩ := h))) fun cdv A outer sh H E W hr eW => ⟨_, (bd_cons (sd_if (wd_or (td_not (td_val (ed_isTup (by rfl) T.n_isinstance (by rfl) T.n_tuple (ed_var 0)))) (wd_or1 (td_ne (ed_cb call_len_seq sim_len (by rfl) T.n_len (by decide +kernel) (ad_cons (ed_var 0) ad_nil)) (ed_cb call_len_seq sim_len (by rfl) T.n_len (by decide +kernel) (ad_cons (ed_var 1) ad_nil))))).pt (bd_one (sd_ret ed_bl)) bd_nil)
    (bd_one (sd_ret (ed_eqD hr (ed_frz (eo_lc rfl sc_law_same_row.nd (id_range1 (by rfl) T.n_range (ad_cons (ed_cb call_len_seq sim_len (by rfl) T.n_len (by decide +kernel) (ad_cons (ed_var 1) ad_nil)) ad_nil)) (own := [("_law_k", 2)]) (blk_of (N := N_law_same_row) (sc := defScope s_law_same_row)) (tg1 2) (fun _ _ _ _ _ => pg_name (i := 2) sc_law_same_row.nd rfl (Or.inl rfl) (.inr rfl)) (fun _ _ _ _ _ => pts_test (td_not (td_val (ec G_law_same hr (by decide) (by rfl) (ad_cons (ed_ix (ed_var 0) (ed_var 2)) (ad_cons (ed_ix (ed_var 1) (ed_var 2)) ad_nil)))))) (fun _ _ _ _ _ => (ed_var 2)))) (ed_frz (eo_lst ad_nil)))))), ?_⟩
  rintro ds Q EQ ⟨r, rfl, hl, q⟩
  walk_at "rd"
  rw [List.length_map]
  have e : scalD (.int ((r.length : Nat) : Int)) (.int ((r.length : Nat) : Int)) = true := decide_eq_true rfl
  rw [e]
  walk_at "rd"
  rw [List.length_map]
  refine ⟨by omega, by omega, ?_⟩
  unfold DL.intsFrom
  rw [show ((r.length : Nat) : Int).toNat = r.length by omega]
  walk_at "rd"
  refine compL_none (fun i : Nat => D.int (0 + (i : Nat))) (List.range r.length) [] (fun i hi => ⟨trivial, fun p hk => ?_⟩) ?_
  · have hi' := List.mem_range.mp hi
    obtain ⟨v, hv⟩ := at_some (l := r) (i := i) hi'
    walk_at "rd"
    refine ⟨_, row_at (by omega) (show r[(0 + (i : Int)).toNat]? = some v by rw [show (0 + (i : Int)).toNat = i by omega]; exact hv), ?_⟩
    walk_at "rd"
    refine ⟨_, row_at (by omega) (show r[(0 + (i : Int)).toNat]? = some v by rw [show (0 + (i : Int)).toNat = i by omega]; exact hv), ?_⟩
    walk_at "rd"
    exact hk
  · walk_at "rd"
    exact ⟨true, eqD_ints [] [], q⟩
theorem ok_law_same_rows (F : Fun K "_law_same_rows" "_law_same_rows" s_law_same_rows f fd) (G_law_same_row : Cal P w K mg base CX0 5 "_law_same_row" (spP K S_law_same_row)) (T : Glob mg) : FnOk P w K mg base CX0 6 f fd ["_law_told", "_law_due"] (spP K S_law_same_rows) := by
  refine fnP F sc_law_same_rows (by intro ds Q E h; unfold S_law_same_rows at h; repeat (first | (obtain ⟨rfl, _⟩ := h; rfl) | (obtain ⟨_, h⟩ := h))) fun cdv A outer sh H E W hr eW => ⟨_, (bd_cons (sd_if (wd_or (td_not (td_val (ed_isTup (by rfl) T.n_isinstance (by rfl) T.n_tuple (ed_var 0)))) (wd_or1 (td_ne (ed_cb call_len_seq sim_len (by rfl) T.n_len (by decide +kernel) (ad_cons (ed_var 0) ad_nil)) (ed_cb call_len_seq sim_len (by rfl) T.n_len (by decide +kernel) (ad_cons (ed_var 1) ad_nil))))).pt (bd_one (sd_ret ed_bl)) bd_nil)
    (bd_one (sd_ret (ed_eqD hr (ed_frz (eo_lc rfl sc_law_same_rows.nd (id_range1 (by rfl) T.n_range (ad_cons (ed_cb call_len_seq sim_len (by rfl) T.n_len (by decide +kernel) (ad_cons (ed_var 1) ad_nil)) ad_nil)) (own := [("_law_k", 2)]) (blk_of (N := N_law_same_rows) (sc := defScope s_law_same_rows)) (tg1 2) (fun _ _ _ _ _ => pg_name (i := 2) sc_law_same_rows.nd rfl (Or.inl rfl) (.inr rfl)) (fun _ _ _ _ _ => pts_test (td_not (td_val (ec G_law_same_row hr (by decide) (by rfl) (ad_cons (ed_ix (ed_var 0) (ed_var 2)) (ad_cons (ed_ix (ed_var 1) (ed_var 2)) ad_nil)))))) (fun _ _ _ _ _ => (ed_var 2)))) (ed_frz (eo_lst ad_nil)))))), ?_⟩
  rintro ds Q EQ ⟨us, rfl, hl, q⟩
  walk_at "rd"
  rw [List.length_map]
  have e : scalD (.int ((us.length : Nat) : Int)) (.int ((us.length : Nat) : Int)) = true := decide_eq_true rfl
  rw [e]
  walk_at "rd"
  rw [List.length_map]
  refine ⟨by omega, by omega, ?_⟩
  unfold DL.intsFrom
  rw [show ((us.length : Nat) : Int).toNat = us.length by omega]
  walk_at "rd"
  refine compL_none (fun i : Nat => D.int (0 + (i : Nat))) (List.range us.length) [] (fun i hi => ⟨trivial, fun p hk => ?_⟩) ?_
  · have hi' := List.mem_range.mp hi
    obtain ⟨v, hv⟩ := at_some (l := us) (i := i) hi'
    have ha : atI (us.map dirD) (0 + (i : Int)) = some (dirD v) := (atI_of (n := i) (by omega)).trans (by rw [List.getElem?_map, hv]; rfl)
    walk_at "rd"
    refine ⟨_, ha, ?_⟩
    walk_at "rd"
    refine ⟨_, ha, ?_⟩
    walk_at "rd"
    refine ⟨[v.1, v.2], rfl, (by show 2 ≤ 900; decide), ?_⟩
    walk_at "rd"
    exact hk
  · walk_at "rd"
    exact ⟨true, eqD_ints [] [], q⟩
theorem ok_law_is_ratio (F : Fun K "_law_is_ratio" "_law_is_ratio" s_law_is_ratio f fd) (G_law_gcd : Cal P w K mg base CX0 4 "_law_gcd" (spP K S_law_gcd)) (T : Glob mg) : FnOk P w K mg base CX0 5 f fd ["_law_thing"] (spP K S_law_is_ratio) := by
  refine fnP F sc_law_is_ratio (by intro ds Q E h; unfold S_law_is_ratio at h; repeat (first | (obtain ⟨rfl, _⟩ := h; rfl) | (obtain ⟨_, h⟩ := h))) fun cdv A outer sh H E W hr eW => ⟨_, (bd_cons (sd_if (wd_or (td_not (td_val (ed_isTup (by rfl) T.n_isinstance (by rfl) T.n_tuple (ed_var 0)))) (wd_or1 (td_ne (ed_cb call_len_seq sim_len (by rfl) T.n_len (by decide +kernel) (ad_cons (ed_var 0) ad_nil)) ed_int))).pt (bd_one (sd_ret ed_bl)) bd_nil)
    (bd_cons (sd_for PassesOwn.never rfl (id_tup (ed_var 0)) (gd_name 1 sc_law_is_ratio.nd) (bd_one (sd_if (wd_or (td_not (td_val (ed_isInt (by rfl) T.n_isinstance (by rfl) T.n_int (ed_var 1)))) (wd_or1 (td_val (ed_isBool (by rfl) T.n_isinstance (by rfl) T.n_bool (ed_var 1))))).pt (bd_one (sd_ret ed_bl)) bd_nil)))
    (bd_one (sd_ret (ed_and (ed_ge (ed_ix (ed_var 0) ed_int) ed_int) (ed_one (ed_eq (ec G_law_gcd hr (by decide) (by rfl) (ad_cons (ed_ix (ed_var 0) ed_int) (ad_cons (ed_ix (ed_var 0) ed_int) ad_nil))) ed_int))))))), ?_⟩
  rintro ds Q EQ ⟨x, rfl, hp, q⟩
  cases x with
  | ins _ _ _ => cases hp
  | tup xs =>
    match xs, hp with
    | [], hp => walk_at "rd"; exact q
    | [a], hp =>
      walk_at "rd"
      have e : ratioQ (.tup [a]) = false := by cases a <;> rfl
      rw [e] at q; exact q
    | [a, b], hp =>
      have ha := (all2 (p := p1) hp).1
      have hb := (all2 (p := p1) hp).2
      cases a with
      | int i =>
        cases b with
        | int j =>
          walk_at "rd"
          refine ifB (fun c => ?_) (fun c => ?_)
          · have e : ratioQ (.tup [.int i, .int j]) = decide (Nat.gcd i.natAbs j.natAbs = 1) := by
              show (decide (1 ≤ j) && _) = _
              rw [decide_eq_true c]; rfl
            have e2 : scalD (.int ((Nat.gcd i.natAbs j.natAbs : Nat) : Int)) (.int 1) = decide (Nat.gcd i.natAbs j.natAbs = 1) := by
              show decide (((Nat.gcd i.natAbs j.natAbs : Nat) : Int) = 1) = _
              exact decide_eq_decide.mpr (by omega)
            rw [e] at q
            walk_at "rd"
            rw [e2]; exact q
          · have e : ratioQ (.tup [.int i, .int j]) = false := by
              show (decide (1 ≤ j) && _) = _
              rw [decide_eq_false c]; rfl
            rw [e] at q
            exact q
        | ins _ _ _ => cases hb
        | _ => walk_at "rd"; exact q
      | ins _ _ _ => cases ha
      | _ => walk_at "rd"; exact q
    | a :: b :: c :: r, hp =>
      walk_at "rd"
      have e : ratioQ (.tup (a :: b :: c :: r)) = false := by cases a <;> cases b <;> rfl
      rw [e] at q; exact q
  | _ => walk_at "rd"; exact q
theorem ok_law_is_spot (F : Fun K "_law_is_spot" "_law_is_spot" s_law_is_spot f fd) (G_law_is_ratio : Cal P w K mg base CX0 5 "_law_is_ratio" (spP K S_law_is_ratio)) (T : Glob mg) : FnOk P w K mg base CX0 6 f fd ["_law_thing"] (spP K S_law_is_spot) := by
  refine fnP F sc_law_is_spot (by intro ds Q E h; unfold S_law_is_spot at h; repeat (first | (obtain ⟨rfl, _⟩ := h; rfl) | (obtain ⟨_, h⟩ := h))) fun cdv A outer sh H E W hr eW => ⟨_, (bd_cons (sd_if (wd_or (td_not (td_val (ed_isSeq (by rfl) T.n_isinstance (by rfl) T.n_list (by rfl) T.n_tuple (ed_var 0)))) (wd_or1 (td_ne (ed_cb call_len_seq sim_len (by rfl) T.n_len (by decide +kernel) (ad_cons (ed_var 0) ad_nil)) ed_int))).pt (bd_one (sd_ret ed_bl)) bd_nil)
    (bd_one (sd_ret (ed_and (ec G_law_is_ratio hr (by decide) (by rfl) (ad_cons (ed_ix (ed_var 0) ed_int) ad_nil)) (ed_one (ec G_law_is_ratio hr (by decide) (by rfl) (ad_cons (ed_ix (ed_var 0) ed_int) ad_nil))))))), ?_⟩
  rintro ds Q EQ ⟨x, rfl, hp, q⟩
  have key : ∀ xs : List D, itemsD x = some xs → xs.all p2 = true → xs.length = 2 → ∃ a b, xs = [a, b] ∧ spotQ x = (ratioQ a && ratioQ b) ∧ p2 a = true ∧ p2 b = true := fun xs e h hl => by
    match xs, hl with
    | [a, b], _ =>
      refine ⟨a, b, rfl, ?_, (all2 h).1, (all2 h).2⟩
      unfold spotQ; rw [e]
  have key2 : ∀ xs : List D, itemsD x = some xs → xs.length ≠ 2 → spotQ x = false := fun xs e hl => by
    match xs, hl with
    | [], _ => unfold spotQ; rw [e]
    | [a], _ => unfold spotQ; rw [e]
    | [a, b], h => exact absurd rfl h
    | a :: b :: c :: r, _ => unfold spotQ; rw [e]
  cases x with
  | ins _ _ _ => cases hp
  | tup xs =>
    walk_at "rd"
    refine ifb (fun c => ?_) (fun c => ?_)
    · walk_at "rd"
      rw [key2 xs rfl fun z => by rw [z] at c; cases c] at q
      exact q
    · have hl : xs.length = 2 := by
        have c' : (!decide (((xs.length : Nat) : Int) = 2)) = false := c
        rw [Bool.not_eq_false', decide_eq_true_eq] at c'
        omega
      obtain ⟨a, b, rfl, e, pa, pb⟩ := key xs rfl hp hl
      rw [e] at q
      walk_at "rd"
      refine ⟨pa, ?_⟩
      walk_at "rd"
      refine ifb (fun c1 => ?_) (fun c1 => ?_)
      · rw [c1] at q
        walk_at "rd"
        exact ⟨pb, q⟩
      · rw [c1] at q
        exact q
  | lst xs =>
    walk_at "rd"
    refine ifb (fun c => ?_) (fun c => ?_)
    · walk_at "rd"
      rw [key2 xs rfl fun z => by rw [z] at c; cases c] at q
      exact q
    · have hl : xs.length = 2 := by
        have c' : (!decide (((xs.length : Nat) : Int) = 2)) = false := c
        rw [Bool.not_eq_false', decide_eq_true_eq] at c'
        omega
      obtain ⟨a, b, rfl, e, pa, pb⟩ := key xs rfl hp hl
      rw [e] at q
      walk_at "rd"
      refine ⟨pa, ?_⟩
      walk_at "rd"
      refine ifb (fun c1 => ?_) (fun c1 => ?_)
      · rw [c1] at q
        walk_at "rd"
        exact ⟨pb, q⟩
      · rw [c1] at q
        exact q
  | _ => walk_at "rd"; exact q
theorem p2_rat (r : Rat) : p2 (ratD r) = true := rfl
theorem ok_law_is_pose (F : Fun K "_law_is_pose" "_law_is_pose" s_law_is_pose f fd) (G_law_is_ratio : Cal P w K mg base CX0 5 "_law_is_ratio" (spP K S_law_is_ratio)) (G_law_square : Cal P w K mg base CX0 7 "_law_square" (spP K S_law_square)) (T : Glob mg) : FnOk P w K mg base CX0 8 f fd ["_law_told", "_law_n"] (spP K S_law_is_pose) := by
  refine fnP F sc_law_is_pose (by intro ds Q E h; unfold S_law_is_pose at h; repeat (first | (obtain ⟨rfl, _⟩ := h; rfl) | (obtain ⟨_, h⟩ := h))) fun cdv A outer sh H E W hr eW => ⟨_, (bd_cons (sd_if (wd_or (td_not (td_val (ed_isTup (by rfl) T.n_isinstance (by rfl) T.n_tuple (ed_var 0)))) (wd_or1 (td_ne (ed_cb call_len_seq sim_len (by rfl) T.n_len (by decide +kernel) (ad_cons (ed_var 0) ad_nil)) (ed_var 1)))).pt (bd_one (sd_ret ed_bl)) bd_nil)
    (bd_cons (sd_for PassesOwn.never rfl (id_tup (ed_var 0)) (gd_name 2 sc_law_is_pose.nd) (bd_cons (sd_if (wd_or (td_not (td_val (ed_isTup (by rfl) T.n_isinstance (by rfl) T.n_tuple (ed_var 2)))) (wd_or1 (td_ne (ed_cb call_len_seq sim_len (by rfl) T.n_len (by decide +kernel) (ad_cons (ed_var 2) ad_nil)) ed_int))).pt (bd_one (sd_ret ed_bl)) bd_nil)
    (bd_one (sd_if (wd_or (td_not (td_val (ec G_law_is_ratio hr (by decide) (by rfl) (ad_cons (ed_ix (ed_var 2) ed_int) ad_nil)))) (wd_or (td_not (td_val (ec G_law_is_ratio hr (by decide) (by rfl) (ad_cons (ed_ix (ed_var 2) ed_int) ad_nil)))) (wd_or1 (td_neD hr (ec G_law_square hr (by decide) (by rfl) (ad_cons (ed_var 2) ad_nil)) (ed_tup (ad_cons ed_int (ad_cons ed_int ad_nil))))))).pt (bd_one (sd_ret ed_bl)) bd_nil))))
    (bd_one (sd_ret ed_bl)))), ?_⟩
  rintro ds Q EQ ⟨us, rfl, hl, hu, q⟩
  walk_at "rd"
  rw [List.length_map]
  have e : scalD (.int ((us.length : Nat) : Int)) (.int ((us.length : Nat) : Int)) = true := decide_eq_true rfl
  rw [e]
  walk_at "rd"
  refine forL_ind (fun xs ρ => ∃ (us' : List (Rat × Rat)) (e2 : Option Sl), xs = us'.map dirD ∧ ρ = [some (.d (poseD us)), some (.d (.int ((us.length : Nat) : Int))), e2] ∧ ∀ u, u ∈ us' → u ∈ us) ?_ ?_ _ _ ⟨us, none, rfl, rfl, fun _ h => h⟩
  · rintro ρ ⟨us', e2, h1, rfl, _⟩
    walk_at "rd"
    exact q
  · rintro x xs ρ ih ⟨us', e2, h1, rfl, hm⟩
    cases us' with
    | nil => cases h1
    | cons u us' =>
      cases h1
      obtain ⟨hU, b1, b2⟩ := hu u (hm u (List.mem_cons_self ..))
      walk_at "rd"
      rw [ratioQ_rat]
      walk_at "rd"
      rw [ratioQ_rat]
      walk_at "rd"
      refine ⟨b1.mono (by decide), b2.mono (by decide), ?_⟩
      walk_at "rd"
      refine ⟨_, eqD_rat (u.1 * u.1 + u.2 * u.2) 1, ?_⟩
      rw [decide_eq_true (show u.1 * u.1 + u.2 * u.2 = 1 from hU)]
      walk_at "rd"
      exact ih _ ⟨us', _, rfl, rfl, fun v hv => hm v (List.mem_cons_of_mem _ hv)⟩
end
end SA
end

section
set_option Elab.async false
set_option linter.all false
set_option maxRecDepth 100000
set_option maxHeartbeats 4000000
namespace SA
open PySem PySem.Spec PyProof.Rows L2 DL RM
local macro_rules | `(tactic| walk_at "rd") => `(tactic| repeat (first | refine ⟨_, rfl, ?_⟩ | refine ⟨rfl, ?_⟩ | refine ⟨_, _, rfl, ?_⟩ | refine ⟨_, _, _, rfl, rfl, ?_⟩ | refine ⟨_, _, _, rfl, ?_⟩ | refine iteT ?_ | refine iteF ?_))
section
variable {P : Program} {w : World} {K : PySem.W.Frag} {mg : Str → Option Value} {base : Heap} {f : Addr} {fd : FuncData}
theorem xs_get {us : List (Rat × Rat)} {l : Int} (h0 : 0 < l) (h1 : l ≤ us.length) : ∃ u, us[(l - 1).toNat]? = some u ∧ (xsOf us).getD l.toNat 0 = u.1 ∧ (ysOf us).getD l.toNat 0 = u.2 := by
  obtain ⟨u, hu⟩ := at_some (l := us) (i := (l - 1).toNat) (by omega)
  refine ⟨u, hu, ?_, ?_⟩
  · unfold xsOf
    rw [show l.toNat = (l - 1).toNat + 1 by omega]
    exact getD_of (by rw [List.getElem?_cons_succ, List.getElem?_map, hu]; rfl)
  · unfold ysOf
    rw [show l.toNat = (l - 1).toNat + 1 by omega]
    exact getD_of (by rw [List.getElem?_cons_succ, List.getElem?_map, hu]; rfl)
theorem ok_law_stand (F : Fun K "_law_stand" "_law_stand" s_law_stand f fd) (G_law_plus : Cal P w K mg base CX0 6 "_law_plus" (spP K S_law_plus)) (G_law_times : Cal P w K mg base CX0 6 "_law_times" (spP K S_law_times)) (T : Glob mg) : FnOk P w K mg base CX0 7 f fd ["_law_bars", "_law_pose", "_law_place"] (spP K S_law_stand) := by
  refine fnP F sc_law_stand (by intro ds Q E h; unfold S_law_stand at h; repeat (first | (obtain ⟨rfl, _⟩ := h; rfl) | (obtain ⟨_, h⟩ := h))) fun cdv A outer sh H E W hr eW => ⟨_, (bd_cons (sd_asg (ed_var 2) (gd_tup rfl (gds_cons (gd_name 3 sc_law_stand.nd) (gds_cons (gd_name 4 sc_law_stand.nd) gds_nil))))
    (bd_cons (sd_set 5 sc_law_stand.nd (ed_tup (ad_cons ed_int (ad_cons ed_int ad_nil))))
    (bd_cons (sd_set 6 sc_law_stand.nd (ed_tup (ad_cons ed_int (ad_cons ed_int ad_nil))))
    (bd_cons (sd_for PassesOwn.never rfl (id_range1 (by rfl) T.n_range (ad_cons (ed_add (ed_cb call_len_seq sim_len (by rfl) T.n_len (by decide +kernel) (ad_cons (ed_var 0) ad_nil)) ed_int) ad_nil)) (gd_name 7 sc_law_stand.nd) (bd_cons (sd_set 8 sc_law_stand.nd (ed_ifExp (td_lt (ed_var 3) ed_int) ed_int (ed_ix (ed_ix (ed_var 0) (ed_var 3)) ed_int)))
    (bd_cons (sd_set 9 sc_law_stand.nd (ed_ifExp (td_eq (ed_var 8) ed_int) (ed_tup (ad_cons (ed_tup (ad_cons ed_int (ad_cons ed_int ad_nil))) (ad_cons (ed_tup (ad_cons ed_int (ad_cons ed_int ad_nil))) ad_nil))) (ed_ix (ed_var 1) (ed_sub (ed_var 8) ed_int))))
    (bd_cons (sd_set 5 sc_law_stand.nd (ec G_law_plus hr (by decide) (by rfl) (ad_cons (ed_var 5) (ad_cons (ec G_law_times hr (by decide) (by rfl) (ad_cons (ed_var 4) (ad_cons (ed_ix (ed_var 9) ed_int) ad_nil))) ad_nil))))
    (bd_cons (sd_set 6 sc_law_stand.nd (ec G_law_plus hr (by decide) (by rfl) (ad_cons (ed_var 6) (ad_cons (ec G_law_times hr (by decide) (by rfl) (ad_cons (ed_var 4) (ad_cons (ed_ix (ed_var 9) ed_int) ad_nil))) ad_nil))))
    (bd_cons (sd_if (td_lt (ed_var 3) ed_int) (bd_one sd_break) bd_nil)
    (bd_one (sd_par 3 4 rfl sc_law_stand.nd (ad_cons (ed_ix (ed_ix (ed_var 0) (ed_var 3)) ed_int) (ad_cons (ed_ix (ed_ix (ed_var 0) (ed_var 3)) ed_int) ad_nil))))))))))
    (bd_one (sd_ret (ed_tup (ad_cons (ed_var 5) (ad_cons (ed_var 6) ad_nil))))))))), ?_⟩
  rintro ds Q EQ ⟨bs, n, us, p, rfl, hb, hp, hu, hU, q⟩
  have h4 := hb.n4
  have h6 := hb.l6
  have ex : standGo bs (xsOf us) (bs.length + 1) p.1 p.2 0 = dot (rowOf bs n p) (xsOf us) := stand_row (N := n) hb.lett (by unfold xsOf; rw [List.length_cons, List.length_map, hu]) p
  have ey : standGo bs (ysOf us) (bs.length + 1) p.1 p.2 0 = dot (rowOf bs n p) (ysOf us) := stand_row (N := n) hb.lett (by unfold ysOf; rw [List.length_cons, List.length_map, hu]) p
  rw [← ex, ← ey] at q
  walk_at "rd"
  rw [List.length_map]
  refine ⟨show (-(2 ^ 62) : Int) ≤ ((bs.length : Nat) : Int) + 1 by omega, show ((bs.length : Nat) : Int) + 1 < 2 ^ 62 by omega, ?_⟩
  refine forL_ind (fun xs ρ => ∃ (k' : Int) (m' x y : Rat) (c : Nat) (e7 e8 e9 : Option Sl), ρ = [some (.d (barsD bs)), some (.d (poseD us)), some (.d (placeD p)), some (.d (.int k')), some (.d (ratD m')), some (.d (ratD x)), some (.d (ratD y)), e7, e8, e9] ∧
      standGo bs (xsOf us) xs.length k' m' x = standGo bs (xsOf us) (bs.length + 1) p.1 p.2 0 ∧ standGo bs (ysOf us) xs.length k' m' y = standGo bs (ysOf us) (bs.length + 1) p.1 p.2 0 ∧ -1 ≤ k' ∧ k' < bs.length ∧ Z 100000000 m' ∧ B c x ∧ B c y ∧ c + xs.length * 201 ≤ 1500) ?_ ?_ _ _
    ⟨p.1, p.2, 0, 0, 1, none, none, none, rfl, ?_, ?_, hp.lo, hp.hi, hp.mark, B.zero, B.zero, ?_⟩
  · rintro ρ ⟨k', m', x, y, c, e7, e8, e9, rfl, hx, hy, _⟩
    walk_at "rd"
    have hx' : x = standGo bs (xsOf us) (bs.length + 1) p.1 p.2 0 := hx
    have hy' : y = standGo bs (ysOf us) (bs.length + 1) p.1 p.2 0 := hy
    rw [hx', hy']
    exact q
  · rintro t xs ρ ih ⟨k', m', x, y, c, e7, e8, e9, rfl, hx, hy, hk, hk2, hm, bx, by', hc⟩
    rw [List.length_cons] at hx hy hc
    unfold standGo at hx hy
    have bm := hm.B (by decide)
    walk_at "rd"
    refine ifB (fun hn => ?_) (fun hn => ?_)
    · rw [if_pos hn] at hx hy
      walk_at "rd"
      have b1 : B 100 (m' * 0) := by rw [Rat.mul_zero]; exact B.zero.mono (by decide)
      have b2 : B 100 (m' * 1) := by rw [Rat.mul_one]; exact bm
      refine ⟨m', 0, rfl, bm.mono (by decide), B.zero.mono (by decide), ?_⟩
      walk_at "rd"
      refine ⟨bx.mono (by omega), b1.mono (by decide), ?_⟩
      walk_at "rd"
      refine ⟨m', 1, rfl, bm.mono (by decide), B.one.mono (by decide), ?_⟩
      walk_at "rd"
      refine ⟨by'.mono (by omega), b2.mono (by decide), ?_⟩
      walk_at "rd"
      refine ifT hn ?_
      walk_at "rd"
      have hx' : x + m' * 0 = standGo bs (xsOf us) (bs.length + 1) p.1 p.2 0 := hx
      have hy' : y + m' * 1 = standGo bs (ysOf us) (bs.length + 1) p.1 p.2 0 := hy
      rw [hx', hy']
      exact q
    · rw [if_neg hn] at hx hy
      obtain ⟨b, hbk⟩ := at_some (l := bs) (i := k'.toNat) (by omega)
      rw [hbk] at hx hy
      have hbm := List.mem_of_getElem? hbk
      obtain ⟨h1, h2⟩ := hb.host _ _ hbk
      obtain ⟨h3, h5⟩ := hb.lett b hbm
      walk_at "rd"
      refine ⟨_, bar_at (by omega) hbk, ?_⟩
      walk_at "rd"
      by_cases hz : b.2.2 = 0
      · have e0 : scalD (.int b.2.2) (.int 0) = true := decide_eq_true hz
        rw [e0]
        have g1 : (xsOf us).getD b.2.2.toNat 0 = 0 := by rw [hz]; rfl
        have g2 : (ysOf us).getD b.2.2.toNat 0 = 1 := by rw [hz]; rfl
        have hx1 : standGo bs (xsOf us) xs.length b.1 b.2.1 (x + m' * (xsOf us).getD b.2.2.toNat 0) = _ := hx
        have hy1 : standGo bs (ysOf us) xs.length b.1 b.2.1 (y + m' * (ysOf us).getD b.2.2.toNat 0) = _ := hy
        rw [g1] at hx1
        rw [g2] at hy1
        have b1 : B 100 (m' * 0) := by rw [Rat.mul_zero]; exact B.zero.mono (by decide)
        have b2 : B 100 (m' * 1) := by rw [Rat.mul_one]; exact bm
        walk_at "rd"
        refine ⟨m', 0, rfl, bm.mono (by decide), B.zero.mono (by decide), ?_⟩
        walk_at "rd"
        refine ⟨bx.mono (by omega), b1.mono (by decide), ?_⟩
        walk_at "rd"
        refine ⟨m', 1, rfl, bm.mono (by decide), B.one.mono (by decide), ?_⟩
        walk_at "rd"
        refine ⟨by'.mono (by omega), b2.mono (by decide), ?_⟩
        walk_at "rd"
        refine ifF hn ?_
        walk_at "rd"
        refine ⟨_, bar_at (by omega) hbk, ?_⟩
        walk_at "rd"
        refine ⟨_, bar_at (by omega) hbk, ?_⟩
        walk_at "rd"
        exact ih _ ⟨b.1, b.2.1, x + m' * 0, y + m' * 1, c + 100 + 1, _, _, _, rfl, hx1, hy1, h1, by omega, hb.mark b hbm, bx.add b1, by'.add b2, by omega⟩
      · have e0 : scalD (.int b.2.2) (.int 0) = false := decide_eq_false hz
        rw [e0]
        obtain ⟨u, hu1, g1, g2⟩ := xs_get (us := us) (l := b.2.2) (by omega) (by omega)
        obtain ⟨bu1, bu2⟩ := hU u (List.mem_of_getElem? hu1)
        have hx1 : standGo bs (xsOf us) xs.length b.1 b.2.1 (x + m' * (xsOf us).getD b.2.2.toNat 0) = _ := hx
        have hy1 : standGo bs (ysOf us) xs.length b.1 b.2.1 (y + m' * (ysOf us).getD b.2.2.toNat 0) = _ := hy
        rw [g1] at hx1
        rw [g2] at hy1
        have b1 := bm.mul bu1
        have b2 := bm.mul bu2
        have ha : atI (us.map dirD) (b.2.2 - 1) = some (dirD u) := (atI_of (n := (b.2.2 - 1).toNat) (by omega)).trans (by rw [List.getElem?_map, hu1]; rfl)
        walk_at "rd"
        refine ⟨_, ha, ?_⟩
        walk_at "rd"
        refine ⟨bm.mono (by decide), bu1.mono (by decide), ?_⟩
        walk_at "rd"
        refine ⟨bx.mono (by omega), b1.mono (by decide), ?_⟩
        walk_at "rd"
        refine ⟨bm.mono (by decide), bu2.mono (by decide), ?_⟩
        walk_at "rd"
        refine ⟨by'.mono (by omega), b2.mono (by decide), ?_⟩
        walk_at "rd"
        refine ifF hn ?_
        walk_at "rd"
        refine ⟨_, bar_at (by omega) hbk, ?_⟩
        walk_at "rd"
        refine ⟨_, bar_at (by omega) hbk, ?_⟩
        walk_at "rd"
        exact ih _ ⟨b.1, b.2.1, x + m' * u.1, y + m' * u.2, c + (100 + 100) + 1, _, _, _, rfl, hx1, hy1, h1, by omega, hb.mark b hbm, bx.add b1, by'.add b2, by omega⟩
  · show standGo bs (xsOf us) (DL.intsFrom 0 (((bs.length : Nat) : Int) + 1).toNat).length p.1 p.2 _ = _
    unfold DL.intsFrom
    rw [List.length_map, List.length_range, show (((bs.length : Nat) : Int) + 1).toNat = bs.length + 1 by omega]
  · show standGo bs (ysOf us) (DL.intsFrom 0 (((bs.length : Nat) : Int) + 1).toNat).length p.1 p.2 _ = _
    unfold DL.intsFrom
    rw [List.length_map, List.length_range, show (((bs.length : Nat) : Int) + 1).toNat = bs.length + 1 by omega]
  · show 1 + (DL.intsFrom 0 (((bs.length : Nat) : Int) + 1).toNat).length * 201 ≤ _
    unfold DL.intsFrom
    rw [List.length_map, List.length_range]
    omega
end
end SA
end

section
set_option Elab.async false
set_option linter.all false
set_option maxRecDepth 100000
set_option maxHeartbeats 4000000
namespace SA
open PySem PySem.Spec PyProof.Rows L2 DL RM
local macro_rules | `(tactic| walk_at "rd") => `(tactic| repeat (first | refine ⟨_, rfl, ?_⟩ | refine ⟨rfl, ?_⟩ | refine ⟨_, _, rfl, ?_⟩ | refine ⟨_, _, _, rfl, rfl, ?_⟩ | refine ⟨_, _, _, rfl, ?_⟩ | refine ⟨_, _, _, _, rfl, ?_⟩ | refine ⟨_, _, _, _, _, _, rfl, ?_⟩ | refine And.intro (by assumption) ?_ | refine And.intro (by decide : _ ∉ _) ?_ | refine iteT ?_ | refine iteF ?_))
section
variable {P : Program} {w : World} {K : PySem.W.Frag} {mg : Str → Option Value} {base : Heap} {f : Addr} {fd : FuncData}
theorem place_arg {bs : List Bar} {x : D} {p : Place} (e : itemsD x = some [.int p.1, ratD p.2]) (hp : PlaceOk bs p) : placeQ x bs.length = true := by
  unfold placeQ
  rw [e]
  have h1 := hp.lo
  have h2 := hp.hi
  have e1 : wholeQ (.int p.1) (some (-1)) (some (((bs.length : Nat) : Int) - 1)) = true := by simp [wholeQ]; omega
  show (wholeQ (.int p.1) (some (-1)) (some (((bs.length : Nat) : Int) - 1)) && ratioQ (ratD p.2)) = true
  rw [e1, ratioQ_rat]; rfl
theorem ok_Arms_row_of (F : Fun K "row_of" "Arms.row_of" s_Arms_row_of f fd) (G_check_place : Cal P w K mg base (L2.CX P w) 7 "check_place" (spP K S_check_place)) (M_Arms_line_row : Met P w K mg base CX0 6 C_Arms "line_row" (spP K S_Arms_line_row)) (c_Arms : Cls K C_Arms) : FnOk P w K mg base (L2.CX P w) 8 f fd ["self", "place"] (spP K S_Arms_row_of) := by
  refine fnX F sc_Arms_row_of (by intro ds Q E h; unfold S_Arms_row_of at h; repeat (first | (obtain ⟨rfl, _⟩ := h; rfl) | (obtain ⟨_, h⟩ := h))) fun cdv A outer sh H E W EX hr eW tk => ⟨_, (bd_cons (sd_asg (ecX G_check_place hr (by decide) (by rfl) (passX tk eW) (ad_cons (ed_var 0) (ad_cons (ed_var 1) ad_nil))) (gd_tup rfl (gds_cons (gd_name 2 sc_Arms_row_of.nd) (gds_cons (gd_name 3 sc_Arms_row_of.nd) gds_nil))))
    (bd_one (sd_ret (em M_Arms_line_row hr (by decide) c_Arms (ed_var 0) (ad_cons (ed_var 2) (ad_cons (ed_var 3) ad_nil)))))), ?_⟩
  rintro ds Q ⟨bs, n, x, rfl, hb, (⟨p, e, h3, hp, q⟩ | ⟨h3, hf, hE⟩)⟩
  · walk_at "rd"
    refine ⟨hb.l6, .inl ⟨_, h3, place_arg e hp, e, ?_⟩⟩
    walk_at "rd"
    exact q
  · walk_at "rd"
    exact ⟨hb.l6, .inr ⟨h3, hf, hE⟩⟩
theorem ok_Arms_difference_row (F : Fun K "difference_row" "Arms.difference_row" s_Arms_difference_row f fd) (G_take_row : Cal P w K mg base CX0 6 "take_row" (spP K S_take_row)) (M_Arms_row_of : Met P w K mg base (L2.CX P w) 8 C_Arms "row_of" (spP K S_Arms_row_of)) (c_Arms : Cls K C_Arms) : FnOk P w K mg base (L2.CX P w) 9 f fd ["self", "one", "other"] (spP K S_Arms_difference_row) := by
  refine fnX F sc_Arms_difference_row (by intro ds Q E h; unfold S_Arms_difference_row at h; repeat (first | (obtain ⟨rfl, _⟩ := h; rfl) | (obtain ⟨_, h⟩ := h))) fun cdv A outer sh H E W EX hr eW tk => ⟨_, (bd_one (sd_ret (ec G_take_row hr (by decide) (by rfl) (ad_cons (emX M_Arms_row_of hr (by decide) c_Arms (passX tk eW) (ed_var 0) (ad_cons (ed_var 1) ad_nil)) (ad_cons (emX M_Arms_row_of hr (by decide) c_Arms (passX tk eW) (ed_var 0) (ad_cons (ed_var 2) ad_nil)) ad_nil))))), ?_⟩
  rintro ds Q ⟨bs, n, x, y, rfl, hb, (⟨p, e, h3, hp, (⟨p', e', h3', hp', q⟩ | ⟨h3', hf', hE⟩)⟩ | ⟨h3, hf, hE⟩)⟩
  · walk_at "rd"
    refine .inl ⟨p, e, h3, hp, ?_⟩
    walk_at "rd"
    refine .inl ⟨p', e', h3', hp', ?_⟩
    walk_at "rd"
    have l1 := rowOf_len bs n p
    have l2 := rowOf_len bs n p'
    have h4 := hb.n4
    exact ⟨by omega, by omega, fun x hx => ((rowOf_Z hb hp x hx).B (by decide)).mono (by decide), fun x hx => ((rowOf_Z hb hp' x hx).B (by decide)).mono (by decide), q⟩
  · walk_at "rd"
    refine .inl ⟨p, e, h3, hp, ?_⟩
    walk_at "rd"
    exact .inr ⟨h3', hf', hE⟩
  · walk_at "rd"
    exact .inr ⟨h3, hf, hE⟩
theorem subRow_len {a b : List Rat} (h : a.length = b.length) : (subRow a b).length = a.length := by
  unfold subRow
  rw [List.length_zipWith, h, Nat.min_self]
theorem subRow_Z {a b : List Rat} {c d : Nat} (ha : ∀ x, x ∈ a → Z c x) (hb : ∀ x, x ∈ b → Z d x) : ∀ x, x ∈ subRow a b → Z (c + d) x := fun x hx => by
  unfold subRow at hx
  obtain ⟨i, hi, e⟩ := List.mem_iff_getElem.mp hx
  rw [List.getElem_zipWith] at e
  rw [← e]
  exact (ha _ (List.getElem_mem _)).sub (hb _ (List.getElem_mem _))
theorem ne_nil {r : List Rat} {n : Nat} (h : r.length = n + 1) : r ≠ [] := fun z => by rw [z] at h; cases h
theorem Flat_low (r : List Rat) : Flat (lowU r) := fun u hu => by
  obtain ⟨c, hc, rfl⟩ := List.mem_map.mp hu
  refine ⟨rfl, ?_⟩
  show (if 0 < c then (-1 : Rat) else 1) = 1 ∨ (if 0 < c then (-1 : Rat) else 1) = -1
  split
  · exact .inr rfl
  · exact .inl rfl
theorem Flat_high (r : List Rat) : Flat (highU r) := fun u hu => by
  obtain ⟨c, hc, rfl⟩ := List.mem_map.mp hu
  refine ⟨rfl, ?_⟩
  show (if c < 0 then (-1 : Rat) else 1) = 1 ∨ (if c < 0 then (-1 : Rat) else 1) = -1
  split
  · exact .inr rfl
  · exact .inl rfl
theorem diff_ok {bs : List Bar} {n : Nat} {p q : Place} (hb : BarsOk bs n) (hp : PlaceOk bs p) (hq : PlaceOk bs q) : (subRow (rowOf bs n p) (rowOf bs n q)).length = n + 1 ∧ ∀ x, x ∈ subRow (rowOf bs n p) (rowOf bs n q) → Z 10000000000 x := by
  have l1 := rowOf_len bs n p
  have l2 := rowOf_len bs n q
  exact ⟨by rw [subRow_len (by omega), l1], fun x hx => (subRow_Z (rowOf_Z hb hp) (rowOf_Z hb hq) x hx).mono (by decide)⟩
theorem ok_below_pose (F : Fun K "below_pose" "below_pose" s_below_pose f fd) (G_UP : Glv K mg "UP" (upD)) (G_lowest_flat : Cal P w K mg base CX0 4 "lowest_flat" (spP K S_lowest_flat)) (G_spot_of : Cal P w K mg base CX0 6 "spot_of" (spP K S_spot_of)) (M_Arms_difference_row : Met P w K mg base (L2.CX P w) 9 C_Arms "difference_row" (spP K S_Arms_difference_row)) (c_Arms : Cls K C_Arms) : FnOk P w K mg base (L2.CX P w) 10 f fd ["arms", "one", "other"] (spP K S_below_pose) := by
  refine fnX F sc_below_pose (by intro ds Q E h; unfold S_below_pose at h; repeat (first | (obtain ⟨rfl, _⟩ := h; rfl) | (obtain ⟨_, h⟩ := h))) fun cdv A outer sh H E W EX hr eW tk => ⟨_, (bd_cons (sd_set 3 sc_below_pose.nd (emX M_Arms_difference_row hr (by decide) c_Arms (passX tk eW) (ed_var 0) (ad_cons (ed_var 1) (ad_cons (ed_var 2) ad_nil))))
    (bd_cons (sd_set 4 sc_below_pose.nd (ec G_lowest_flat hr (by decide) (by rfl) (ad_cons (ed_var 3) ad_nil)))
    (bd_one (sd_ret (ed_ifExp (td_lt (ed_ix (ed_ix (ec G_spot_of hr (by decide) (by rfl) (ad_cons (ed_cat (ed_tup (ad_cons (eg G_UP (by rfl)) ad_nil)) (ed_var 4)) (ad_cons (ed_var 3) ad_nil))) ed_int) ed_int) ed_int) (ed_var 4) ed_non))))), ?_⟩
  rintro ds Q ⟨bs, n, x, y, rfl, hb, (⟨p, e, h3, hp, (⟨p', e', h3', hp', q⟩ | ⟨h3', hf', hE⟩)⟩ | ⟨h3, hf, hE⟩)⟩
  · obtain ⟨hl, hz⟩ := diff_ok hb hp hp'
    have h4 := hb.n4
    generalize hr : subRow (rowOf bs n p) (rowOf bs n p') = r at hl hz q
    have hn := ne_nil hl
    walk_at "rd"
    refine .inl ⟨p, e, h3, hp, .inl ⟨p', e', h3', hp', ?_⟩⟩
    walk_at "rd"
    rw [hr]
    walk_at "rd"
    refine ⟨by omega, ?_⟩
    walk_at "rd"
    refine ⟨(fun z => nomatch z), ?_⟩
    walk_at "rd"
    have hul : (lowU r).length = n := by
      unfold lowU
      rw [List.length_map, List.length_tail, hl]; rfl
    refine ⟨Nat.ble_eq_true_of_le (by rw [List.length_map, hul]; show 1 + n ≤ 1000; omega), ?_⟩
    walk_at "rd"
    refine ⟨(0, 1) :: lowU r, r, rfl, by rw [List.length_cons, hul, hl], by omega, ?_, hz, ?_⟩
    · intro u hu
      rcases List.mem_cons.mp hu with rfl | z
      · exact ⟨rfl, .inl rfl⟩
      · exact Flat_low r u z
    · walk_at "rd"
      have ey : dot r (((0, 1) :: lowU r).map (·.2)) = footOf r - highOf r := dot_lowU hn
      rw [ey]
      refine ifB (fun h => ?_) (fun h => ?_)
      · have h' : footOf r < highOf r := by
          have : footOf r - highOf r < 0 := by rw [Rat.lt_iff]; simpa using h
          grind
        rw [if_pos h'] at q
        walk_at "rd"
        exact q
      · have h' : ¬ footOf r < highOf r := by
          have : ¬ footOf r - highOf r < 0 := by rw [Rat.lt_iff]; simpa using h
          grind
        rw [if_neg h'] at q
        exact q
  · walk_at "rd"
    exact .inl ⟨p, e, h3, hp, .inr ⟨h3', hf', hE⟩⟩
  · walk_at "rd"
    exact .inr ⟨h3, hf, hE⟩
theorem foot_at {r : List Rat} (h : r ≠ []) : atI (r.map ratD) 0 = some (ratD (footOf r)) := by
  obtain ⟨a, t, rfl⟩ := List.exists_cons_of_ne_nil h
  exact atI_of (n := 0) rfl
theorem foot_Z {r : List Rat} {c : Nat} (h : r ≠ []) (hz : ∀ x, x ∈ r → Z c x) : Z c (footOf r) := by
  obtain ⟨a, t, rfl⟩ := List.exists_cons_of_ne_nil h
  exact hz a (List.mem_cons_self ..)
theorem high_Z {r : List Rat} {c n : Nat} (hl : r.length = n + 1) (hz : ∀ x, x ∈ r → Z c x) : Z (n * c) (highOf r) := by
  have := Z.sum (abs_Z (r := r.tail) fun x hx => hz x (List.mem_of_mem_tail hx))
  rw [List.length_map, List.length_tail, hl] at this
  exact this
theorem low_Z {r : List Rat} {c n : Nat} (hl : r.length = n + 1) (hz : ∀ x, x ∈ r → Z c x) : Z (2 * c + n * c) (loOf r) := by
  have := lowOf_Z (abs_Z (r := r.tail) fun x hx => hz x (List.mem_of_mem_tail hx))
  rw [List.length_map, List.length_tail, hl] at this
  exact this
theorem ok_heights_of (F : Fun K "heights_of" "heights_of" s_heights_of f fd) (G_minus : Cal P w K mg base CX0 5 "minus" (spP K S_minus)) (G_plus : Cal P w K mg base CX0 5 "plus" (spP K S_plus)) (G_reach_of : Cal P w K mg base CX0 7 "reach_of" (spP K S_reach_of)) (M_Arms_row_of : Met P w K mg base (L2.CX P w) 8 C_Arms "row_of" (spP K S_Arms_row_of)) (c_Arms : Cls K C_Arms) : FnOk P w K mg base (L2.CX P w) 9 f fd ["arms", "place"] (spP K S_heights_of) := by
  refine fnX F sc_heights_of (by intro ds Q E h; unfold S_heights_of at h; repeat (first | (obtain ⟨rfl, _⟩ := h; rfl) | (obtain ⟨_, h⟩ := h))) fun cdv A outer sh H E W EX hr eW tk => ⟨_, (bd_cons (sd_set 2 sc_heights_of.nd (emX M_Arms_row_of hr (by decide) c_Arms (passX tk eW) (ed_var 0) (ad_cons (ed_var 1) ad_nil)))
    (bd_cons (sd_set 3 sc_heights_of.nd (ec G_reach_of hr (by decide) (by rfl) (ad_cons (ed_var 2) ad_nil)))
    (bd_one (sd_ret (ed_tup (ad_cons (ec G_minus hr (by decide) (by rfl) (ad_cons (ed_ix (ed_var 2) ed_int) (ad_cons (ed_var 3) ad_nil))) (ad_cons (ec G_plus hr (by decide) (by rfl) (ad_cons (ed_ix (ed_var 2) ed_int) (ad_cons (ed_var 3) ad_nil))) ad_nil))))))), ?_⟩
  rintro ds Q ⟨bs, n, x, rfl, hb, (⟨p, e, h3, hp, q⟩ | ⟨h3, hf, hE⟩)⟩
  · have hl := rowOf_len bs n p
    have hz := rowOf_Z hb hp
    have h4 := hb.n4
    generalize hr : rowOf bs n p = r at hl hz q
    have hn := ne_nil hl
    have z0 := foot_Z hn hz
    have z1 := (high_Z hl hz).mono (d := 2800000000) (by omega)
    walk_at "rd"
    refine .inl ⟨p, e, h3, hp, ?_⟩
    walk_at "rd"
    rw [hr]
    walk_at "rd"
    refine ⟨by omega, fun x hx => (hz x hx).mono (by decide), ?_⟩
    walk_at "rd"
    refine ⟨_, foot_at hn, ?_⟩
    walk_at "rd"
    refine ⟨(z0.B (by decide)).mono (by decide), (z1.B (by decide)).mono (by decide), ?_⟩
    walk_at "rd"
    refine ⟨_, foot_at hn, ?_⟩
    walk_at "rd"
    refine ⟨(z0.B (by decide)).mono (by decide), (z1.B (by decide)).mono (by decide), ?_⟩
    walk_at "rd"
    exact q
  · walk_at "rd"
    exact .inr ⟨h3, hf, hE⟩
theorem ok_height_poses (F : Fun K "height_poses" "height_poses" s_height_poses f fd) (G_highest_flat : Cal P w K mg base CX0 4 "highest_flat" (spP K S_highest_flat)) (G_lowest_flat : Cal P w K mg base CX0 4 "lowest_flat" (spP K S_lowest_flat)) (M_Arms_row_of : Met P w K mg base (L2.CX P w) 8 C_Arms "row_of" (spP K S_Arms_row_of)) (c_Arms : Cls K C_Arms) : FnOk P w K mg base (L2.CX P w) 9 f fd ["arms", "place"] (spP K S_height_poses) := by
  refine fnX F sc_height_poses (by intro ds Q E h; unfold S_height_poses at h; repeat (first | (obtain ⟨rfl, _⟩ := h; rfl) | (obtain ⟨_, h⟩ := h))) fun cdv A outer sh H E W EX hr eW tk => ⟨_, (bd_cons (sd_set 2 sc_height_poses.nd (emX M_Arms_row_of hr (by decide) c_Arms (passX tk eW) (ed_var 0) (ad_cons (ed_var 1) ad_nil)))
    (bd_one (sd_ret (ed_tup (ad_cons (ec G_lowest_flat hr (by decide) (by rfl) (ad_cons (ed_var 2) ad_nil)) (ad_cons (ec G_highest_flat hr (by decide) (by rfl) (ad_cons (ed_var 2) ad_nil)) ad_nil)))))), ?_⟩
  rintro ds Q ⟨bs, n, x, rfl, hb, (⟨p, e, h3, hp, q⟩ | ⟨h3, hf, hE⟩)⟩
  · have hl := rowOf_len bs n p
    have h4 := hb.n4
    generalize hr : rowOf bs n p = r at hl q
    have hn := ne_nil hl
    walk_at "rd"
    refine .inl ⟨p, e, h3, hp, ?_⟩
    walk_at "rd"
    rw [hr]
    walk_at "rd"
    refine ⟨by omega, ?_⟩
    walk_at "rd"
    refine ⟨by omega, ?_⟩
    walk_at "rd"
    exact q
  · walk_at "rd"
    exact .inr ⟨h3, hf, hE⟩
theorem ok_belt_of (F : Fun K "belt_of" "belt_of" s_belt_of f fd) (G_far_ends : Cal P w K mg base CX0 7 "far_ends" (spP K S_far_ends)) (K_Belt : Mks P w K mg base 4 "Belt" C_Belt (spI K C_Belt S_Belt_init)) (M_Arms_row_of : Met P w K mg base (L2.CX P w) 8 C_Arms "row_of" (spP K S_Arms_row_of)) (c_Arms : Cls K C_Arms) : FnOk P w K mg base (L2.CX P w) 9 f fd ["arms", "place"] (spP K S_belt_of) := by
  refine fnX F sc_belt_of (by intro ds Q E h; unfold S_belt_of at h; repeat (first | (obtain ⟨rfl, _⟩ := h; rfl) | (obtain ⟨_, h⟩ := h))) fun cdv A outer sh H E W EX hr eW tk => ⟨_, (bd_cons (sd_set 2 sc_belt_of.nd (emX M_Arms_row_of hr (by decide) c_Arms (passX tk eW) (ed_var 0) (ad_cons (ed_var 1) ad_nil)))
    (bd_cons (sd_asg (ec G_far_ends hr (by decide) (by rfl) (ad_cons (ed_tail (ed_var 2)) ad_nil)) (gd_tup rfl (gds_cons (gd_name 3 sc_belt_of.nd) (gds_cons (gd_name 4 sc_belt_of.nd) gds_nil))))
    (bd_one (sd_ret (ek K_Belt hr (by decide) (by rfl) (ad_cons (ed_ix (ed_var 2) ed_int) (ad_cons (ed_var 3) (ad_cons (ed_var 4) ad_nil)))))))), ?_⟩
  rintro ds Q ⟨bs, n, x, rfl, hb, (⟨p, e, h3, hp, q⟩ | ⟨h3, hf, hE⟩)⟩
  · have hl := rowOf_len bs n p
    have hz := rowOf_Z hb hp
    have h4 := hb.n4
    have h1 := hb.n1
    generalize hr : rowOf bs n p = r at hl hz q
    obtain ⟨a, t, rfl⟩ := List.exists_cons_of_ne_nil (ne_nil hl)
    rw [List.length_cons] at hl
    walk_at "rd"
    refine .inl ⟨p, e, h3, hp, ?_⟩
    walk_at "rd"
    rw [hr]
    walk_at "rd"
    refine ⟨fun z => by rw [z] at hl; simp at hl; omega, by omega, fun x hx => (hz x (List.mem_cons_of_mem _ hx)).mono (by decide), ?_⟩
    walk_at "rd"
    refine ⟨_, foot_at (r := a :: t) (by simp), ?_⟩
    walk_at "rd"
    exact q
  · walk_at "rd"
    exact .inr ⟨h3, hf, hE⟩
theorem spot_arg {s : D} {a b : Rat} (e : itemsD s = some [ratD a, ratD b]) : spotQ s = true := by
  unfold spotQ
  rw [e]
  show (ratioQ (ratD a) && ratioQ (ratD b)) = true
  rw [ratioQ_rat, ratioQ_rat]; rfl
theorem ok_can_come_to (F : Fun K "can_come_to" "can_come_to" s_can_come_to f fd) (G_Belt_contains : Met P w K mg base CX0 7 C_Belt "__contains__" (spP K S_Belt_contains)) (G_belt_of : Cal P w K mg base (L2.CX P w) 9 "belt_of" (spP K S_belt_of)) (G_check_spot : Cal P w K mg base (L2.CX P w) 7 "check_spot" (spP K S_check_spot)) : FnOk P w K mg base (L2.CX P w) 10 f fd ["arms", "place", "spot"] (spP K S_can_come_to) := by
  refine fnX F sc_can_come_to (by intro ds Q E h; unfold S_can_come_to at h; repeat (first | (obtain ⟨rfl, _⟩ := h; rfl) | (obtain ⟨_, h⟩ := h))) fun cdv A outer sh H E W EX hr eW tk => ⟨_, (bd_cons (sd_set 3 sc_can_come_to.nd (ecX G_belt_of hr (by decide) (by rfl) (passX tk eW) (ad_cons (ed_var 0) (ad_cons (ed_var 1) ad_nil))))
    (bd_one (sd_ret (ed_inO G_Belt_contains hr (by decide) (ecX G_check_spot hr (by decide) (by rfl) (passX tk eW) (ad_cons (ed_var 2) ad_nil)) (ed_var 3))))), ?_⟩
  rintro ds Q ⟨bs, n, x, s, rfl, hb, (⟨p, e, h3, hp, (⟨a, b, es, h3s, ba, bb, q⟩ | ⟨h3s, hs, hE⟩)⟩ | ⟨h3, hf, hE⟩)⟩
  · have hl := rowOf_len bs n p
    have hz := rowOf_Z hb hp
    have h4 := hb.n4
    have z0 := (foot_Z (ne_nil hl) hz).B (by decide)
    have z1 := ((high_Z hl hz).mono (d := 2800000000) (by omega)).B (by decide)
    have z2 := ((low_Z hl hz).mono (d := 4200000000) (by omega)).B (by decide)
    walk_at "rd"
    refine .inl ⟨p, e, h3, hp, ?_⟩
    walk_at "rd"
    refine .inl ⟨_, h3s, spot_arg es, es, ?_⟩
    walk_at "rd"
    refine .inl ⟨a, b, rfl, rfl, ba, bb, ?_⟩
    walk_at "rd"
    exact q
  · walk_at "rd"
    refine .inl ⟨p, e, h3, hp, ?_⟩
    walk_at "rd"
    exact .inr ⟨h3s, hs, hE⟩
  · walk_at "rd"
    exact .inr ⟨h3, hf, hE⟩
end
end SA
end

section
set_option Elab.async false
set_option linter.all false
set_option maxRecDepth 100000
set_option maxHeartbeats 4000000

namespace SA
open PySem PySem.Spec PyProof.Rows L2 DL RM
def S_law_take : DSp := fun ds Q _ => ∃ many : Int, ds = [.int many] ∧ 0 < many ∧ many < 1073741824 ∧ ∀ v : Int, 0 ≤ v → v < many → Q (.int v)
def S_law_mark : DSp := fun ds Q _ => ds = [] ∧ ∀ r : Rat, Z 10 r → Q (ratD r)
def S_law_strength : DSp := fun ds Q _ => ds = [] ∧ ∀ r : Rat, Z 10 r → Q (ratD r)
def S_law_half : DSp := fun ds Q _ => ds = [] ∧ ∀ h : Option Rat, (∀ t, h = some t → B 20 t) → Q (halfD h)
def S_law_wide : DSp := fun ds Q _ => ds = [] ∧ ∀ r : Rat, Z 1000001 r → Q (ratD r)
def S_law_above : DSp := fun ds Q _ => ds = [] ∧ ∀ r : Rat, Z 1000001 r → Q (ratD r)
def S_law_any_half : DSp := fun ds Q _ => ds = [] ∧ ∀ h : Option Rat, (∀ t, h = some t → B 20 t) → Q (halfD h)
def S_law_any_place : DSp := fun ds Q _ => ∃ bs, ds = [barsD bs] ∧ 1 ≤ bs.length ∧ bs.length ≤ 6 ∧ ∀ p : Place, -1 ≤ p.1 → p.1 < bs.length → Z 1000001 p.2 → Q (placeD p)
def S_law_any_pose : DSp := fun ds Q _ => ∃ n : Nat, ds = [.int ((n : Nat) : Int)] ∧ n ≤ 900 ∧ ∀ us : List (Rat × Rat), us.length = n → (∀ u, u ∈ us → Unit2 u ∧ B 100 u.1 ∧ B 100 u.2) → Q (poseD us)
def S_law_form : DSp := fun ds Q _ => ∃ x xs, ds = [x] ∧ itemsD x = some xs ∧ ∀ y, (y = .lst xs ∨ y = .tup xs) → Q y
def odds : List D := [.non, .bl true, .int 3, .str "1", .tup [.int 2, .int 4], .tup [.int 1, .int 0], .tup [.int 1, .int (-2)], .lst [.int 1, .int 2], .tup [.bl true, .int 1], .tup [.int 1, .bl true], .tup [.int 1],
  .tup [.int 1, .int 2, .int 3], .tup [.int 0, .int 5], .tup [.tup [.int 1, .int 1], .int 1], .tup [.int 1, .int 1]]
def S_law_odd : DSp := fun ds Q _ => ds = [] ∧ ∀ x, x ∈ odds → Q x
def Thing (x : D) : Prop := p3 x = true ∧ (spotQ x = true → ∃ a b, itemsD x = some [ratD a, ratD b] ∧ B 2000 a ∧ B 2000 b)
def S_law_spoilt_direction : DSp := fun ds Q _ => ds = [] ∧ ∀ x, Thing x → Q x
def S_law_closing : DSp := fun ds Q _ => ds = [] ∧ ∀ (bs : List Bar) (n : Nat) (p : Place), BarsOk bs n → -1 ≤ p.1 → p.1 < bs.length → Z 1000001 p.2 → Q (.tup [barsD bs, placeD p])
def S_law_world : DSp := fun ds Q _ => ds = [] ∧ ∀ bs n, BarsOk bs n → Q (barsD bs)
end SA
end

section
set_option Elab.async false
set_option linter.all false
set_option maxRecDepth 100000
set_option maxHeartbeats 4000000
namespace SA
open PySem PySem.Spec PyProof.Rows L2 DL RM
local macro_rules | `(tactic| walk_at "rd") => `(tactic| repeat (first | refine ⟨_, rfl, ?_⟩ | refine ⟨rfl, ?_⟩ | refine ⟨_, _, rfl, ?_⟩ | refine ⟨_, _, rfl, rfl, ?_⟩ | refine ⟨_, _, _, rfl, rfl, ?_⟩ | refine ⟨_, _, _, rfl, ?_⟩ | refine ⟨_, _, _, _, rfl, ?_⟩ | refine ⟨_, _, _, _, _, _, rfl, ?_⟩ | refine And.intro (by assumption) ?_ | refine And.intro (by decide : _ ∉ _) ?_ | refine iteT ?_ | refine iteF ?_))
section
variable {P : Program} {w : World} {K : PySem.W.Frag} {mg : Str → Option Value} {base : Heap} {f : Addr} {fd : FuncData}
theorem ok_law_mark (F : Fun K "_law_mark" "_law_mark" s_law_mark f fd) (G_law_ratio : Cal P w K mg base CX0 5 "_law_ratio" (spP K S_law_ratio)) (G_law_take : Cal P w K mg base CX0 4 "_law_take" (spH K S_law_take)) : FnOk P w K mg base CX0 6 f fd ["_law_hand_here"] (spH K S_law_mark) := by
  refine fnH F sc_law_mark (by intro ds Q E h; unfold S_law_mark at h; repeat (first | (obtain ⟨rfl, _⟩ := h; rfl) | (obtain ⟨_, h⟩ := h))) fun cdv A outer sh H E W hr => ⟨_, (bd_one (sd_ret (ec G_law_ratio hr (by decide) (by rfl) (ad_cons (ed_sub (ech G_law_take hr (by decide) (by rfl) (ah_cons 0 (ad_cons ed_int ad_nil))) ed_int) (ad_cons ed_int ad_nil))))), ?_⟩
  rintro ds Q EQ ⟨rfl, q⟩
  walk_at "rd"
  refine ⟨by decide, by decide, fun v h0 h1 => ?_⟩
  walk_at "rd"
  refine ⟨by decide, by decide, ?_⟩
  exact q _ (Z.of (by decide) ⟨13860000000000, by decide⟩ (by show (v - 4).natAbs ≤ 10 * 2; omega))
theorem ok_law_strength (F : Fun K "_law_strength" "_law_strength" s_law_strength f fd) (G_law_ratio : Cal P w K mg base CX0 5 "_law_ratio" (spP K S_law_ratio)) (G_law_take : Cal P w K mg base CX0 4 "_law_take" (spH K S_law_take)) : FnOk P w K mg base CX0 6 f fd ["_law_hand_here"] (spH K S_law_strength) := by
  refine fnH F sc_law_strength (by intro ds Q E h; unfold S_law_strength at h; repeat (first | (obtain ⟨rfl, _⟩ := h; rfl) | (obtain ⟨_, h⟩ := h))) fun cdv A outer sh H E W hr => ⟨_, (bd_one (sd_ret (ec G_law_ratio hr (by decide) (by rfl) (ad_cons (ed_add ed_int (ech G_law_take hr (by decide) (by rfl) (ah_cons 0 (ad_cons ed_int ad_nil)))) (ad_cons ed_int ad_nil))))), ?_⟩
  rintro ds Q EQ ⟨rfl, q⟩
  walk_at "rd"
  refine ⟨by decide, by decide, fun v h0 h1 => ?_⟩
  walk_at "rd"
  refine ⟨by decide, by decide, ?_⟩
  exact q _ (Z.of (by decide) ⟨6930000000000, by decide⟩ (by show (1 + v).natAbs ≤ 10 * 4; omega))
theorem dvd12 {v : Int} (h0 : 0 ≤ v) (h1 : v < 12) : (1 + v) ∣ 27720000000000 := by
  have : v = 0 ∨ v = 1 ∨ v = 2 ∨ v = 3 ∨ v = 4 ∨ v = 5 ∨ v = 6 ∨ v = 7 ∨ v = 8 ∨ v = 9 ∨ v = 10 ∨ v = 11 := by omega
  rcases this with rfl | rfl | rfl | rfl | rfl | rfl | rfl | rfl | rfl | rfl | rfl | rfl <;> decide
theorem le_mul_of {a b c : Nat} (h : a ≤ b) (hc : 1 ≤ c) : a ≤ b * c := Nat.le_trans h (Nat.le_mul_of_pos_right b hc)
theorem z_12 {v u : Int} (hv : (v).natAbs ≤ 1000001) (h0 : 0 ≤ u) (h1 : u < 12) : Z 1000001 (Rat.divInt v (1 + u)) :=
  Z.of (by omega) (dvd12 h0 h1) (le_mul_of hv (by omega))
theorem p6 : ((10 : Int) ^ (6 : Nat)) = 1000000 := by decide
theorem ok_law_wide (F : Fun K "_law_wide" "_law_wide" s_law_wide f fd) (G_law_mark : Cal P w K mg base CX0 6 "_law_mark" (spH K S_law_mark)) (G_law_ratio : Cal P w K mg base CX0 5 "_law_ratio" (spP K S_law_ratio)) (G_law_take : Cal P w K mg base CX0 4 "_law_take" (spH K S_law_take)) : FnOk P w K mg base CX0 7 f fd ["_law_hand_here"] (spH K S_law_wide) := by
  refine fnH F sc_law_wide (by intro ds Q E h; unfold S_law_wide at h; repeat (first | (obtain ⟨rfl, _⟩ := h; rfl) | (obtain ⟨_, h⟩ := h))) fun cdv A outer sh H E W hr => ⟨_, (bd_cons (sd_set 1 sc_law_wide.nd (ech G_law_take hr (by decide) (by rfl) (ah_cons 0 (ad_cons ed_int ad_nil))))
    (bd_cons (sd_if (td_eq (ed_var 1) ed_int) (bd_one (sd_ret (ed_tup (ad_cons ed_int (ad_cons ed_int ad_nil))))) bd_nil)
    (bd_cons (sd_if (td_eq (ed_var 1) ed_int) (bd_one (sd_ret (ec G_law_ratio hr (by decide) (by rfl) (ad_cons (ed_sub (ech G_law_take hr (by decide) (by rfl) (ah_cons 0 (ad_cons (ed_add (ed_mulW ed_int (ed_pow ed_int ed_int)) ed_int) ad_nil))) (ed_pow ed_int ed_int)) (ad_cons (ed_add ed_int (ech G_law_take hr (by decide) (by rfl) (ah_cons 0 (ad_cons ed_int ad_nil)))) ad_nil))))) bd_nil)
    (bd_one (sd_ret (ech G_law_mark hr (by decide) (by rfl) (ah_cons 0 ad_nil))))))), ?_⟩
  rintro ds Q EQ ⟨rfl, q⟩
  walk_at "rd"
  refine ⟨by decide, by decide, fun w h0 h1 => ?_⟩
  walk_at "rd"
  refine ifB (fun c => ?_) (fun c => ?_)
  · walk_at "rd"
    exact q 0 (Z.zero.mono (by decide))
  · walk_at "rd"
    refine ifB (fun c => ?_) (fun c => ?_)
    · walk_at "rd"
      refine ⟨⟨by decide, by decide, by decide⟩, ?_⟩
      walk_at "rd"
      refine ⟨(by unfold CMulW; decide +kernel), ?_⟩
      walk_at "rd"
      refine ⟨by decide +kernel, by decide +kernel, fun a ha0 ha1 => ?_⟩
      have ha1' : a < 2000001 := ha1
      walk_at "rd"
      refine ⟨⟨by decide, by decide, by decide⟩, ?_⟩
      walk_at "rd"
      refine ⟨by decide, by decide, fun b hb0 hb1 => ?_⟩
      walk_at "rd"
      refine ⟨show (0 : Int) < 1 + b by omega, pow_up (j := 20) (by show (1 + b).natAbs < 1048576; omega) (by decide), ?_⟩
      exact q _ (z_12 (by show (a - 1000000).natAbs ≤ 1000001; omega) hb0 hb1)
    · walk_at "rd"
      exact fun r hr => q r (hr.mono (by decide))
theorem ok_law_above (F : Fun K "_law_above" "_law_above" s_law_above f fd) (G_law_ratio : Cal P w K mg base CX0 5 "_law_ratio" (spP K S_law_ratio)) (G_law_strength : Cal P w K mg base CX0 6 "_law_strength" (spH K S_law_strength)) (G_law_take : Cal P w K mg base CX0 4 "_law_take" (spH K S_law_take)) : FnOk P w K mg base CX0 7 f fd ["_law_hand_here"] (spH K S_law_above) := by
  refine fnH F sc_law_above (by intro ds Q E h; unfold S_law_above at h; repeat (first | (obtain ⟨rfl, _⟩ := h; rfl) | (obtain ⟨_, h⟩ := h))) fun cdv A outer sh H E W hr => ⟨_, (bd_cons (sd_if (td_eq (ech G_law_take hr (by decide) (by rfl) (ah_cons 0 (ad_cons ed_int ad_nil))) ed_int) (bd_one (sd_ret (ec G_law_ratio hr (by decide) (by rfl) (ad_cons (ed_add ed_int (ech G_law_take hr (by decide) (by rfl) (ah_cons 0 (ad_cons (ed_pow ed_int ed_int) ad_nil)))) (ad_cons (ed_add ed_int (ech G_law_take hr (by decide) (by rfl) (ah_cons 0 (ad_cons ed_int ad_nil)))) ad_nil))))) bd_nil)
    (bd_one (sd_ret (ech G_law_strength hr (by decide) (by rfl) (ah_cons 0 ad_nil))))), ?_⟩
  rintro ds Q EQ ⟨rfl, q⟩
  walk_at "rd"
  refine ⟨by decide, by decide, fun w h0 h1 => ?_⟩
  walk_at "rd"
  refine ifB (fun c => ?_) (fun c => ?_)
  · walk_at "rd"
    refine ⟨⟨by decide, by decide, by decide⟩, ?_⟩
    walk_at "rd"
    refine ⟨by decide +kernel, by decide +kernel, fun a ha0 ha1 => ?_⟩
    have ha1' : a < 1000000 := ha1
    walk_at "rd"
    refine ⟨by decide, by decide, fun b hb0 hb1 => ?_⟩
    walk_at "rd"
    refine ⟨show (0 : Int) < 1 + b by omega, pow_up (j := 20) (by show (1 + b).natAbs < 1048576; omega) (by decide), ?_⟩
    exact q _ (z_12 (by show (1 + a).natAbs ≤ 1000001; omega) hb0 hb1)
  · walk_at "rd"
    exact fun r hr => q r (hr.mono (by decide))
theorem half_int {a b : Int} (hb : 0 < b) (h1 : a.natAbs < 2 ^ 20) (h2 : b.natAbs < 2 ^ 20) : ∀ t, some (Rat.divInt a b) = some t → B 20 t := fun t e => by
  cases e
  exact B.divInt hb h1 h2
theorem ok_law_half (F : Fun K "_law_half" "_law_half" s_law_half f fd) (G_law_ratio : Cal P w K mg base CX0 5 "_law_ratio" (spP K S_law_ratio)) (G_law_take : Cal P w K mg base CX0 4 "_law_take" (spH K S_law_take)) : FnOk P w K mg base CX0 6 f fd ["_law_hand_here"] (spH K S_law_half) := by
  refine fnH F sc_law_half (by intro ds Q E h; unfold S_law_half at h; repeat (first | (obtain ⟨rfl, _⟩ := h; rfl) | (obtain ⟨_, h⟩ := h))) fun cdv A outer sh H E W hr => ⟨_, (bd_cons (sd_set 1 sc_law_half.nd (ech G_law_take hr (by decide) (by rfl) (ah_cons 0 (ad_cons ed_int ad_nil))))
    (bd_cons (sd_if (td_eq (ed_var 1) ed_int) (bd_one (sd_ret ed_non)) bd_nil)
    (bd_cons (sd_if (td_eq (ed_var 1) ed_int) (bd_one (sd_ret (ec G_law_ratio hr (by decide) (by rfl) (ad_cons (ed_sub (ech G_law_take hr (by decide) (by rfl) (ah_cons 0 (ad_cons ed_int ad_nil))) ed_int) (ad_cons (ed_add ed_int (ech G_law_take hr (by decide) (by rfl) (ah_cons 0 (ad_cons ed_int ad_nil)))) ad_nil))))) bd_nil)
    (bd_one (sd_ret (ed_ix (ed_frz (eo_lst (ad_cons (ed_tup (ad_cons ed_int (ad_cons ed_int ad_nil))) (ad_cons (ed_tup (ad_cons ed_int (ad_cons ed_int ad_nil))) (ad_cons (ed_tup (ad_cons ed_int (ad_cons ed_int ad_nil))) (ad_cons (ed_tup (ad_cons ed_int (ad_cons ed_int ad_nil))) (ad_cons (ed_tup (ad_cons ed_int (ad_cons ed_int ad_nil))) (ad_cons (ed_tup (ad_cons ed_int (ad_cons ed_int ad_nil))) (ad_cons (ed_tup (ad_cons (ed_neg ed_int) (ad_cons ed_int ad_nil))) (ad_cons (ed_tup (ad_cons (ed_neg ed_int) (ad_cons ed_int ad_nil))) (ad_cons (ed_tup (ad_cons (ed_neg ed_int) (ad_cons ed_int ad_nil))) (ad_cons (ed_tup (ad_cons (ed_neg ed_int) (ad_cons ed_int ad_nil))) (ad_cons (ed_tup (ad_cons (ed_neg ed_int) (ad_cons ed_int ad_nil))) (ad_cons (ed_tup (ad_cons ed_int (ad_cons ed_int ad_nil))) ad_nil)))))))))))))) (ed_var 1))))))), ?_⟩
  rintro ds Q EQ ⟨rfl, q⟩
  walk_at "rd"
  refine ⟨by decide, by decide, fun w h0 h1 => ?_⟩
  walk_at "rd"
  refine ifB (fun c => ?_) (fun c => ?_)
  · walk_at "rd"
    exact q none (fun t e => nomatch e)
  · walk_at "rd"
    refine ifB (fun c2 => ?_) (fun c2 => ?_)
    · walk_at "rd"
      refine ⟨by decide, by decide, fun a ha0 ha1 => ?_⟩
      walk_at "rd"
      refine ⟨by decide, by decide, fun b hb0 hb1 => ?_⟩
      walk_at "rd"
      refine ⟨show (0 : Int) < 1 + b by omega, ?_, ?_⟩
      · exact pow_up (j := 20) (by show (1 + b).natAbs < 1048576; omega) (by decide)
      · exact q (some _) (half_int (show (0 : Int) < 1 + b by omega) (by show (a - 20).natAbs < 1048576; omega) (by show (1 + b).natAbs < 1048576; omega))
    · walk_at "rd"
      have hw : w = 0 ∨ w = 1 ∨ w = 2 ∨ w = 3 ∨ w = 4 ∨ w = 5 ∨ w = 6 ∨ w = 7 ∨ w = 8 ∨ w = 9 ∨ w = 10 ∨ w = 11 := by omega
      have key : ∀ (r : Rat), B 20 r → Q (ratD r) := fun r hr => q (some r) fun t e => by cases e; exact hr
      rcases hw with rfl | rfl | rfl | rfl | rfl | rfl | rfl | rfl | rfl | rfl | rfl | rfl <;> (walk_at "rd"; exact key ⟨_, _, by decide, by decide⟩ ⟨by decide, by decide⟩)
theorem ok_law_any_half (F : Fun K "_law_any_half" "_law_any_half" s_law_any_half f fd) (G_law_half : Cal P w K mg base CX0 6 "_law_half" (spH K S_law_half)) (G_law_ratio : Cal P w K mg base CX0 5 "_law_ratio" (spP K S_law_ratio)) (G_law_take : Cal P w K mg base CX0 4 "_law_take" (spH K S_law_take)) : FnOk P w K mg base CX0 7 f fd ["_law_hand_here"] (spH K S_law_any_half) := by
  refine fnH F sc_law_any_half (by intro ds Q E h; unfold S_law_any_half at h; repeat (first | (obtain ⟨rfl, _⟩ := h; rfl) | (obtain ⟨_, h⟩ := h))) fun cdv A outer sh H E W hr => ⟨_, (bd_cons (sd_if (td_eq (ech G_law_take hr (by decide) (by rfl) (ah_cons 0 (ad_cons ed_int ad_nil))) ed_int) (bd_one (sd_ret (ec G_law_ratio hr (by decide) (by rfl) (ad_cons (ed_sub (ech G_law_take hr (by decide) (by rfl) (ah_cons 0 (ad_cons (ed_add (ed_mulW ed_int (ed_pow ed_int ed_int)) ed_int) ad_nil))) (ed_pow ed_int ed_int)) (ad_cons (ed_add ed_int (ech G_law_take hr (by decide) (by rfl) (ah_cons 0 (ad_cons ed_int ad_nil)))) ad_nil))))) bd_nil)
    (bd_one (sd_ret (ech G_law_half hr (by decide) (by rfl) (ah_cons 0 ad_nil))))), ?_⟩
  rintro ds Q EQ ⟨rfl, q⟩
  walk_at "rd"
  refine ⟨by decide, by decide, fun w h0 h1 => ?_⟩
  walk_at "rd"
  refine ifB (fun c => ?_) (fun c => ?_)
  · walk_at "rd"
    refine ⟨⟨by decide, by decide, by decide⟩, ?_⟩
    walk_at "rd"
    refine ⟨(by unfold CMulW; decide +kernel), ?_⟩
    walk_at "rd"
    refine ⟨by decide +kernel, by decide +kernel, fun a ha0 ha1 => ?_⟩
    have ha1' : a < 2001 := ha1
    walk_at "rd"
    refine ⟨⟨by decide, by decide, by decide⟩, ?_⟩
    walk_at "rd"
    refine ⟨by decide, by decide, fun b hb0 hb1 => ?_⟩
    walk_at "rd"
    refine ⟨show (0 : Int) < 1 + b by omega, pow_up (j := 20) (by show (1 + b).natAbs < 1048576; omega) (by decide), ?_⟩
    exact q (some _) (half_int (show (0 : Int) < 1 + b by omega) (by show (a - 1000).natAbs < 1048576; omega) (by show (1 + b).natAbs < 1048576; omega))
  · walk_at "rd"
    exact q
theorem ok_law_any_place (F : Fun K "_law_any_place" "_law_any_place" s_law_any_place f fd) (G_law_take : Cal P w K mg base CX0 4 "_law_take" (spH K S_law_take)) (G_law_wide : Cal P w K mg base CX0 7 "_law_wide" (spH K S_law_wide)) (T : Glob mg) : FnOk P w K mg base CX0 8 f fd ["_law_hand_here", "_law_bars"] (spH K S_law_any_place) := by
  refine fnH F sc_law_any_place (by intro ds Q E h; unfold S_law_any_place at h; repeat (first | (obtain ⟨rfl, _⟩ := h; rfl) | (obtain ⟨_, h⟩ := h))) fun cdv A outer sh H E W hr => ⟨_, (bd_cons (sd_set 2 sc_law_any_place.nd (ed_ifExp (td_eq (ech G_law_take hr (by decide) (by rfl) (ah_cons 0 (ad_cons ed_int ad_nil))) ed_int) (ed_sub (ed_cb call_len_seq sim_len (by rfl) T.n_len (by decide +kernel) (ad_cons (ed_var 1) ad_nil)) ed_int) (ed_sub (ech G_law_take hr (by decide) (by rfl) (ah_cons 0 (ad_cons (ed_add (ed_cb call_len_seq sim_len (by rfl) T.n_len (by decide +kernel) (ad_cons (ed_var 1) ad_nil)) ed_int) ad_nil))) ed_int)))
    (bd_one (sd_ret (ed_tup (ad_cons (ed_var 2) (ad_cons (ech G_law_wide hr (by decide) (by rfl) (ah_cons 0 ad_nil)) ad_nil)))))), ?_⟩
  rintro ds Q EQ ⟨bs, rfl, hl1, hl6, q⟩
  walk_at "rd"
  refine ⟨by decide, by decide, fun w h0 h1 => ?_⟩
  walk_at "rd"
  refine ifB (fun c => ?_) (fun c => ?_)
  · walk_at "rd"
    intro r hr
    walk_at "rd"
    rw [List.length_map]
    exact q (((bs.length : Nat) : Int) - 1, r) (show -1 ≤ ((bs.length : Nat) : Int) - 1 by omega) (show ((bs.length : Nat) : Int) - 1 < bs.length by omega) hr
  · walk_at "rd"
    rw [List.length_map]
    refine ⟨show (0 : Int) < ((bs.length : Nat) : Int) + 1 by omega, show ((bs.length : Nat) : Int) + 1 < 1073741824 by omega, fun v hv0 hv1 => ?_⟩
    have hv1' : v < ((bs.length : Nat) : Int) + 1 := hv1
    walk_at "rd"
    intro r hr
    walk_at "rd"
    exact q (v - 1, r) (show -1 ≤ v - 1 by omega) (show v - 1 < ((bs.length : Nat) : Int) by omega) hr
theorem ok_law_form (F : Fun K "_law_form" "_law_form" s_law_form f fd) (G_law_take : Cal P w K mg base CX0 4 "_law_take" (spH K S_law_take)) (T : Glob mg) : FnOk P w K mg base CX0 5 f fd ["_law_hand_here", "_law_row_here"] (spH K S_law_form) := by
  refine fnH F sc_law_form (by intro ds Q E h; unfold S_law_form at h; repeat (first | (obtain ⟨rfl, _⟩ := h; rfl) | (obtain ⟨_, h⟩ := h))) fun cdv A outer sh H E W hr => ⟨_, (bd_one (sd_ret (ed_ifExp (td_eq (ech G_law_take hr (by decide) (by rfl) (ah_cons 0 (ad_cons ed_int ad_nil))) ed_int) (ed_frz (eo_list (by rfl) T.n_list (by decide +kernel) (ed_var 1))) (ed_ct call_tuple_of sim_tuple (by rfl) T.n_tuple (by decide +kernel) (ad_cons (ed_var 1) ad_nil))))), ?_⟩
  rintro ds Q EQ ⟨x, xs, rfl, e, q⟩
  walk_at "rd"
  refine ⟨by decide, by decide, fun w h0 h1 => ?_⟩
  walk_at "rd"
  refine ifB (fun c => ?_) (fun c => ?_)
  · walk_at "rd"
    exact ⟨xs, e, q _ (.inl rfl)⟩
  · rcases itemsD_inv e with rfl | rfl
    · walk_at "rd"
      exact q _ (.inr rfl)
    · walk_at "rd"
      exact q _ (.inr rfl)
theorem ok_law_odd (F : Fun K "_law_odd" "_law_odd" s_law_odd f fd) (G_law_take : Cal P w K mg base CX0 4 "_law_take" (spH K S_law_take)) (T : Glob mg) : FnOk P w K mg base CX0 5 f fd ["_law_hand_here"] (spH K S_law_odd) := by
  refine fnH F sc_law_odd (by intro ds Q E h; unfold S_law_odd at h; repeat (first | (obtain ⟨rfl, _⟩ := h; rfl) | (obtain ⟨_, h⟩ := h))) fun cdv A outer sh H E W hr => ⟨_, (bd_cons (sd_setO 1 sc_law_odd.nd (eo_lst (ad_cons ed_non (ad_cons ed_bl (ad_cons ed_int (ad_cons ed_str (ad_cons (ed_tup (ad_cons ed_int (ad_cons ed_int ad_nil))) (ad_cons (ed_tup (ad_cons ed_int (ad_cons ed_int ad_nil))) (ad_cons (ed_tup (ad_cons ed_int (ad_cons (ed_neg ed_int) ad_nil))) (ad_cons (ed_frz (eo_lst (ad_cons ed_int (ad_cons ed_int ad_nil)))) (ad_cons (ed_tup (ad_cons ed_bl (ad_cons ed_int ad_nil))) (ad_cons (ed_tup (ad_cons ed_int (ad_cons ed_bl ad_nil))) (ad_cons (ed_tup (ad_cons ed_int ad_nil)) (ad_cons (ed_tup (ad_cons ed_int (ad_cons ed_int (ad_cons ed_int ad_nil)))) (ad_cons (ed_tup (ad_cons ed_int (ad_cons ed_int ad_nil))) (ad_cons (ed_tup (ad_cons (ed_tup (ad_cons ed_int (ad_cons ed_int ad_nil))) (ad_cons ed_int ad_nil))) (ad_cons (ed_tup (ad_cons ed_int (ad_cons ed_int ad_nil))) ad_nil)))))))))))))))))
    (bd_one (sd_fz 1 (sd_ret (ed_ix (ed_var 1) (ech G_law_take hr (by decide) (by rfl) (ah_cons 0 (ad_cons (ed_cb call_len_seq sim_len (by rfl) T.n_len (by decide +kernel) (ad_cons (ed_var 1) ad_nil)) ad_nil)))))))), ?_⟩
  rintro ds Q EQ ⟨rfl, q⟩
  walk_at "rd"
  refine ⟨by decide, by decide, fun w h0 h1 => ?_⟩
  have h1' : w < 15 := h1
  walk_at "rd"
  obtain ⟨z, hz⟩ := at_some (l := odds) (i := w.toNat) (by show w.toNat < 15; omega)
  refine ⟨z, (atI_of (n := w.toNat) (by omega)).trans hz, ?_⟩
  exact q z (List.mem_of_getElem? hz)
theorem dir_ok {h : Option Rat} (hb : ∀ t, h = some t → B 20 t) : Unit2 (dirOf h) ∧ B 100 (dirOf h).1 ∧ B 100 (dirOf h).2 := by
  cases h with
  | none => exact ⟨by unfold Unit2 dirOf; grind, B.zero.mono (by decide), (B.one.neg).mono (by decide)⟩
  | some t =>
    have ht := hb t rfl
    have hp : (0 : Rat) < 1 + t * t := by have := sq0 t; grind
    have h2 : B 2 (-2 : Rat) := B.int (i := -2) (by decide) (by decide)
    have hs := ht.mul ht
    exact ⟨turned_unit t, ((h2.mul ht).div (B.one.add hs) hp).mono (by decide), ((B.one.sub hs).div (B.one.add hs) hp).mono (by decide)⟩
theorem ok_law_any_pose (F : Fun K "_law_any_pose" "_law_any_pose" s_law_any_pose f fd) (G_law_any_half : Cal P w K mg base CX0 7 "_law_any_half" (spH K S_law_any_half)) (G_law_direction : Cal P w K mg base CX0 7 "_law_direction" (spP K S_law_direction)) (T : Glob mg) : FnOk P w K mg base CX0 8 f fd ["_law_hand_here", "_law_n"] (spH K S_law_any_pose) := by
  refine fnH F sc_law_any_pose (by intro ds Q E h; unfold S_law_any_pose at h; repeat (first | (obtain ⟨rfl, _⟩ := h; rfl) | (obtain ⟨_, h⟩ := h))) fun cdv A outer sh H E W hr => ⟨_, (bd_one (sd_ret (ed_ct call_tuple_of sim_tuple (by rfl) T.n_tuple (by decide +kernel) (ad_cons (ed_frz (eo_lc rfl sc_law_any_pose.nd (id_range1 (by rfl) T.n_range (ad_cons (ed_var 1) ad_nil)) (own := [("_law_k", 2)]) (blk_of (N := N_law_any_pose) (sc := defScope s_law_any_pose)) (tg1 2) (fun _ _ _ _ _ => pg_name (i := 2) sc_law_any_pose.nd rfl (Or.inl rfl) (.inr rfl)) (fun _ _ _ _ _ => pts_yes) (fun _ _ _ _ _ => (ec G_law_direction hr (by decide) (by rfl) (ad_cons (ech G_law_any_half hr (by decide) (by rfl) (ah_cons 0 ad_nil)) ad_nil))))) ad_nil)))), ?_⟩
  rintro ds Q EQ ⟨n, rfl, hn, q⟩
  walk_at "rd"
  refine ⟨by omega, by omega, ?_⟩
  unfold DL.intsFrom
  rw [show ((n : Nat) : Int).toNat = n by omega]
  walk_at "rd"
  refine compL_some (fun i : Nat => D.int (0 + (i : Nat))) dirD (fun _ u => Unit2 u ∧ B 100 u.1 ∧ B 100 u.2) (List.range n) [] (by rw [List.length_range, List.length_nil]; omega) (fun i hi => ⟨trivial, fun k hk => ?_⟩) (fun m hm hR => ?_)
  · walk_at "rd"
    intro h hh
    walk_at "rd"
    exact hk _ (dir_ok hh)
  · walk_at "rd"
    rw [List.length_range] at hm
    refine q m hm fun u hu => ?_
    obtain ⟨i, hi⟩ := List.getElem?_of_mem hu
    obtain ⟨h1, _⟩ := List.getElem?_eq_some_iff.mp hi
    exact hR i i u (by rw [List.getElem?_range (by omega)]) hi
end
end SA
end

section
set_option Elab.async false
set_option linter.all false
set_option maxRecDepth 100000
set_option maxHeartbeats 4000000
namespace SA
open PySem PySem.Spec PyProof.Rows L2 DL RM
local macro_rules | `(tactic| walk_at "rd") => `(tactic| repeat (first | refine ⟨_, rfl, ?_⟩ | refine ⟨rfl, ?_⟩ | refine ⟨_, _, rfl, ?_⟩ | refine ⟨_, _, rfl, rfl, ?_⟩ | refine ⟨_, _, _, rfl, rfl, ?_⟩ | refine ⟨_, _, _, rfl, ?_⟩ | refine ⟨_, _, _, _, rfl, ?_⟩ | refine ⟨_, _, _, _, _, _, rfl, ?_⟩ | refine And.intro (by assumption) ?_ | refine And.intro (by decide : _ ∉ _) ?_ | refine iteT ?_ | refine iteF ?_))
section
variable {P : Program} {w : World} {K : PySem.W.Frag} {mg : Str → Option Value} {base : Heap} {f : Addr} {fd : FuncData}
theorem thing2 {a b : D} {x : D} (e : x = .lst [a, b] ∨ x = .tup [a, b]) (ha : p2 a = true) (hb : p2 b = true) (h : ratioQ a = true → ratioQ b = true → ∃ r s, a = ratD r ∧ b = ratD s ∧ B 2000 r ∧ B 2000 s) : Thing x := by
  have hs : p3 x = true ∧ spotQ x = (ratioQ a && ratioQ b) ∧ itemsD x = some [a, b] := by
    rcases e with rfl | rfl
    · exact ⟨by show (p2 a && (p2 b && true)) = true; rw [ha, hb]; rfl, rfl, rfl⟩
    · exact ⟨by show (p2 a && (p2 b && true)) = true; rw [ha, hb]; rfl, rfl, rfl⟩
  refine ⟨hs.1, fun hq => ?_⟩
  rw [hs.2.1, Bool.and_eq_true] at hq
  obtain ⟨r, s, rfl, rfl, h1, h2⟩ := h hq.1 hq.2
  exact ⟨r, s, hs.2.2, h1, h2⟩
theorem thing_no {x : D} (h3 : p3 x = true) (h : spotQ x = false) : Thing x := ⟨h3, fun z => by rw [h] at z; cases z⟩
theorem odd_p2 : ∀ x, x ∈ odds → p2 x = true := fun x hx => by
  have : odds.all p2 = true := by decide +kernel
  exact List.all_eq_true.mp this x hx
theorem odd_ratio : ∀ x, x ∈ odds → ratioQ x = true → ∃ r, x = ratD r ∧ B 2000 r := fun x hx h => by
  have h2 : B 2000 (1 : Rat) := B.one.mono (by decide)
  unfold odds at hx
  simp only [List.mem_cons, List.not_mem_nil, or_false] at hx
  have e15 : (D.tup [.int 1, .int 1]) = ratD 1 := rfl
  rcases hx with rfl | rfl | rfl | rfl | rfl | rfl | rfl | rfl | rfl | rfl | rfl | rfl | rfl | rfl | rfl <;> first | exact ⟨1, e15, h2⟩ | (exfalso; revert h; decide)
theorem odd_thing : ∀ x, x ∈ odds → Thing x := fun x hx => by
  have h3 : odds.all (fun x => p3 x && !spotQ x) = true := by decide +kernel
  have := List.all_eq_true.mp h3 x hx
  rw [Bool.and_eq_true] at this
  exact thing_no this.1 (by simpa using this.2)
theorem ok_law_spoilt_direction (F : Fun K "_law_spoilt_direction" "_law_spoilt_direction" s_law_spoilt_direction f fd) (G_law_any_half : Cal P w K mg base CX0 7 "_law_any_half" (spH K S_law_any_half)) (G_law_direction : Cal P w K mg base CX0 7 "_law_direction" (spP K S_law_direction)) (G_law_form : Cal P w K mg base CX0 5 "_law_form" (spH K S_law_form)) (G_law_odd : Cal P w K mg base CX0 5 "_law_odd" (spH K S_law_odd)) (G_law_plus : Cal P w K mg base CX0 6 "_law_plus" (spP K S_law_plus)) (G_law_take : Cal P w K mg base CX0 4 "_law_take" (spH K S_law_take)) (G_law_wide : Cal P w K mg base CX0 7 "_law_wide" (spH K S_law_wide)) : FnOk P w K mg base CX0 8 f fd ["_law_hand_here"] (spH K S_law_spoilt_direction) := by
  refine fnH F sc_law_spoilt_direction (by intro ds Q E h; unfold S_law_spoilt_direction at h; repeat (first | (obtain ⟨rfl, _⟩ := h; rfl) | (obtain ⟨_, h⟩ := h))) fun cdv A outer sh H E W hr => ⟨_, (bd_cons (sd_asg (ec G_law_direction hr (by decide) (by rfl) (ad_cons (ech G_law_any_half hr (by decide) (by rfl) (ah_cons 0 ad_nil)) ad_nil)) (gd_tup rfl (gds_cons (gd_name 1 sc_law_spoilt_direction.nd) (gds_cons (gd_name 2 sc_law_spoilt_direction.nd) gds_nil))))
    (bd_cons (sd_set 3 sc_law_spoilt_direction.nd (ech G_law_take hr (by decide) (by rfl) (ah_cons 0 (ad_cons ed_int ad_nil))))
    (bd_cons (sd_if (td_lt (ed_var 3) ed_int) (bd_one (sd_ret (ech G_law_form hr (by decide) (by rfl) (ah_cons 0 (ad_cons (ed_tup (ad_cons (ed_var 1) (ad_cons (ed_var 2) ad_nil))) ad_nil))))) bd_nil)
    (bd_cons (sd_if (td_eq (ed_var 3) ed_int) (bd_one (sd_ret (ech G_law_form hr (by decide) (by rfl) (ah_cons 0 (ad_cons (ed_tup (ad_cons (ed_var 1) (ad_cons (ec G_law_plus hr (by decide) (by rfl) (ad_cons (ed_var 2) (ad_cons (ech G_law_wide hr (by decide) (by rfl) (ah_cons 0 ad_nil)) ad_nil))) ad_nil))) ad_nil))))) bd_nil)
    (bd_cons (sd_if (td_eq (ed_var 3) ed_int) (bd_one (sd_ret (ech G_law_form hr (by decide) (by rfl) (ah_cons 0 (ad_cons (ed_tup (ad_cons (ech G_law_wide hr (by decide) (by rfl) (ah_cons 0 ad_nil)) (ad_cons (ech G_law_wide hr (by decide) (by rfl) (ah_cons 0 ad_nil)) ad_nil))) ad_nil))))) bd_nil)
    (bd_cons (sd_if (td_eq (ed_var 3) ed_int) (bd_one (sd_ret (ech G_law_form hr (by decide) (by rfl) (ah_cons 0 (ad_cons (ed_tup (ad_cons (ech G_law_odd hr (by decide) (by rfl) (ah_cons 0 ad_nil)) (ad_cons (ed_var 2) ad_nil))) ad_nil))))) bd_nil)
    (bd_cons (sd_if (td_eq (ed_var 3) ed_int) (bd_one (sd_ret (ech G_law_form hr (by decide) (by rfl) (ah_cons 0 (ad_cons (ed_tup (ad_cons (ed_var 1) (ad_cons (ech G_law_odd hr (by decide) (by rfl) (ah_cons 0 ad_nil)) ad_nil))) ad_nil))))) bd_nil)
    (bd_cons (sd_if (td_eq (ed_var 3) ed_int) (bd_one (sd_ret (ech G_law_form hr (by decide) (by rfl) (ah_cons 0 (ad_cons (ed_tup (ad_cons (ed_var 1) (ad_cons (ed_var 2) (ad_cons (ed_var 2) ad_nil)))) ad_nil))))) bd_nil)
    (bd_cons (sd_if (td_eq (ed_var 3) ed_int) (bd_one (sd_ret (ech G_law_form hr (by decide) (by rfl) (ah_cons 0 (ad_cons (ed_tup (ad_cons (ed_var 2) ad_nil)) ad_nil))))) bd_nil)
    (bd_one (sd_ret (ech G_law_odd hr (by decide) (by rfl) (ah_cons 0 ad_nil))))))))))))), ?_⟩
  rintro ds Q EQ ⟨rfl, q⟩
  walk_at "rd"
  intro h hh
  obtain ⟨hU, b1, b2⟩ := dir_ok hh
  generalize hd : dirOf h = u at hU b1 b2
  have c1 := b1.mono (show 100 ≤ 2000 by decide)
  have c2 := b2.mono (show 100 ≤ 2000 by decide)
  walk_at "rd"
  rw [hd]
  walk_at "rd"
  refine ⟨by decide, by decide, fun w h0 h1 => ?_⟩
  walk_at "rd"
  have go : ∀ a b : D, p2 a = true → p2 b = true → (ratioQ a = true → ratioQ b = true → ∃ r s, a = ratD r ∧ b = ratD s ∧ B 2000 r ∧ B 2000 s) → ∀ y, (y = .lst [a, b] ∨ y = .tup [a, b]) → Q y := fun a b ha hb hh y hy => q _ (thing2 hy ha hb hh)
  refine ifB (fun c => ?_) (fun c => ?_)
  · walk_at "rd"
    exact go _ _ rfl rfl fun _ _ => ⟨u.1, u.2, rfl, rfl, c1, c2⟩
  walk_at "rd"
  refine ifB (fun c => ?_) (fun c => ?_)
  · walk_at "rd"
    intro r hr
    have br := hr.B (by decide)
    walk_at "rd"
    refine ⟨b2.mono (by decide), br.mono (by decide), ?_⟩
    walk_at "rd"
    exact go _ _ rfl rfl fun _ _ => ⟨u.1, u.2 + r, rfl, rfl, c1, (b2.add br).mono (by decide)⟩
  walk_at "rd"
  refine ifB (fun c => ?_) (fun c => ?_)
  · walk_at "rd"
    intro r hr
    walk_at "rd"
    intro s hs
    walk_at "rd"
    exact go _ _ rfl rfl fun _ _ => ⟨r, s, rfl, rfl, (hr.B (by decide)).mono (by decide), (hs.B (by decide)).mono (by decide)⟩
  walk_at "rd"
  refine ifB (fun c => ?_) (fun c => ?_)
  · walk_at "rd"
    intro x hx
    walk_at "rd"
    refine go _ _ (odd_p2 x hx) rfl fun hr _ => ?_
    obtain ⟨r, e, br⟩ := odd_ratio x hx hr
    exact ⟨r, u.2, e, rfl, br, c2⟩
  walk_at "rd"
  refine ifB (fun c => ?_) (fun c => ?_)
  · walk_at "rd"
    intro x hx
    walk_at "rd"
    refine go _ _ rfl (odd_p2 x hx) fun _ hr => ?_
    obtain ⟨r, e, br⟩ := odd_ratio x hx hr
    exact ⟨u.1, r, rfl, e, c1, br⟩
  walk_at "rd"
  refine ifB (fun c => ?_) (fun c => ?_)
  · walk_at "rd"
    rintro y (rfl | rfl) <;> exact q _ (thing_no rfl rfl)
  walk_at "rd"
  refine ifB (fun c => ?_) (fun c => ?_)
  · walk_at "rd"
    rintro y (rfl | rfl) <;> exact q _ (thing_no rfl rfl)
  walk_at "rd"
  exact fun x hx => q x (odd_thing x hx)
end
end SA
end

section
set_option Elab.async false
set_option linter.all false
set_option maxRecDepth 100000
set_option maxHeartbeats 4000000
namespace SA
open PySem PySem.Spec PyProof.Rows L2 DL RM
local macro_rules | `(tactic| walk_at "rd") => `(tactic| repeat (first | refine ⟨_, rfl, ?_⟩ | refine ⟨rfl, ?_⟩ | refine ⟨_, _, rfl, ?_⟩ | refine ⟨_, _, rfl, rfl, ?_⟩ | refine ⟨_, _, _, rfl, rfl, ?_⟩ | refine ⟨_, _, _, rfl, ?_⟩ | refine ⟨_, _, _, _, rfl, ?_⟩ | refine ⟨_, _, _, _, _, _, rfl, ?_⟩ | refine And.intro (by assumption) ?_ | refine And.intro (by decide : _ ∉ _) ?_ | refine iteT ?_ | refine iteF ?_))
section
variable {P : Program} {w : World} {K : PySem.W.Frag} {mg : Str → Option Value} {base : Heap} {f : Addr} {fd : FuncData}
theorem chain_ok {n : Nat} {r : List Rat} (h2 : 1 ≤ n) (h4 : n ≤ 4) (hl : r.length = n + 1) (hz : ∀ x, x ∈ r → Z 2000002 x) : BarsOk ((List.range n).map fun k : Nat => (((k : Int) - 1, r.getD k 0, (k : Int) + 1) : Bar)) n where
  l1 := by rw [List.length_map, List.length_range]; omega
  l6 := by rw [List.length_map, List.length_range]; omega
  n1 := h2
  n4 := h4
  host := fun i b hb => by
    rw [List.getElem?_map] at hb
    obtain ⟨k, hk, rfl⟩ := Option.map_eq_some_iff.mp hb
    have hi : i < n := by
      have := (List.getElem?_eq_some_iff.mp hk).1
      simpa using this
    rw [List.getElem?_range hi] at hk
    cases hk
    exact ⟨show -1 ≤ (i : Int) - 1 by omega, show (i : Int) - 1 < i by omega⟩
  mark2 := fun b hb => by
    obtain ⟨k, hk, rfl⟩ := List.mem_map.mp hb
    have hk' := List.mem_range.mp hk
    obtain ⟨v, hv⟩ := at_some (l := r) (i := k) (by omega)
    show Z 2000002 (r.getD k 0)
    rw [getD_of hv]
    exact hz v (List.mem_of_getElem? hv)
  lett := fun b hb => by
    obtain ⟨k, hk, rfl⟩ := List.mem_map.mp hb
    have hk' := List.mem_range.mp hk
    exact ⟨show (0 : Int) ≤ (k : Int) + 1 by omega, show (k : Int) + 1 ≤ n by omega⟩
  all := fun k h1 hn => ⟨_, List.mem_map.mpr ⟨k - 1, List.mem_range.mpr (by omega), rfl⟩, show ((k - 1 : Nat) : Int) + 1 = k by omega⟩
theorem set_map {r : List Rat} {i : Nat} {v : Rat} : (r.map ratD).set i (ratD v) = (r.set i v).map ratD := by rw [List.map_set]
theorem set_Z {r : List Rat} {i c : Nat} {v : Rat} (h : ∀ x, x ∈ r → Z c x) (hv : Z c v) : ∀ x, x ∈ r.set i v → Z c x := fun x hx => by
  rcases List.mem_or_eq_of_mem_set hx with z | z
  · exact h x z
  · rw [z]; exact hv
theorem ok_law_closing (F : Fun K "_law_closing" "_law_closing" s_law_closing f fd) (G_law_above : Cal P w K mg base CX0 7 "_law_above" (spH K S_law_above)) (G_law_plus : Cal P w K mg base CX0 6 "_law_plus" (spP K S_law_plus)) (G_law_take : Cal P w K mg base CX0 4 "_law_take" (spH K S_law_take)) (G_law_times : Cal P w K mg base CX0 6 "_law_times" (spP K S_law_times)) (G_law_wide : Cal P w K mg base CX0 7 "_law_wide" (spH K S_law_wide)) (T : Glob mg) : FnOk P w K mg base CX0 8 f fd ["_law_hand_here"] (spH K S_law_closing) := by
  refine fnH F sc_law_closing (by intro ds Q E h; unfold S_law_closing at h; repeat (first | (obtain ⟨rfl, _⟩ := h; rfl) | (obtain ⟨_, h⟩ := h))) fun cdv A outer sh H E W hr => ⟨_, (bd_cons (sd_set 1 sc_law_closing.nd (ed_add ed_int (ech G_law_take hr (by decide) (by rfl) (ah_cons 0 (ad_cons ed_int ad_nil)))))
    (bd_cons (sd_setO 2 sc_law_closing.nd (eo_lc rfl sc_law_closing.nd (id_range1 (by rfl) T.n_range (ad_cons (ed_add (ed_var 1) ed_int) ad_nil)) (own := [("_law_k", 3)]) (blk_of (N := N_law_closing) (sc := defScope s_law_closing)) (tg1 3) (fun _ _ _ _ _ => pg_name (i := 3) sc_law_closing.nd rfl (Or.inl rfl) (.inr rfl)) (fun _ _ _ _ _ => pts_yes) (fun _ _ _ _ _ => (ech G_law_wide hr (by decide) (by rfl) (ah_cons 0 ad_nil)))))
    (bd_cons (sd_asg (ec G_law_times hr (by decide) (by rfl) (ad_cons (ed_ix (ed_frz (eo_lst (ad_cons (ed_tup (ad_cons ed_int (ad_cons ed_int ad_nil))) (ad_cons (ed_tup (ad_cons (ed_neg ed_int) (ad_cons ed_int ad_nil))) ad_nil)))) (ech G_law_take hr (by decide) (by rfl) (ah_cons 0 (ad_cons ed_int ad_nil)))) (ad_cons (ech G_law_above hr (by decide) (by rfl) (ah_cons 0 ad_nil)) ad_nil))) (gd_sub 2 (ed_var 1)))
    (bd_cons (sd_asg (ed_ix (ed_frz (eo_lst (ad_cons (ed_ixO 2 (ed_var 1)) (ad_cons (ec G_law_times hr (by decide) (by rfl) (ad_cons (ed_tup (ad_cons (ed_neg ed_int) (ad_cons ed_int ad_nil))) (ad_cons (ed_ixO 2 (ed_var 1)) ad_nil))) (ad_cons (ec G_law_plus hr (by decide) (by rfl) (ad_cons (ed_ixO 2 (ed_var 1)) (ad_cons (ech G_law_wide hr (by decide) (by rfl) (ah_cons 0 ad_nil)) ad_nil))) ad_nil))))) (ech G_law_take hr (by decide) (by rfl) (ah_cons 0 (ad_cons ed_int ad_nil)))) (gd_sub 2 ed_int))
    (bd_one (sd_ret (ed_tup (ad_cons (ed_ct call_tuple_of sim_tuple (by rfl) T.n_tuple (by decide +kernel) (ad_cons (ed_frz (eo_lc rfl sc_law_closing.nd (id_range1 (by rfl) T.n_range (ad_cons (ed_var 1) ad_nil)) (own := [("_law_k", 3)]) (blk_of (N := N_law_closing) (sc := defScope s_law_closing)) (tg1 3) (fun _ _ _ _ _ => pg_name (i := 3) sc_law_closing.nd rfl (Or.inl rfl) (.inr rfl)) (fun _ _ _ _ _ => pts_yes) (fun _ _ _ _ _ => (ed_tup (ad_cons (ed_sub (ed_var 3) ed_int) (ad_cons (ed_ixO 2 (ed_var 3)) (ad_cons (ed_add (ed_var 3) ed_int) ad_nil))))))) ad_nil)) (ad_cons (ed_tup (ad_cons (ed_sub (ed_var 1) ed_int) (ad_cons (ed_ixO 2 (ed_var 1)) ad_nil))) ad_nil))))))))), ?_⟩
  rintro ds Q EQ ⟨rfl, q⟩
  walk_at "rd"
  refine ⟨by decide, by decide, fun w h0 h1 => ?_⟩
  have h1' : w < 2 := h1
  obtain ⟨n, hn⟩ : ∃ n : Nat, 2 + w = ((n : Nat) : Int) := ⟨(2 + w).toNat, by omega⟩
  walk_at "rd"
  refine ⟨show (-(2 ^ 62) : Int) ≤ 2 + w + 1 by omega, show 2 + w + 1 < 2 ^ 62 by omega, ?_⟩
  unfold DL.intsFrom
  rw [show (2 + w + 1).toNat = n + 1 by omega]
  walk_at "rd"
  refine compL_some (fun i : Nat => D.int (0 + (i : Nat))) ratD (fun _ r => Z 1000001 r) (List.range (n + 1)) [] (by rw [List.length_range, List.length_nil]; omega) (fun i hi => ⟨trivial, fun k hk => ?_⟩) (fun m hm hR => ?_)
  · walk_at "rd"
    exact hk
  have hm' : m.length = n + 1 := by rw [hm, List.length_range]
  have hz : ∀ x, x ∈ m → Z 2000002 x := fun u hu => by
    obtain ⟨i, hi⟩ := List.getElem?_of_mem hu
    obtain ⟨h1, _⟩ := List.getElem?_eq_some_iff.mp hi
    exact (hR i i u (by rw [List.getElem?_range (by omega)]) hi).mono (by decide)
  rw [List.nil_append]
  walk_at "rd"
  refine ⟨by decide, by decide, fun v hv0 hv1 => ?_⟩
  have hv1' : v < 2 := hv1
  walk_at "rd"
  have hsg : ∃ s : Rat, atI [D.tup [.int 1, .int 1], D.tup [.int (-1), .int 1]] v = some (ratD s) ∧ (s = 1 ∨ s = -1) := by
    have : v = 0 ∨ v = 1 := by omega
    rcases this with rfl | rfl
    · exact ⟨1, rfl, .inl rfl⟩
    · exact ⟨-1, rfl, .inr rfl⟩
  obtain ⟨s, hs, hs1⟩ := hsg
  refine ⟨_, hs, ?_⟩
  walk_at "rd"
  intro g hg
  have bs : B 1 s := by
    rcases hs1 with rfl | rfl
    · exact B.one
    · exact B.one.neg
  have zt : Z 1000001 (s * g) := by
    rcases hs1 with rfl | rfl
    · rw [Rat.one_mul]; exact hg
    · rw [show (-1 : Rat) * g = -g by grind]; exact hg.neg
  walk_at "rd"
  refine ⟨bs.mono (by decide), (hg.B (by decide)).mono (by decide), ?_⟩
  walk_at "rd"
  refine ⟨n, ixN_of (n := n) hn (by rw [List.length_map]; omega), ?_⟩
  rw [set_map]
  have hz2 := set_Z (i := n) hz (zt.mono (by decide))
  have hl2 : (m.set n (s * g)).length = n + 1 := by rw [List.length_set, hm']
  have hv2 : (m.set n (s * g))[n]? = some (s * g) := by rw [List.getElem?_set_self (by omega)]
  generalize m.set n (s * g) = m2 at hz2 hl2 hv2
  have hat : atI (m2.map ratD) (2 + w) = some (ratD (s * g)) := row_at (by omega) (by rw [show (2 + w).toNat = n by omega]; exact hv2)
  have bt := (zt.B (by decide)).mono (show 100 ≤ 4400 by decide)
  walk_at "rd"
  refine ⟨_, hat, ?_⟩
  walk_at "rd"
  refine ⟨_, hat, ?_⟩
  walk_at "rd"
  refine ⟨-1, s * g, rfl, (B.one.neg).mono (by decide), bt, ?_⟩
  walk_at "rd"
  refine ⟨_, hat, ?_⟩
  walk_at "rd"
  intro u hu
  walk_at "rd"
  refine ⟨(hu.B (by decide)).mono (by decide), ?_⟩
  walk_at "rd"
  refine ⟨by decide, by decide, fun y hy0 hy1 => ?_⟩
  have hy1' : y < 3 := hy1
  walk_at "rd"
  have h3 : ∃ t : Rat, atI [ratD (s * g), ratD (-1 * (s * g)), ratD (s * g + u)] y = some (ratD t) ∧ Z 2000002 t := by
    have : y = 0 ∨ y = 1 ∨ y = 2 := by omega
    rcases this with rfl | rfl | rfl
    · exact ⟨_, rfl, zt.mono (by decide)⟩
    · exact ⟨_, rfl, by rw [show (-1 : Rat) * (s * g) = -(s * g) by grind]; exact zt.neg.mono (by decide)⟩
    · exact ⟨_, rfl, (zt.add hu).mono (by decide)⟩
  obtain ⟨t, ht, zt2⟩ := h3
  refine ⟨_, ht, ?_⟩
  walk_at "rd"
  refine ⟨1, ixN_of (n := 1) rfl (by rw [List.length_map]; omega), ?_⟩
  rw [set_map]
  have hz3 := set_Z (i := 1) hz2 zt2
  have hl3 : (m2.set 1 t).length = n + 1 := by rw [List.length_set, hl2]
  have hv3 : (m2.set 1 t)[n]? = some (s * g) := by rw [List.getElem?_set_ne (by omega)]; exact hv2
  generalize m2.set 1 t = m3 at hz3 hl3 hv3
  walk_at "rd"
  refine ⟨show (-(2 ^ 62) : Int) ≤ 2 + w by omega, show 2 + w < 2 ^ 62 by omega, ?_⟩
  unfold DL.intsFrom
  rw [show (2 + w).toNat = n by omega]
  walk_at "rd"
  refine compL_map (fun i : Nat => D.int (0 + (i : Nat))) (fun k : Nat => barD ((k : Int) - 1, m3.getD k 0, (k : Int) + 1)) (List.range n) [] (by rw [List.length_range, List.length_nil]; omega) (fun i hi => ⟨trivial, fun k hk => ?_⟩) ?_
  · have hi' := List.mem_range.mp hi
    obtain ⟨v, hv⟩ := at_some (l := m3) (i := i) (by omega)
    rw [getD_of hv] at hk
    walk_at "rd"
    refine ⟨_, row_at (by omega) (show m3[(0 + (i : Int)).toNat]? = some v by rw [show (0 + (i : Int)).toNat = i by omega]; exact hv), ?_⟩
    walk_at "rd"
    have e0 : (0 + (i : Int)) = (i : Int) := by omega
    have hk' : k (D.tup [.int ((0 + (i : Int)) - 1), ratD v, .int ((0 + (i : Int)) + 1)]) := by rw [e0]; exact hk
    exact hk'
  · walk_at "rd"
    refine ⟨_, row_at (i := 2 + w) (by omega) (by rw [show (2 + w).toNat = n by omega]; exact hv3), ?_⟩
    walk_at "rd"
    have hok := chain_ok (n := n) (r := m3) (by omega) (by omega) hl3 fun x hx => (hz3 x hx).mono (by decide)
    have := q _ n (2 + w - 1, s * g) hok (show -1 ≤ 2 + w - 1 by omega) (by rw [List.length_map, List.length_range]; show 2 + w - 1 < n; omega) zt
    unfold barsD at this
    rw [List.map_map] at this
    exact this
end
end SA
end

section
set_option Elab.async false
set_option linter.all false
set_option maxRecDepth 100000
set_option maxHeartbeats 4000000
namespace SA
open PySem PySem.Spec PyProof.Rows L2 DL RM
local macro_rules | `(tactic| walk_at "rd") => `(tactic| repeat (first | refine ⟨_, rfl, ?_⟩ | refine ⟨rfl, ?_⟩ | refine ⟨_, _, rfl, ?_⟩ | refine ⟨_, _, rfl, rfl, ?_⟩ | refine ⟨_, _, _, rfl, rfl, ?_⟩ | refine ⟨_, _, _, rfl, ?_⟩ | refine ⟨_, _, _, _, rfl, ?_⟩ | refine ⟨_, _, _, _, _, _, rfl, ?_⟩ | refine And.intro (by assumption) ?_ | refine And.intro (by decide : _ ∉ _) ?_ | refine iteT ?_ | refine iteF ?_))
section
variable {P : Program} {w : World} {K : PySem.W.Frag} {mg : Str → Option Value} {base : Heap} {f : Addr} {fd : FuncData}
/-- the letters of the bars -/
structure LetOk (l : List Int) (many n : Nat) : Prop where
  len : l.length = many
  rng : ∀ x, x ∈ l → 0 ≤ x ∧ x ≤ n
  all : ∀ k : Nat, 1 ≤ k → k ≤ n → (k : Int) ∈ l
theorem swap_mem {l : List Int} {i j : Nat} {a b : Int} (ha : l[i]? = some a) (hb : l[j]? = some b) (x : Int) : x ∈ (l.set i b).set j a ↔ x ∈ l := by
  have hi := (List.getElem?_eq_some_iff.mp ha).1
  have hj := (List.getElem?_eq_some_iff.mp hb).1
  constructor
  · intro h
    rcases List.mem_or_eq_of_mem_set h with z | z
    · rcases List.mem_or_eq_of_mem_set z with z | z
      · exact z
      · rw [z]; exact List.mem_of_getElem? hb
    · rw [z]; exact List.mem_of_getElem? ha
  · intro h
    obtain ⟨m, hm⟩ := List.getElem?_of_mem h
    by_cases c1 : m = i
    · subst c1
      rw [ha] at hm
      cases hm
      exact List.mem_of_getElem? (i := j) (by rw [List.getElem?_set_self (by rw [List.length_set]; exact hj)])
    · by_cases c2 : m = j
      · subst c2
        rw [hb] at hm
        cases hm
        exact List.mem_of_getElem? (i := i) (by rw [List.getElem?_set_ne (Ne.symm (fun z => c1 z.symm)), List.getElem?_set_self hi])
      · exact List.mem_of_getElem? (i := m) (by rw [List.getElem?_set_ne (fun z => c2 z.symm), List.getElem?_set_ne (fun z => c1 z.symm)]; exact hm)
theorem LetOk.swap {l : List Int} {many n i j : Nat} {a b : Int} (h : LetOk l many n) (ha : l[i]? = some a) (hb : l[j]? = some b) : LetOk ((l.set i b).set j a) many n :=
  ⟨by rw [List.length_set, List.length_set, h.len], fun x hx => h.rng x ((swap_mem ha hb x).1 hx), fun k h1 h2 => (swap_mem ha hb _).2 (h.all k h1 h2)⟩
theorem int_at {l : List Int} {i : Int} {v : Int} (h0 : 0 ≤ i) (h : l[i.toNat]? = some v) : atI (l.map D.int) i = some (.int v) :=
  (atI_of (n := i.toNat) (by omega)).trans (by rw [List.getElem?_map, h]; rfl)
theorem set_mapI {l : List Int} {i : Nat} {v : Int} : (l.map D.int).set i (.int v) = (l.set i v).map D.int := by rw [List.map_set]
theorem int_of {i : Int} (h : 0 ≤ i) : ∃ n : Nat, i = ((n : Nat) : Int) := ⟨i.toNat, by omega⟩
theorem bars_done {bs : List Bar} {l : List Int} {many n : Nat} (h : LetOk l many n) (m1 : 1 ≤ many) (m6 : many ≤ 6) (n1 : 1 ≤ n) (n4 : n ≤ 4) (hl : bs.length = many)
    (hp : ∀ (i : Nat) (b : Bar), bs[i]? = some b → -1 ≤ b.1 ∧ b.1 < i ∧ Z 1000001 b.2.1 ∧ l[i]? = some b.2.2) : BarsOk bs n where
  l1 := by omega
  l6 := by omega
  n1 := n1
  n4 := n4
  host := fun i b hb => ⟨(hp i b hb).1, (hp i b hb).2.1⟩
  mark2 := fun b hb => by
    obtain ⟨i, hi⟩ := List.getElem?_of_mem hb
    exact (hp i b hi).2.2.1.mono (by decide)
  lett := fun b hb => by
    obtain ⟨i, hi⟩ := List.getElem?_of_mem hb
    exact h.rng _ (List.mem_of_getElem? (hp i b hi).2.2.2)
  all := fun k h1 h2 => by
    obtain ⟨i, hi⟩ := List.getElem?_of_mem (h.all k h1 h2)
    have hlt := (List.getElem?_eq_some_iff.mp hi).1
    have hln := h.len
    obtain ⟨b, hb⟩ := at_some (l := bs) (i := i) (by omega)
    have := (hp i b hb).2.2.2
    rw [hi] at this
    exact ⟨b, List.mem_of_getElem? hb, (Option.some.inj this).symm⟩
theorem ok_law_world (F : Fun K "_law_world" "_law_world" s_law_world f fd) (G_law_take : Cal P w K mg base CX0 4 "_law_take" (spH K S_law_take)) (G_law_wide : Cal P w K mg base CX0 7 "_law_wide" (spH K S_law_wide)) (T : Glob mg) : FnOk P w K mg base CX0 8 f fd ["_law_hand_here"] (spH K S_law_world) := by
  refine fnH F sc_law_world (by intro ds Q E h; unfold S_law_world at h; repeat (first | (obtain ⟨rfl, _⟩ := h; rfl) | (obtain ⟨_, h⟩ := h))) fun cdv A outer sh H E W hr => ⟨_, (bd_cons (sd_set 1 sc_law_world.nd (ed_ix (ed_frz (eo_lst (ad_cons ed_int (ad_cons ed_int (ad_cons ed_int (ad_cons ed_int (ad_cons ed_int (ad_cons ed_int (ad_cons ed_int (ad_cons ed_int ad_nil)))))))))) (ech G_law_take hr (by decide) (by rfl) (ah_cons 0 (ad_cons ed_int ad_nil)))))
    (bd_cons (sd_set 2 sc_law_world.nd (ed_cb (call_min2 rfl) sim_min (by rfl) T.n_min (by decide +kernel) (ad_cons (ed_var 1) (ad_cons (ed_ix (ed_frz (eo_lst (ad_cons ed_int (ad_cons ed_int (ad_cons ed_int (ad_cons ed_int (ad_cons ed_int (ad_cons ed_int (ad_cons ed_int (ad_cons ed_int ad_nil)))))))))) (ech G_law_take hr (by decide) (by rfl) (ah_cons 0 (ad_cons ed_int ad_nil)))) ad_nil))))
    (bd_cons (sd_setLc 4 rfl sc_law_world.nd (id_range1 (by rfl) T.n_range (ad_cons (ed_var 1) ad_nil)) (own := [("_law_k", 3)]) (blk_of (N := N_law_world) (sc := defScope s_law_world)) (tg1 3) (fun _ _ _ _ _ => pg_name (i := 3) sc_law_world.nd rfl (Or.inl rfl) (.inr rfl)) (fun _ _ _ _ _ => pts_yes) (fun _ _ _ _ _ => (ed_ifExp (td_lt (ed_var 3) (ed_var 2)) (ed_add (ed_var 3) ed_int) (ech G_law_take hr (by decide) (by rfl) (ah_cons 0 (ad_cons (ed_add (ed_var 2) ed_int) ad_nil))))) rfl)
    (bd_cons (sd_for PassesOwn.never rfl (id_range3 (by rfl) T.n_range (ad_cons (ed_sub (ed_var 1) ed_int) (ad_cons ed_int (ad_cons (ed_neg ed_int) ad_nil)))) (gd_name 3 sc_law_world.nd) (bd_cons (sd_set 5 sc_law_world.nd (ech G_law_take hr (by decide) (by rfl) (ah_cons 0 (ad_cons (ed_add (ed_var 3) ed_int) ad_nil))))
    (bd_one (sd_asg (ed_tup (ad_cons (ed_ixO 4 (ed_var 5)) (ad_cons (ed_ixO 4 (ed_var 3)) ad_nil))) (gd_tup rfl (gds_cons (gd_sub 4 (ed_var 3)) (gds_cons (gd_sub 4 (ed_var 5)) gds_nil)))))))
    (bd_cons (sd_setO 6 sc_law_world.nd (eo_lst ad_nil))
    (bd_cons (sd_for PassesOwn.never rfl (id_range1 (by rfl) T.n_range (ad_cons (ed_var 1) ad_nil)) (gd_name 3 sc_law_world.nd) (bd_cons (sd_set 7 sc_law_world.nd (ed_ifExp (td_eq (ech G_law_take hr (by decide) (by rfl) (ah_cons 0 (ad_cons ed_int ad_nil))) ed_int) (ed_sub (ed_var 3) ed_int) (ed_sub (ech G_law_take hr (by decide) (by rfl) (ah_cons 0 (ad_cons (ed_add (ed_var 3) ed_int) ad_nil))) ed_int)))
    (bd_one (sd_app 6 (ed_tup (ad_cons (ed_var 7) (ad_cons (ech G_law_wide hr (by decide) (by rfl) (ah_cons 0 ad_nil)) (ad_cons (ed_ixO 4 (ed_var 3)) ad_nil))))))))
    (bd_one (sd_fz 6 (sd_ret (ed_ct call_tuple_of sim_tuple (by rfl) T.n_tuple (by decide +kernel) (ad_cons (ed_var 6) ad_nil))))))))))), ?_⟩
  rintro ds Q EQ ⟨rfl, q⟩
  walk_at "rd"
  refine ⟨by decide, by decide, fun w h0 h1 => ?_⟩
  have hmany : ∃ many : Nat, atI [D.int 2, D.int 1, D.int 3, D.int 2, D.int 3, D.int 4, D.int 3, D.int 6] w = some (.int ((many : Nat) : Int)) ∧ 1 ≤ many ∧ many ≤ 6 := by
    have h1' : w < 8 := h1
    have : w = 0 ∨ w = 1 ∨ w = 2 ∨ w = 3 ∨ w = 4 ∨ w = 5 ∨ w = 6 ∨ w = 7 := by omega
    rcases this with rfl | rfl | rfl | rfl | rfl | rfl | rfl | rfl
    · exact ⟨2, rfl, by decide, by decide⟩
    · exact ⟨1, rfl, by decide, by decide⟩
    · exact ⟨3, rfl, by decide, by decide⟩
    · exact ⟨2, rfl, by decide, by decide⟩
    · exact ⟨3, rfl, by decide, by decide⟩
    · exact ⟨4, rfl, by decide, by decide⟩
    · exact ⟨3, rfl, by decide, by decide⟩
    · exact ⟨6, rfl, by decide, by decide⟩
  obtain ⟨many, hm, m1, m6⟩ := hmany
  clear h0 h1
  walk_at "rd"
  refine ⟨_, hm, ?_⟩
  walk_at "rd"
  refine ⟨by decide, by decide, fun w2 h0 h1 => ?_⟩
  have hnn : ∃ c : Nat, atI [D.int 2, D.int 1, D.int 2, D.int 3, D.int 2, D.int 2, D.int 3, D.int 4] w2 = some (.int ((c : Nat) : Int)) ∧ 1 ≤ c ∧ c ≤ 4 := by
    have h1' : w2 < 8 := h1
    have : w2 = 0 ∨ w2 = 1 ∨ w2 = 2 ∨ w2 = 3 ∨ w2 = 4 ∨ w2 = 5 ∨ w2 = 6 ∨ w2 = 7 := by omega
    rcases this with rfl | rfl | rfl | rfl | rfl | rfl | rfl | rfl
    · exact ⟨2, rfl, by decide, by decide⟩
    · exact ⟨1, rfl, by decide, by decide⟩
    · exact ⟨2, rfl, by decide, by decide⟩
    · exact ⟨3, rfl, by decide, by decide⟩
    · exact ⟨2, rfl, by decide, by decide⟩
    · exact ⟨2, rfl, by decide, by decide⟩
    · exact ⟨3, rfl, by decide, by decide⟩
    · exact ⟨4, rfl, by decide, by decide⟩
  obtain ⟨c, hc, c1, c4⟩ := hnn
  clear h0 h1
  walk_at "rd"
  refine ⟨_, hc, ?_⟩
  walk_at "rd"
  obtain ⟨n, hn, n1, n4, nm⟩ : ∃ n : Nat, (if ((c : Nat) : Int) < ((many : Nat) : Int) then ((c : Nat) : Int) else ((many : Nat) : Int)) = ((n : Nat) : Int) ∧ 1 ≤ n ∧ n ≤ 4 ∧ n ≤ many := by
    split
    · exact ⟨c, rfl, c1, c4, by omega⟩
    · exact ⟨many, rfl, m1, by omega, by omega⟩
  rw [hn]
  walk_at "rd"
  refine ⟨by omega, by omega, ?_⟩
  unfold DL.intsFrom
  rw [show ((many : Nat) : Int).toNat = many by omega]
  walk_at "rd"
  refine compL_some (fun i : Nat => D.int (0 + (i : Nat))) D.int (fun i v => 0 ≤ v ∧ v ≤ (n : Int) ∧ (i < n → v = (i : Int) + 1)) (List.range many) [] (by rw [List.length_range, List.length_nil]; omega) (fun i hi => ⟨trivial, fun k hk => ?_⟩) (fun l hl hR => ?_)
  · walk_at "rd"
    refine ifB (fun h => ?_) (fun h => ?_)
    · walk_at "rd"
      exact hk _ ⟨show (0 : Int) ≤ 0 + (i : Int) + 1 by omega, show 0 + (i : Int) + 1 ≤ n by omega, fun _ => show 0 + (i : Int) + 1 = (i : Int) + 1 by omega⟩
    · walk_at "rd"
      refine ⟨show (0 : Int) < (n : Int) + 1 by omega, show (n : Int) + 1 < 1073741824 by omega, fun v hv0 hv1 => ?_⟩
      have hv1' : v < (n : Int) + 1 := hv1
      exact hk v ⟨hv0, by omega, fun z => by omega⟩
  have hok : LetOk l many n := by
    have hlen : l.length = many := by rw [hl, List.length_range]
    refine ⟨hlen, fun x hx => ?_, fun k h1 h2 => ?_⟩
    · obtain ⟨i, hi⟩ := List.getElem?_of_mem hx
      obtain ⟨hlt, _⟩ := List.getElem?_eq_some_iff.mp hi
      have := hR i i x (by rw [List.getElem?_range (by omega)]) hi
      exact ⟨this.1, this.2.1⟩
    · obtain ⟨v, hv⟩ := at_some (l := l) (i := k - 1) (by omega)
      have := (hR (k - 1) (k - 1) v (by rw [List.getElem?_range (by omega)]) hv).2.2 (by omega)
      have e : v = (k : Int) := by omega
      rw [← e]
      exact List.mem_of_getElem? hv
  clear hR hl
  rw [List.nil_append]
  walk_at "rd"
  refine ⟨_, _, _, _, rfl, RgC.neg (show (-(2 ^ 62) : Int) ≤ (many : Int) - 1 by omega) (show (many : Int) - 1 < 2 ^ 62 by omega) (by decide) (by decide), ?_⟩
  walk_at "rd"
  refine forL_ind (fun xs ρ => ∃ (l : List Int) (e3 e5 : Option Sl), ρ = [some .hand, some (.d (.int ((many : Nat) : Int))), some (.d (.int ((n : Nat) : Int))), e3, some (.own (l.map D.int)), e5, none, none] ∧ LetOk l many n ∧ ∀ x, x ∈ xs → ∃ k : Nat, x = .int ((k : Nat) : Int) ∧ k < many) ?_ ?_ _ _ ⟨l, none, none, rfl, hok, fun x hx => ?_⟩
  · rintro ρ ⟨l, e3, e5, rfl, hok, _⟩
    have hln := hok.len
    walk_at "rd"
    refine ⟨by omega, by omega, ?_⟩
    unfold DL.intsFrom
    rw [show ((many : Nat) : Int).toNat = many by omega]
    refine forL_ind (fun xs ρ => ∃ (bs : List Bar) (m : Nat) (e3 e5 e7 : Option Sl), xs = (List.range' bs.length m).map (fun i : Nat => D.int (0 + (i : Nat))) ∧ ρ = [some .hand, some (.d (.int ((many : Nat) : Int))), some (.d (.int ((n : Nat) : Int))), e3, some (.own (l.map D.int)), e5, some (.own (bs.map barD)), e7] ∧
      bs.length + m = many ∧ ∀ (i : Nat) (b : Bar), bs[i]? = some b → -1 ≤ b.1 ∧ b.1 < i ∧ Z 1000001 b.2.1 ∧ l[i]? = some b.2.2) ?_ ?_ _ _ ⟨[], many, e3, e5, none, by rw [List.range_eq_range']; rfl, rfl, Nat.zero_add _, fun i b h => by simp at h⟩
    · rintro ρ ⟨bs, m, e3, e5, e7, h1, rfl, hm, hp⟩
      cases m with
      | succ m => cases h1
      | zero =>
        walk_at "rd"
        exact q bs n (bars_done hok m1 m6 n1 n4 hm hp)
    · rintro x xs ρ ih ⟨bs, m, e3, e5, e7, h1, rfl, hm, hp⟩
      cases m with
      | zero => cases h1
      | succ m =>
        rw [List.range'_succ, List.map_cons] at h1
        cases h1
        have hj : bs.length < many := by omega
        obtain ⟨a, ha⟩ := at_some (l := l) (i := bs.length) (by omega)
        have ha' : atI (l.map D.int) (0 + ((bs.length : Nat) : Int)) = some (.int a) := int_at (by omega) (by rw [show (0 + ((bs.length : Nat) : Int)).toNat = bs.length by omega]; exact ha)
        have fin : ∀ (h : Int) (r : Rat), -1 ≤ h → h < bs.length → Z 1000001 r → ∀ (i : Nat) (b : Bar), (bs ++ [((h, r, a) : Bar)])[i]? = some b → -1 ≤ b.1 ∧ b.1 < i ∧ Z 1000001 b.2.1 ∧ l[i]? = some b.2.2 := fun h r g1 g2 g3 i b hb => by
          by_cases c : i < bs.length
          · rw [List.getElem?_append_left c] at hb
            exact hp i b hb
          · rw [List.getElem?_append_right (by omega)] at hb
            by_cases c2 : i = bs.length
            · subst c2
              rw [Nat.sub_self] at hb
              cases hb
              exact ⟨g1, g2, g3, ha⟩
            · rw [List.getElem?_eq_none (by simp; omega)] at hb
              cases hb
        have go : ∀ (h : Int) (r : Rat), -1 ≤ h → h < bs.length → Z 1000001 r → ∀ e3 e5 e7, _ := fun h r g1 g2 g3 e3 e5 e7 => ih [some .hand, some (.d (.int ((many : Nat) : Int))), some (.d (.int ((n : Nat) : Int))), e3, some (.own (l.map D.int)), e5, some (.own (bs.map barD ++ [barD (h, r, a)])), e7]
          ⟨bs ++ [((h, r, a) : Bar)], m, e3, e5, e7, by rw [List.length_append, List.length_singleton], by rw [List.map_append]; rfl, by rw [List.length_append, List.length_singleton]; omega, fin h r g1 g2 g3⟩
        walk_at "rd"
        refine ⟨by decide, by decide, fun v hv0 hv1 => ?_⟩
        walk_at "rd"
        refine ifB (fun c => ?_) (fun c => ?_)
        · walk_at "rd"
          refine ⟨by rw [List.length_map]; omega, ?_⟩
          walk_at "rd"
          intro r hr
          walk_at "rd"
          refine ⟨_, ha', ?_⟩
          walk_at "rd"
          exact go _ r (show -1 ≤ 0 + ((bs.length : Nat) : Int) - 1 by omega) (show 0 + ((bs.length : Nat) : Int) - 1 < bs.length by omega) hr _ _ _
        · walk_at "rd"
          refine ⟨show (0 : Int) < 0 + ((bs.length : Nat) : Int) + 1 by omega, show 0 + ((bs.length : Nat) : Int) + 1 < 1073741824 by omega, fun u hu0 hu1 => ?_⟩
          have hu1' : u < 0 + ((bs.length : Nat) : Int) + 1 := hu1
          walk_at "rd"
          refine ⟨by rw [List.length_map]; omega, ?_⟩
          walk_at "rd"
          intro r hr
          walk_at "rd"
          refine ⟨_, ha', ?_⟩
          walk_at "rd"
          exact go _ r (show -1 ≤ u - 1 by omega) (show u - 1 < bs.length by omega) hr _ _ _
  · rintro x xs ρ ih ⟨l, e3, e5, rfl, hok, hx⟩
    obtain ⟨k, rfl, hk⟩ := hx x (List.mem_cons_self ..)
    walk_at "rd"
    refine ⟨show (0 : Int) < (k : Int) + 1 by omega, show (k : Int) + 1 < 1073741824 by omega, fun v hv0 hv1 => ?_⟩
    have hv1' : v < (k : Int) + 1 := hv1
    have hln := hok.len
    obtain ⟨a, ha⟩ := at_some (l := l) (i := k) (by omega)
    obtain ⟨b, hb⟩ := at_some (l := l) (i := v.toNat) (by omega)
    walk_at "rd"
    refine ⟨_, int_at hv0 hb, ?_⟩
    walk_at "rd"
    refine ⟨_, int_at (i := (k : Int)) (by omega) (by rw [show ((k : Int)).toNat = k by omega]; exact ha), ?_⟩
    walk_at "rd"
    refine ⟨k, ixN_of (n := k) rfl (by rw [List.length_map]; omega), ?_⟩
    rw [set_mapI]
    walk_at "rd"
    refine ⟨v.toNat, ixN_of (n := v.toNat) (by omega) (by rw [List.length_map, List.length_set]; omega), ?_⟩
    rw [set_mapI]
    walk_at "rd"
    exact ih _ ⟨_, _, _, rfl, hok.swap ha hb, fun y hy => hx y (List.mem_cons_of_mem _ hy)⟩
  · unfold intsBy at hx
    obtain ⟨i, hi, rfl⟩ := List.mem_map.mp hx
    have hi' := List.mem_range.mp hi
    have hi2 : i < ((many : Int) - 1 - 0).toNat := hi'
    exact ⟨many - 1 - i, by show D.int (((many : Nat) : Int) - 1 + ((i : Nat) : Int) * (-1)) = _; congr 1; omega, by omega⟩
end
end SA
end

section
set_option Elab.async false
set_option linter.all false
set_option maxRecDepth 100000
set_option maxHeartbeats 4000000

namespace SA
open PySem PySem.Spec PyProof.Rows L2 DL RM
def S_law_high : DSp := fun ds Q _ => ∃ bs n p, ds = [barsD bs, armsD bs n, placeD p] ∧ BarsOk bs n ∧ PlaceOk bs p ∧ Q (.bl true)
def S_law_above_other : DSp := fun ds Q _ => ∃ bs n p q, ds = [barsD bs, armsD bs n, placeD p, placeD q] ∧ BarsOk bs n ∧ PlaceOk bs p ∧ PlaceOk bs q ∧ Q (.bl true)
def spotsD (L : List (Rat × Rat × Bool)) : D := .lst (L.map fun t => .tup [vecD t.1 t.2.1, .bl t.2.2])
def S_law_spots : DSp := fun ds Q _ => ∃ bs n p, ds = [barsD bs, placeD p] ∧ BarsOk bs n ∧ PlaceOk bs p ∧
  ∀ L : List (Rat × Rat × Bool), (∀ t, t ∈ L → B 2000 t.1 ∧ B 2000 t.2.1 ∧ inBelt (footOf (rowOf bs n p)) (loOf (rowOf bs n p)) (highOf (rowOf bs n p)) t.1 t.2.1 = t.2.2) → Q (spotsD L)
def S_law_called : DSp := fun ds Q _ => ∃ act bs n x s, ds = [.int act, armsD bs n, x, s] ∧ 0 ≤ act ∧ act ≤ 5 ∧ BarsOk bs n ∧ Thing s ∧
  ((∃ p : Place, itemsD x = some [.int p.1, ratD p.2] ∧ p3 x = true ∧ PlaceOk bs p ∧ Q (.str (if act = 0 ∧ spotQ s = false then "spot" else "let"))) ∨ (p3 x = true ∧ placeQ x bs.length = false ∧ Q (.str "place")))
def S_law_belted : DSp := fun ds Q _ => ∃ bs n p, ds = [barsD bs, armsD bs n, placeD p] ∧ BarsOk bs n ∧ PlaceOk bs p ∧ Q (.bl true)
end SA
end

section
set_option Elab.async false
set_option linter.all false
set_option maxRecDepth 100000
set_option maxHeartbeats 4000000
namespace SA
open PySem PySem.Spec PyProof.Rows L2 DL RM
local macro_rules | `(tactic| walk_at "rd") => `(tactic| repeat (first | refine ⟨_, rfl, ?_⟩ | refine ⟨rfl, ?_⟩ | refine ⟨_, _, rfl, ?_⟩ | refine ⟨_, _, rfl, rfl, ?_⟩ | refine ⟨_, _, _, rfl, rfl, ?_⟩ | refine ⟨_, _, _, rfl, ?_⟩ | refine ⟨_, _, _, _, rfl, ?_⟩ | refine ⟨_, _, _, _, _, _, rfl, ?_⟩ | refine And.intro (by assumption) ?_ | refine And.intro (by decide : _ ∉ _) ?_ | refine iteT ?_ | refine iteF ?_))
section
variable {P : Program} {w : World} {K : PySem.W.Frag} {mg : Str → Option Value} {base : Heap} {f : Addr} {fd : FuncData}
def dnS (c : Rat) : Int := if 0 < c then -1 else 1
def upS (c : Rat) : Int := if c < 0 then -1 else 1
theorem low_signs (r : List Rat) : (r.tail.map dnS).map (fun s : Int => ((0 : Rat), ((s : Int) : Rat))) = lowU r := by
  unfold lowU
  rw [List.map_map]
  congr 1
  funext c
  show ((0 : Rat), ((dnS c : Int) : Rat)) = _
  unfold dnS
  split <;> rfl
theorem high_signs (r : List Rat) : (r.tail.map upS).map (fun s : Int => ((0 : Rat), ((s : Int) : Rat))) = highU r := by
  unfold highU
  rw [List.map_map]
  congr 1
  funext c
  show ((0 : Rat), ((upS c : Int) : Rat)) = _
  unfold upS
  split <;> rfl
theorem num_pos {c : Rat} : c.num > 0 ↔ 0 < c := by rw [Rat.lt_iff]; simp
theorem num_neg {c : Rat} : c.num < 0 ↔ c < 0 := by rw [Rat.lt_iff]; simp
theorem flat_B {us : List (Rat × Rat)} (h : Flat us) : ∀ u, u ∈ us → B 100 u.1 ∧ B 100 u.2 := fun u hu => by
  obtain ⟨h1, h2⟩ := h u hu
  refine ⟨by rw [h1]; exact B.zero.mono (by decide), ?_⟩
  rcases h2 with z | z
  · rw [z]; exact B.one.mono (by decide)
  · rw [z]; exact (B.one.neg).mono (by decide)
theorem flat_unit {us : List (Rat × Rat)} (h : Flat us) : ∀ u, u ∈ us → Unit2 u := fun u hu => by
  obtain ⟨h1, h2⟩ := h u hu
  unfold Unit2
  rw [h1]
  rcases h2 with z | z
  · rw [z]; grind
  · rw [z]; grind
theorem lowU_len {r : List Rat} {n : Nat} (h : r.length = n + 1) : (lowU r).length = n := by
  unfold lowU
  rw [List.length_map, List.length_tail, h]; rfl
theorem highU_len {r : List Rat} {n : Nat} (h : r.length = n + 1) : (highU r).length = n := by
  unfold highU
  rw [List.length_map, List.length_tail, h]; rfl
theorem ok_law_high (F : Fun K "_law_high" "_law_high" s_law_high f fd) (G_height_poses : Cal P w K mg base (L2.CX P w) 9 "height_poses" (spP K S_height_poses)) (G_heights_of : Cal P w K mg base (L2.CX P w) 9 "heights_of" (spP K S_heights_of)) (G_law_ends : Cal P w K mg base CX0 8 "_law_ends" (spP K S_law_ends)) (G_law_flat : Cal P w K mg base CX0 4 "_law_flat" (spP K S_law_flat)) (G_law_form : Cal P w K mg base CX0 5 "_law_form" (spH K S_law_form)) (G_law_less : Cal P w K mg base CX0 6 "_law_less" (spP K S_law_less)) (G_law_plus : Cal P w K mg base CX0 6 "_law_plus" (spP K S_law_plus)) (G_law_row : Cal P w K mg base CX0 7 "_law_row" (spP K S_law_row)) (G_law_same_row : Cal P w K mg base CX0 5 "_law_same_row" (spP K S_law_same_row)) (G_law_same_rows : Cal P w K mg base CX0 6 "_law_same_rows" (spP K S_law_same_rows)) (G_law_stand : Cal P w K mg base CX0 7 "_law_stand" (spP K S_law_stand)) (T : Glob mg) : FnOk P w K mg base CX0 10 f fd ["_law_hand_here", "_law_bars", "_law_arms", "_law_place"] (spH K S_law_high) := by
  refine fnH F sc_law_high (by intro ds Q E h; unfold S_law_high at h; repeat (first | (obtain ⟨rfl, _⟩ := h; rfl) | (obtain ⟨_, h⟩ := h))) fun cdv A outer sh H E W hr => ⟨_, (bd_cons (sd_set 4 sc_law_high.nd (ec G_law_row hr (by decide) (by rfl) (ad_cons (ed_var 1) (ad_cons (ed_var 3) ad_nil))))
    (bd_cons (sd_set 5 sc_law_high.nd (ed_ix (ec G_law_ends hr (by decide) (by rfl) (ad_cons (ed_var 4) ad_nil)) ed_int))
    (bd_cons (sd_set 6 sc_law_high.nd (ed_tup (ad_cons (ec G_law_less hr (by decide) (by rfl) (ad_cons (ed_ix (ed_var 4) ed_int) (ad_cons (ed_var 5) ad_nil))) (ad_cons (ec G_law_plus hr (by decide) (by rfl) (ad_cons (ed_ix (ed_var 4) ed_int) (ad_cons (ed_var 5) ad_nil))) ad_nil))))
    (bd_cons (sd_if (td_not (td_val (ec G_law_same_row hr (by decide) (by rfl) (ad_cons (ecX G_heights_of hr (by decide) (by rfl) passNo (ad_cons (ed_var 2) (ad_cons (ech G_law_form hr (by decide) (by rfl) (ah_cons 0 (ad_cons (ed_var 3) ad_nil))) ad_nil))) (ad_cons (ed_var 6) ad_nil))))) (bd_one (sd_ret ed_bl)) bd_nil)
    (bd_cons (sd_setO 7 sc_law_high.nd (eo_lst ad_nil))
    (bd_cons (sd_setO 8 sc_law_high.nd (eo_lst ad_nil))
    (bd_cons (sd_for PassesOwn.never rfl (id_tup (ed_tail (ed_var 4))) (gd_name 9 sc_law_high.nd) (bd_cons (sd_app 7 (ed_ifExp (td_lt (ed_ix (ed_var 9) ed_int) ed_int) (ed_neg ed_int) ed_int))
    (bd_one (sd_app 8 (ed_ifExp (td_gt (ed_ix (ed_var 9) ed_int) ed_int) (ed_neg ed_int) ed_int)))))
    (bd_cons (sd_set 10 sc_law_high.nd (ecX G_height_poses hr (by decide) (by rfl) passNo (ad_cons (ed_var 2) (ad_cons (ech G_law_form hr (by decide) (by rfl) (ah_cons 0 (ad_cons (ed_var 3) ad_nil))) ad_nil))))
    (bd_cons (sd_if (wd_or (td_not (td_val (ed_isTup (by rfl) T.n_isinstance (by rfl) T.n_tuple (ed_var 10)))) (wd_or1 (td_ne (ed_cb call_len_seq sim_len (by rfl) T.n_len (by decide +kernel) (ad_cons (ed_var 10) ad_nil)) ed_int))).pt (bd_one (sd_ret ed_bl)) bd_nil)
    (bd_cons (sd_fz 8 (sd_fz 7 (sd_if (wd_or (td_not (td_val (ec G_law_same_rows hr (by decide) (by rfl) (ad_cons (ed_ix (ed_var 10) ed_int) (ad_cons (ec G_law_flat hr (by decide) (by rfl) (ad_cons (ed_var 8) ad_nil)) ad_nil))))) (wd_or1 (td_not (td_val (ec G_law_same_rows hr (by decide) (by rfl) (ad_cons (ed_ix (ed_var 10) ed_int) (ad_cons (ec G_law_flat hr (by decide) (by rfl) (ad_cons (ed_var 7) ad_nil)) ad_nil))))))).pt (bd_one (sd_ret ed_bl)) bd_nil)))
    (bd_one (sd_ret (ed_and (ed_eqD hr (ed_ix (ec G_law_stand hr (by decide) (by rfl) (ad_cons (ed_var 1) (ad_cons (ed_ix (ed_var 10) ed_int) (ad_cons (ed_var 3) ad_nil)))) ed_int) (ed_ix (ed_var 6) ed_int)) (ed_one (ed_eqD hr (ed_ix (ec G_law_stand hr (by decide) (by rfl) (ad_cons (ed_var 1) (ad_cons (ed_ix (ed_var 10) ed_int) (ad_cons (ed_var 3) ad_nil)))) ed_int) (ed_ix (ed_var 6) ed_int)))))))))))))))), ?_⟩
  rintro ds Q EQ ⟨bs, n, p, rfl, hb, hp, q⟩
  have hl := rowOf_len bs n p
  have hz := rowOf_Z hb hp
  have h4 := hb.n4
  generalize hr : rowOf bs n p = r at hl hz
  have hn := ne_nil hl
  have z0 := foot_Z hn hz
  have z1 := (high_Z hl hz).mono (d := 2800000000) (by omega)
  have b0 := (z0.B (by decide)).mono (show 100 ≤ 4400 by decide)
  have b1 := (z1.B (by decide)).mono (show 100 ≤ 4400 by decide)
  walk_at "rd"
  refine ⟨bs, n, p, rfl, hb, hp, ?_⟩
  rw [hr]
  walk_at "rd"
  refine ⟨by omega, fun x hx => (hz x hx).mono (by decide), ?_⟩
  walk_at "rd"
  refine ⟨_, foot_at hn, ?_⟩
  walk_at "rd"
  refine ⟨_, foot_at hn, ?_⟩
  walk_at "rd"
  intro x hx
  have ex : itemsD x = some [.int p.1, ratD p.2] := by rcases hx with rfl | rfl <;> rfl
  have px : p3 x = true := by rcases hx with rfl | rfl <;> rfl
  walk_at "rd"
  refine .inl ⟨p, ex, px, hp, ?_⟩
  walk_at "rd"
  rw [hr]
  walk_at "rd"
  refine ⟨(by show 2 ≤ 900; decide), ?_⟩
  walk_at "rd"
  obtain ⟨a, t, rfl⟩ := List.exists_cons_of_ne_nil hn
  walk_at "rd"
  refine forL_ind (fun xs ρ => ∃ (l1 l2 : List Rat) (e9 e10 : Option Sl), t = l1 ++ l2 ∧ xs = l2.map ratD ∧ ρ = [some .hand, some (.d (barsD bs)), some (.d (armsD bs n)), some (.d (placeD p)), some (.d (rowD (a :: t))), some (.d (ratD (highOf (a :: t)))),
    some (.d (.tup [ratD (footOf (a :: t) - highOf (a :: t)), ratD (footOf (a :: t) + highOf (a :: t))])), some (.own ((l1.map upS).map D.int)), some (.own ((l1.map dnS).map D.int)), e9, e10]) ?_ ?_ _ _ ⟨[], t, none, none, rfl, rfl, rfl⟩
  · rintro ρ ⟨l1, l2, e9, e10, e, h1, rfl⟩
    cases l2 with
    | cons _ _ => cases h1
    | nil =>
      rw [List.append_nil] at e
      subst e
      walk_at "rd"
      intro x hx
      have ex : itemsD x = some [.int p.1, ratD p.2] := by rcases hx with rfl | rfl <;> rfl
      have px : p3 x = true := by rcases hx with rfl | rfl <;> rfl
      walk_at "rd"
      refine .inl ⟨p, ex, px, hp, ?_⟩
      walk_at "rd"
      rw [hr]
      generalize hrr : a :: t = r at *
      have elo : (t.map dnS).map (fun s : Int => ((0 : Rat), ((s : Int) : Rat))) = lowU r := by rw [← hrr]; exact low_signs (a :: t)
      have ehi : (t.map upS).map (fun s : Int => ((0 : Rat), ((s : Int) : Rat))) = highU r := by rw [← hrr]; exact high_signs (a :: t)
      have hlt : t.length ≤ 6 := by rw [← hrr] at hl; simp at hl; omega
      have nl := lowU_len hl
      have nh := highU_len hl
      walk_at "rd"
      refine ⟨by rw [List.length_map]; omega, ?_⟩
      rw [elo]
      walk_at "rd"
      refine ⟨by omega, ?_⟩
      walk_at "rd"
      refine ⟨by rw [List.length_map]; omega, ?_⟩
      rw [ehi]
      walk_at "rd"
      refine ⟨by omega, ?_⟩
      walk_at "rd"
      refine ⟨bs, n, lowU r, p, rfl, hb, hp, nl, flat_B (Flat_low r), ?_⟩
      rw [hr, dot_lowU hn]
      walk_at "rd"
      refine ⟨_, eqD_rat _ _, ?_⟩
      rw [decide_eq_true rfl]
      walk_at "rd"
      refine ⟨bs, n, highU r, p, rfl, hb, hp, nh, flat_B (Flat_high r), ?_⟩
      rw [hr, dot_highU hn]
      walk_at "rd"
      refine ⟨_, eqD_rat _ _, ?_⟩
      rw [decide_eq_true rfl]
      exact q
  · rintro x xs ρ ih ⟨l1, l2, e9, e10, e, h1, rfl⟩
    cases l2 with
    | nil => cases h1
    | cons c l2 =>
      cases h1
      rw [List.length_cons] at hl
      have hll : l1.length ≤ 4 := by
        have := congrArg List.length e
        rw [List.length_append] at this
        omega
      have go : ∀ s1 s2 : Int, upS c = s1 → dnS c = s2 → ∀ e9 e10, _ := fun s1 s2 h1 h2 e9 e10 => ih [some .hand, some (.d (barsD bs)), some (.d (armsD bs n)), some (.d (placeD p)), some (.d (rowD (a :: t))), some (.d (ratD (highOf (a :: t)))),
        some (.d (.tup [ratD (footOf (a :: t) - highOf (a :: t)), ratD (footOf (a :: t) + highOf (a :: t))])), some (.own ((l1.map upS).map D.int ++ [.int s1])), some (.own ((l1.map dnS).map D.int ++ [.int s2])), e9, e10]
        ⟨l1 ++ [c], l2, e9, e10, by rw [e, List.append_assoc]; rfl, rfl, by rw [List.map_append, List.map_append, List.map_append, List.map_append, ← h1, ← h2]; rfl⟩
      walk_at "rd"
      refine ⟨by rw [List.length_map, List.length_map]; omega, ?_⟩
      walk_at "rd"
      refine ifB (fun c1 => ?_) (fun c1 => ?_)
      · have c1' := num_neg.mp c1
        walk_at "rd"
        refine ⟨by rw [List.length_map, List.length_map]; omega, ?_⟩
        walk_at "rd"
        refine ifB (fun c2 => ?_) (fun c2 => ?_)
        · have c2' := num_pos.mp c2
          exfalso
          grind
        · have c2' : ¬ 0 < c := fun z => c2 (num_pos.mpr z)
          walk_at "rd"
          exact go (-1) 1 (by unfold upS; rw [if_pos c1']) (by unfold dnS; rw [if_neg c2']) _ _
      · have c1' : ¬ c < 0 := fun z => c1 (num_neg.mpr z)
        walk_at "rd"
        refine ⟨by rw [List.length_map, List.length_map]; omega, ?_⟩
        walk_at "rd"
        refine ifB (fun c2 => ?_) (fun c2 => ?_)
        · have c2' := num_pos.mp c2
          walk_at "rd"
          exact go 1 (-1) (by unfold upS; rw [if_neg c1']) (by unfold dnS; rw [if_pos c2']) _ _
        · have c2' : ¬ 0 < c := fun z => c2 (num_pos.mpr z)
          walk_at "rd"
          exact go 1 1 (by unfold upS; rw [if_neg c1']) (by unfold dnS; rw [if_neg c2']) _ _
end
end SA
end

section
set_option Elab.async false
set_option linter.all false
set_option maxRecDepth 100000
set_option maxHeartbeats 4000000
namespace SA
open PySem PySem.Spec PyProof.Rows L2 DL RM
local macro_rules | `(tactic| walk_at "rd") => `(tactic| repeat (first | refine ⟨_, rfl, ?_⟩ | refine ⟨rfl, ?_⟩ | refine ⟨_, _, rfl, ?_⟩ | refine ⟨_, _, rfl, rfl, ?_⟩ | refine ⟨_, _, _, rfl, rfl, ?_⟩ | refine ⟨_, _, _, rfl, ?_⟩ | refine ⟨_, _, _, _, rfl, ?_⟩ | refine ⟨_, _, _, _, _, _, rfl, ?_⟩ | refine And.intro (by assumption) ?_ | refine And.intro (by decide : _ ∉ _) ?_ | refine iteT ?_ | refine iteF ?_))
section
variable {P : Program} {w : World} {K : PySem.W.Frag} {mg : Str → Option Value} {base : Heap} {f : Addr} {fd : FuncData}
theorem row_B {r : List Rat} {us : List (Rat × Rat)} (hz : ∀ x, x ∈ r → Z 10000000000 x) (hl : r.length ≤ 6) (hf : Flat us) : Z 60000000000 (dot r (ysOf us)) := by
  have key : ∀ (r : List Rat) (ys : List Rat), (∀ x, x ∈ r → Z 10000000000 x) → (∀ y, y ∈ ys → y = 0 ∨ y = 1 ∨ y = -1) → Z (r.length * 10000000000) (dot r ys) := by
    intro r
    induction r with
    | nil => intro ys _ _; exact Z.zero.mono (by omega)
    | cons a r ih =>
      intro ys h1 h2
      cases ys with
      | nil => exact Z.zero.mono (by omega)
      | cons y ys =>
        rw [List.length_cons]
        exact ((flat_part (h1 a (List.mem_cons_self ..)) (h2 y (List.mem_cons_self ..))).add (ih ys (fun x hx => h1 x (List.mem_cons_of_mem _ hx)) fun x hx => h2 x (List.mem_cons_of_mem _ hx))).mono (by omega)
  refine (key r _ hz fun y hy => ?_).mono (by omega)
  unfold ysOf at hy
  rcases List.mem_cons.mp hy with rfl | z
  · exact .inr (.inl rfl)
  · obtain ⟨u, hu, rfl⟩ := List.mem_map.mp z
    exact (hf u hu).2.elim (fun z => .inr (.inl z)) fun z => .inr (.inr z)
theorem ok_law_above_other (F : Fun K "_law_above_other" "_law_above_other" s_law_above_other f fd) (G_below_pose : Cal P w K mg base (L2.CX P w) 10 "below_pose" (spP K S_below_pose)) (G_law_apart : Cal P w K mg base CX0 8 "_law_apart" (spP K S_law_apart)) (G_law_below : Cal P w K mg base CX0 4 "_law_below" (spP K S_law_below)) (G_law_ends : Cal P w K mg base CX0 8 "_law_ends" (spP K S_law_ends)) (G_law_form : Cal P w K mg base CX0 5 "_law_form" (spH K S_law_form)) (G_law_is_pose : Cal P w K mg base CX0 8 "_law_is_pose" (spP K S_law_is_pose)) (G_law_most : Cal P w K mg base CX0 4 "_law_most" (spP K S_law_most)) (G_law_stand : Cal P w K mg base CX0 7 "_law_stand" (spP K S_law_stand)) : FnOk P w K mg base CX0 11 f fd ["_law_hand_here", "_law_bars", "_law_arms", "_law_one", "_law_other"] (spH K S_law_above_other) := by
  refine fnH F sc_law_above_other (by intro ds Q E h; unfold S_law_above_other at h; repeat (first | (obtain ⟨rfl, _⟩ := h; rfl) | (obtain ⟨_, h⟩ := h))) fun cdv A outer sh H E W hr => ⟨_, (bd_cons (sd_set 5 sc_law_above_other.nd (ec G_law_apart hr (by decide) (by rfl) (ad_cons (ed_var 1) (ad_cons (ed_var 3) (ad_cons (ed_var 4) ad_nil)))))
    (bd_cons (sd_set 6 sc_law_above_other.nd (ecX G_below_pose hr (by decide) (by rfl) passNo (ad_cons (ed_var 2) (ad_cons (ed_var 3) (ad_cons (ech G_law_form hr (by decide) (by rfl) (ah_cons 0 (ad_cons (ed_var 4) ad_nil))) ad_nil)))))
    (bd_cons (sd_if (td_not (td_val (ec G_law_below hr (by decide) (by rfl) (ad_cons (ed_ix (ed_var 5) ed_int) (ad_cons (ed_ix (ec G_law_ends hr (by decide) (by rfl) (ad_cons (ed_var 5) ad_nil)) ed_int) ad_nil))))) (bd_one (sd_ret (ed_isN (ed_var 6)))) bd_nil)
    (bd_cons (sd_if (td_not (td_val (ec G_law_is_pose hr (by decide) (by rfl) (ad_cons (ed_var 6) (ad_cons (ec G_law_most hr (by decide) (by rfl) (ad_cons (ed_var 1) ad_nil)) ad_nil))))) (bd_one (sd_ret ed_bl)) bd_nil)
    (bd_one (sd_ret (ec G_law_below hr (by decide) (by rfl) (ad_cons (ed_ix (ec G_law_stand hr (by decide) (by rfl) (ad_cons (ed_var 1) (ad_cons (ed_var 6) (ad_cons (ed_var 3) ad_nil)))) ed_int) (ad_cons (ed_ix (ec G_law_stand hr (by decide) (by rfl) (ad_cons (ed_var 1) (ad_cons (ed_var 6) (ad_cons (ed_var 4) ad_nil)))) ed_int) ad_nil))))))))), ?_⟩
  rintro ds Q EQ ⟨bs, n, p, p', rfl, hb, hp, hp', q⟩
  obtain ⟨hl, hz⟩ := diff_ok hb hp hp'
  have h4 := hb.n4
  generalize hr : subRow (rowOf bs n p) (rowOf bs n p') = r at hl hz
  have hn := ne_nil hl
  have z0 := foot_Z hn hz
  have z1 := (high_Z hl hz).mono (d := 40000000000) (by omega)
  have b0 := (z0.B (by decide)).mono (show 100 ≤ 10000 by decide)
  have b1 := (z1.B (by decide)).mono (show 100 ≤ 10000 by decide)
  walk_at "rd"
  refine ⟨bs, n, p, p', rfl, hb, hp, hp', ?_⟩
  rw [hr]
  walk_at "rd"
  intro x hx
  have ex : itemsD x = some [.int p'.1, ratD p'.2] := by rcases hx with rfl | rfl <;> rfl
  have px : p3 x = true := by rcases hx with rfl | rfl <;> rfl
  walk_at "rd"
  refine .inl ⟨p, rfl, rfl, hp, .inl ⟨p', ex, px, hp', ?_⟩⟩
  walk_at "rd"
  rw [hr]
  walk_at "rd"
  refine ⟨_, foot_at hn, ?_⟩
  walk_at "rd"
  refine ⟨by omega, ?_⟩
  walk_at "rd"
  have nl := lowU_len hl
  by_cases h : footOf r < highOf r
  · rw [if_pos h]
    refine ifnT h ?_
    walk_at "rd"
    refine ⟨bs, n, rfl, hb, ?_⟩
    walk_at "rd"
    refine ⟨lowU r, by rw [nl], by omega, fun u hu => ⟨flat_unit (Flat_low r) u hu, flat_B (Flat_low r) u hu⟩, ?_⟩
    walk_at "rd"
    refine ⟨bs, n, lowU r, p, rfl, hb, hp, nl, flat_B (Flat_low r), ?_⟩
    walk_at "rd"
    refine ⟨bs, n, lowU r, p', rfl, hb, hp', nl, flat_B (Flat_low r), ?_⟩
    have y1 := row_B (us := lowU r) (fun x hx => (rowOf_Z hb hp x hx).mono (by decide)) (by rw [rowOf_len]; omega) (Flat_low r)
    have y2 := row_B (us := lowU r) (fun x hx => (rowOf_Z hb hp' x hx).mono (by decide)) (by rw [rowOf_len]; omega) (Flat_low r)
    walk_at "rd"
    refine ⟨(y1.B (by decide)).mono (by decide), (y2.B (by decide)).mono (by decide), ?_⟩
    have e : dot (rowOf bs n p) (ysOf (lowU r)) - dot (rowOf bs n p') (ysOf (lowU r)) = footOf r - highOf r := by
      rw [← dot_lowU hn, ← hr, dot_sub _ _ _ (by rw [rowOf_len, rowOf_len])]
    rw [decide_eq_true (show dot (rowOf bs n p) (ysOf (lowU r)) < dot (rowOf bs n p') (ysOf (lowU r)) by grind)]
    exact q
  · rw [if_neg h]
    refine ifnF h ?_
    walk_at "rd"
    exact q
end
end SA
end

section
set_option Elab.async false
set_option linter.all false
set_option maxRecDepth 100000
set_option maxHeartbeats 4000000
namespace SA
open PySem PySem.Spec PyProof.Rows L2 DL RM
local macro_rules | `(tactic| walk_at "rd") => `(tactic| repeat (first | refine ⟨_, rfl, ?_⟩ | refine ⟨rfl, ?_⟩ | refine ⟨_, _, rfl, ?_⟩ | refine ⟨_, _, rfl, rfl, ?_⟩ | refine ⟨_, _, _, rfl, rfl, ?_⟩ | refine ⟨_, _, _, rfl, ?_⟩ | refine ⟨_, _, _, _, rfl, ?_⟩ | refine ⟨_, _, _, _, _, _, rfl, ?_⟩ | refine And.intro (by assumption) ?_ | refine And.intro (by decide : _ ∉ _) ?_ | refine iteT ?_ | refine iteF ?_))
section
variable {P : Program} {w : World} {K : PySem.W.Frag} {mg : Str → Option Value} {base : Heap} {f : Addr} {fd : FuncData}
def spD (t : Rat × Rat × Bool) : D := .tup [vecD t.1 t.2.1, .bl t.2.2]
def itD (t : Rat × Bool) : D := .tup [ratD t.1, .bl t.2]
def GoodL (c lo hi : Rat) (L : List (Rat × Rat × Bool)) : Prop := ∀ t, t ∈ L → B 2000 t.1 ∧ B 2000 t.2.1 ∧ inBelt c lo hi t.1 t.2.1 = t.2.2
theorem GoodL.add {c lo hi x y : Rat} {b : Bool} {L : List (Rat × Rat × Bool)} (h : GoodL c lo hi L) (hx : B 2000 x) (hy : B 2000 y) (e : inBelt c lo hi x y = b) : GoodL c lo hi (L ++ [(x, y, b)]) := fun t ht => by
  rcases List.mem_append.mp ht with z | z
  · exact h t z
  · rw [List.mem_singleton] at z
    subst z
    exact ⟨hx, hy, e⟩
theorem ifnB {p A B : Prop} [Decidable p] (h1 : p → B) (h2 : ¬p → A) : if (!decide p) = true then A else B := by
  by_cases h : p
  · exact ifnT h (h1 h)
  · exact ifnF h (h2 h)
theorem inv_pos {q : Int} (hq : 0 < q) : 0 < Rat.divInt 1 q := by
  have hqp : (0 : Rat) < (q : Rat) := by exact_mod_cast hq
  have e : Rat.divInt 1 q * (q : Rat) = 1 := by
    rw [Rat.divInt_eq_div]
    have : ((1 : Int) : Rat) = 1 := rfl
    rw [this]; grind
  by_cases h : 0 < Rat.divInt 1 q
  · exact h
  · have := Rat.mul_nonneg (show 0 ≤ -(Rat.divInt 1 q) by grind) (show (0 : Rat) ≤ q by grind)
    grind
theorem dot_B {us : List (Rat × Rat)} (hU : ∀ u, u ∈ us → B 100 u.1 ∧ B 100 u.2) : ∀ {r : List Rat} (g : Rat × Rat → Rat) (_ : ∀ u, u ∈ us → B 100 (g u)), (∀ x, x ∈ r → B 100 x) → B (r.length * 201 + 1) (dot r (us.map g)) := by
  intro r g hg hr
  clear hU
  induction us generalizing r with
  | nil =>
    have : dot r (([] : List (Rat × Rat)).map g) = 0 := by cases r <;> rfl
    rw [this]
    exact B.zero.mono (by omega)
  | cons u us ih =>
    cases r with
    | nil => exact B.zero.mono (by omega)
    | cons a r =>
      rw [List.length_cons]
      exact (((hr a (List.mem_cons_self ..)).mul (hg u (List.mem_cons_self ..))).add (ih (fun v hv => hg v (List.mem_cons_of_mem _ hv)) fun x hx => hr x (List.mem_cons_of_mem _ hx))).mono (by omega)
theorem dot_xs {r : List Rat} {us : List (Rat × Rat)} (hl : r.length ≤ 5) (hr : ∀ x, x ∈ r → B 100 x) (hU : ∀ u, u ∈ us → B 100 u.1 ∧ B 100 u.2) : B 2000 (dot r (xsOf us)) ∧ B 2000 (dot r (ysOf us)) := by
  have h0 : ∀ u, u ∈ ((0, 1) : Rat × Rat) :: us → B 100 u.1 ∧ B 100 u.2 := fun u hu => by
    rcases List.mem_cons.mp hu with rfl | z
    · exact ⟨B.zero.mono (by decide), B.one.mono (by decide)⟩
    · exact hU u z
  exact ⟨(dot_B h0 (r := r) (·.1) (fun u hu => (h0 u hu).1) hr).mono (by omega), (dot_B h0 (r := r) (·.2) (fun u hu => (h0 u hu).2) hr).mono (by omega)⟩
theorem ok_law_spots (F : Fun K "_law_spots" "_law_spots" s_law_spots f fd) (G_law_any_half : Cal P w K mg base CX0 7 "_law_any_half" (spH K S_law_any_half)) (G_law_any_pose : Cal P w K mg base CX0 8 "_law_any_pose" (spH K S_law_any_pose)) (G_law_below : Cal P w K mg base CX0 4 "_law_below" (spP K S_law_below)) (G_law_direction : Cal P w K mg base CX0 7 "_law_direction" (spP K S_law_direction)) (G_law_ends : Cal P w K mg base CX0 8 "_law_ends" (spP K S_law_ends)) (G_law_less : Cal P w K mg base CX0 6 "_law_less" (spP K S_law_less)) (G_law_most : Cal P w K mg base CX0 4 "_law_most" (spP K S_law_most)) (G_law_plus : Cal P w K mg base CX0 6 "_law_plus" (spP K S_law_plus)) (G_law_ratio : Cal P w K mg base CX0 5 "_law_ratio" (spP K S_law_ratio)) (G_law_row : Cal P w K mg base CX0 7 "_law_row" (spP K S_law_row)) (G_law_square : Cal P w K mg base CX0 7 "_law_square" (spP K S_law_square)) (G_law_stand : Cal P w K mg base CX0 7 "_law_stand" (spP K S_law_stand)) (G_law_take : Cal P w K mg base CX0 4 "_law_take" (spH K S_law_take)) (G_law_times : Cal P w K mg base CX0 6 "_law_times" (spP K S_law_times)) (G_law_wide : Cal P w K mg base CX0 7 "_law_wide" (spH K S_law_wide)) (T : Glob mg) : FnOk P w K mg base CX0 9 f fd ["_law_hand_here", "_law_bars", "_law_place"] (spH K S_law_spots) := by
  refine fnH F sc_law_spots (by intro ds Q E h; unfold S_law_spots at h; repeat (first | (obtain ⟨rfl, _⟩ := h; rfl) | (obtain ⟨_, h⟩ := h))) fun cdv A outer sh H E W hr => ⟨_, (bd_cons (sd_set 3 sc_law_spots.nd (ec G_law_row hr (by decide) (by rfl) (ad_cons (ed_var 1) (ad_cons (ed_var 2) ad_nil))))
    (bd_cons (sd_asg (ec G_law_ends hr (by decide) (by rfl) (ad_cons (ed_var 3) ad_nil)) (gd_tup rfl (gds_cons (gd_name 4 sc_law_spots.nd) (gds_cons (gd_name 5 sc_law_spots.nd) gds_nil))))
    (bd_cons (sd_setO 6 sc_law_spots.nd (eo_lst ad_nil))
    (bd_cons (sd_for PassesOwn.never rfl (id_range1 (by rfl) T.n_range (ad_cons ed_int ad_nil)) (gd_name 7 sc_law_spots.nd) (bd_one (sd_app 6 (ed_tup (ad_cons (ec G_law_stand hr (by decide) (by rfl) (ad_cons (ed_var 1) (ad_cons (ech G_law_any_pose hr (by decide) (by rfl) (ah_cons 0 (ad_cons (ec G_law_most hr (by decide) (by rfl) (ad_cons (ed_var 1) ad_nil)) ad_nil))) (ad_cons (ed_var 2) ad_nil)))) (ad_cons ed_bl ad_nil))))))
    (bd_cons (sd_set 8 sc_law_spots.nd (ec G_law_ratio hr (by decide) (by rfl) (ad_cons ed_int (ad_cons (ed_add ed_int (ech G_law_take hr (by decide) (by rfl) (ah_cons 0 (ad_cons (ed_pow ed_int ed_int) ad_nil)))) ad_nil))))
    (bd_cons (sd_for PassesOwn.never rfl (id_list (ed_frz (eo_lst (ad_cons (ed_tup (ad_cons (ed_var 4) (ad_cons ed_bl ad_nil))) (ad_cons (ed_tup (ad_cons (ed_var 5) (ad_cons ed_bl ad_nil))) (ad_cons (ed_tup (ad_cons (ec G_law_plus hr (by decide) (by rfl) (ad_cons (ed_var 5) (ad_cons (ed_var 8) ad_nil))) (ad_cons ed_bl ad_nil))) (ad_cons (ed_tup (ad_cons (ec G_law_less hr (by decide) (by rfl) (ad_cons (ed_var 4) (ad_cons (ed_var 8) ad_nil))) (ad_cons ed_bl ad_nil))) ad_nil))))))) (gd_tup rfl (gds_cons (gd_name 9 sc_law_spots.nd) (gds_cons (gd_name 10 sc_law_spots.nd) gds_nil))) (bd_one (sd_if (td_ge (ed_ix (ed_var 9) ed_int) ed_int) (bd_cons (sd_asg (ec G_law_direction hr (by decide) (by rfl) (ad_cons (ech G_law_any_half hr (by decide) (by rfl) (ah_cons 0 ad_nil)) ad_nil)) (gd_tup rfl (gds_cons (gd_name 11 sc_law_spots.nd) (gds_cons (gd_name 12 sc_law_spots.nd) gds_nil))))
    (bd_cons (sd_set 13 sc_law_spots.nd (ed_tup (ad_cons (ec G_law_times hr (by decide) (by rfl) (ad_cons (ed_var 9) (ad_cons (ed_var 11) ad_nil))) (ad_cons (ec G_law_plus hr (by decide) (by rfl) (ad_cons (ed_ix (ed_var 3) ed_int) (ad_cons (ec G_law_times hr (by decide) (by rfl) (ad_cons (ed_var 9) (ad_cons (ed_var 12) ad_nil))) ad_nil))) ad_nil))))
    (bd_one (sd_app 6 (ed_tup (ad_cons (ed_var 13) (ad_cons (ed_var 10) ad_nil))))))) bd_nil)))
    (bd_cons (sd_set 13 sc_law_spots.nd (ed_tup (ad_cons (ech G_law_wide hr (by decide) (by rfl) (ah_cons 0 ad_nil)) (ad_cons (ech G_law_wide hr (by decide) (by rfl) (ah_cons 0 ad_nil)) ad_nil))))
    (bd_cons (sd_set 14 sc_law_spots.nd (ec G_law_square hr (by decide) (by rfl) (ad_cons (ed_tup (ad_cons (ed_ix (ed_var 13) ed_int) (ad_cons (ec G_law_less hr (by decide) (by rfl) (ad_cons (ed_ix (ed_var 13) ed_int) (ad_cons (ed_ix (ed_var 3) ed_int) ad_nil))) ad_nil))) ad_nil)))
    (bd_cons (sd_app 6 (ed_tup (ad_cons (ed_var 13) (ad_cons (ed_and (ed_not (ec G_law_below hr (by decide) (by rfl) (ad_cons (ed_var 14) (ad_cons (ec G_law_times hr (by decide) (by rfl) (ad_cons (ed_var 4) (ad_cons (ed_var 4) ad_nil))) ad_nil)))) (ed_one (ed_not (ec G_law_below hr (by decide) (by rfl) (ad_cons (ec G_law_times hr (by decide) (by rfl) (ad_cons (ed_var 5) (ad_cons (ed_var 5) ad_nil))) (ad_cons (ed_var 14) ad_nil)))))) ad_nil))))
    (bd_one (sd_fz 6 (sd_ret (ed_var 6))))))))))))), ?_⟩
  rintro ds Q EQ ⟨bs, n, p, rfl, hb, hp, q⟩
  have hl := rowOf_len bs n p
  have hz := rowOf_Z hb hp
  have h4 := hb.n4
  have hst : ∀ us : List (Rat × Rat), us.length = n → (∀ u, u ∈ us → Unit2 u ∧ B 100 u.1 ∧ B 100 u.2) → B 2000 (dot (rowOf bs n p) (xsOf us)) ∧ B 2000 (dot (rowOf bs n p) (ysOf us)) ∧ inBelt (footOf (rowOf bs n p)) (loOf (rowOf bs n p)) (highOf (rowOf bs n p)) (dot (rowOf bs n p) (xsOf us)) (dot (rowOf bs n p) (ysOf us)) = true := fun us h1 h2 => by
    have := dot_xs (r := rowOf bs n p) (us := us) (by omega) (fun x hx => (hz x hx).B (by decide)) fun u hu => (h2 u hu).2
    exact ⟨this.1, this.2, pose_in (by omega) fun u hu => (h2 u hu).1⟩
  have hroom : (rowOf bs n p).length = n + 1 := hl
  generalize hr : rowOf bs n p = r at hl hz hst q
  have hn := ne_nil hl
  have bF := (foot_Z hn hz).B (by decide)
  have bH := ((high_Z hl hz).mono (d := 2800000000) (by omega)).B (by decide)
  have bL := ((low_Z hl hz).mono (d := 4200000000) (by omega)).B (by decide)
  have l0 := low0 r
  have h0 := high0 r
  have lh := low_le_high r
  generalize hlo : loOf r = lo at *
  generalize hhi : highOf r = hi at *
  generalize hfo : footOf r = fo at *
  walk_at "rd"
  refine ⟨bs, n, p, rfl, hb, hp, ?_⟩
  rw [hr]
  walk_at "rd"
  refine ⟨by omega, fun x hx => (hz x hx).mono (by decide), ?_⟩
  rw [hlo, hhi]
  walk_at "rd"
  refine ⟨by decide, by decide, ?_⟩
  refine forL_ind (fun xs ρ => ∃ (L : List (Rat × Rat × Bool)) (e7 : Option Sl), ρ = [some .hand, some (.d (barsD bs)), some (.d (placeD p)), some (.d (rowD r)), some (.d (ratD lo)), some (.d (ratD hi)), some (.own (L.map spD)), e7, none, none, none, none, none, none, none] ∧
    GoodL fo lo hi L ∧ L.length + xs.length ≤ 3) ?_ ?_ _ _ ⟨[], none, rfl, fun t ht => (by cases ht), ?_⟩
  · rintro ρ ⟨L, e7, rfl, hL, hLl⟩
    walk_at "rd"
    refine ⟨⟨by decide, by decide, by decide⟩, ?_⟩
    walk_at "rd"
    refine ⟨by decide +kernel, by decide +kernel, fun v hv0 hv1 => ?_⟩
    have hv1' : v < 1000000000 := hv1
    walk_at "rd"
    refine ⟨show (0 : Int) < 1 + v by omega, pow_up (j := 31) (by show (1 + v).natAbs < 2147483648; omega) (by decide), ?_⟩
    have sp := inv_pos (q := 1 + v) (by omega)
    have bS : B 31 (Rat.divInt 1 (1 + v)) := B.divInt (by omega) (by decide) (by show (1 + v).natAbs < 2147483648; omega)
    generalize hsm : Rat.divInt 1 (1 + v) = sm at sp bS
    walk_at "rd"
    refine ⟨bH.mono (by decide), bS.mono (by decide), ?_⟩
    refine ⟨rfl, ?_⟩
    walk_at "rd"
    refine ⟨bL.mono (by decide), bS.mono (by decide), ?_⟩
    refine ⟨rfl, ?_⟩
    refine ⟨rfl, ?_⟩
    refine ⟨_, rfl, ?_⟩
    refine forL_ind (fun xs ρ => ∃ (L : List (Rat × Rat × Bool)) (its : List (Rat × Bool)) (e9 e10 e11 e12 e13 : Option Sl), xs = its.map itD ∧ ρ = [some .hand, some (.d (barsD bs)), some (.d (placeD p)), some (.d (rowD r)), some (.d (ratD lo)), some (.d (ratD hi)), some (.own (L.map spD)), e7, some (.d (ratD sm)), e9, e10, e11, e12, e13, none] ∧
      GoodL fo lo hi L ∧ L.length + its.length ≤ 7 ∧ ∀ t, t ∈ its → B 200 t.1 ∧ (0 ≤ t.1 → (decide (lo ≤ t.1) && decide (t.1 ≤ hi)) = t.2)) ?_ ?_ _ _ ⟨L, [(lo, true), (hi, true), (hi + sm, false), (lo - sm, false)], none, none, none, none, none, rfl, rfl, hL, ?_, ?_⟩
    · rintro ρ ⟨L, its, e9, e10, e11, e12, e13, h1, rfl, hL, hLl, _⟩
      cases its with
      | cons _ _ => cases h1
      | nil =>
        walk_at "rd"
        intro x hx
        have bx := hx.B (by decide)
        walk_at "rd"
        intro y hy
        have by' := hy.B (by decide)
        walk_at "rd"
        refine ⟨_, foot_at hn, ?_⟩
        rw [hfo]
        walk_at "rd"
        refine ⟨by'.mono (by decide), bF.mono (by decide), ?_⟩
        walk_at "rd"
        have bd := by'.sub bF
        refine ⟨bx.mono (by decide), bd.mono (by decide), ?_⟩
        walk_at "rd"
        have bq := (bx.mul bx).add (bd.mul bd)
        have bl2 := bL.mul bL
        have bh2 := bH.mul bH
        refine ⟨by rw [List.length_map]; omega, ?_⟩
        walk_at "rd"
        refine ⟨bL.mono (by decide), bL.mono (by decide), ?_⟩
        walk_at "rd"
        refine ⟨bq.mono (by decide), bl2.mono (by decide), ?_⟩
        walk_at "rd"
        have fin : ∀ b : Bool, inBelt fo lo hi x y = b → Q (spotsD (L ++ [(x, y, b)])) := fun b e => q _ (hL.add (bx.mono (by decide)) (by'.mono (by decide)) e)
        have sp2 : ∀ b : Bool, spotsD (L ++ [(x, y, b)]) = .lst (L.map spD ++ [.tup [vecD x y, .bl b]]) := fun b => by
          unfold spotsD
          rw [List.map_append]; rfl
        unfold inBelt at fin
        refine ifnB (fun h => ?_) (fun h => ?_)
        · rw [decide_eq_true h] at fin
          walk_at "rd"
          have := fin false rfl
          rw [sp2] at this
          exact this
        · rw [decide_eq_false h] at fin
          walk_at "rd"
          refine ⟨bH.mono (by decide), bH.mono (by decide), ?_⟩
          walk_at "rd"
          refine ⟨bh2.mono (by decide), bq.mono (by decide), ?_⟩
          walk_at "rd"
          have e : decide (x * x + (y - fo) * (y - fo) ≤ hi * hi) = !decide (hi * hi < x * x + (y - fo) * (y - fo)) := by
            by_cases c : hi * hi < x * x + (y - fo) * (y - fo)
            · rw [decide_eq_true c, decide_eq_false (Rat.not_le.mpr c)]; rfl
            · rw [decide_eq_false c, decide_eq_true (Rat.not_lt.mp c)]; rfl
          have := fin (!decide (hi * hi < x * x + (y - fo) * (y - fo))) (by rw [e]; rfl)
          rw [sp2] at this
          exact this
    · rintro x xs ρ ih ⟨L, its, e9, e10, e11, e12, e13, h1, rfl, hL, hLl, hit⟩
      cases its with
      | nil => cases h1
      | cons t its =>
        cases h1
        obtain ⟨bt, ht⟩ := hit t (List.mem_cons_self ..)
        rw [List.length_cons] at hLl
        walk_at "rd"
        refine ifB (fun c => ?_) (fun c => ?_)
        · have c' : 0 ≤ t.1 := Rat.num_nonneg.mp c
          have hd := ht c'
          walk_at "rd"
          intro h hh
          obtain ⟨hU, b1, b2⟩ := dir_ok hh
          generalize hdd : dirOf h = u at hU b1 b2
          walk_at "rd"
          rw [hdd]
          walk_at "rd"
          have c1 := bt.mul b1
          have c2 := bt.mul b2
          refine ⟨bt.mono (by decide), b1.mono (by decide), ?_⟩
          walk_at "rd"
          refine ⟨_, foot_at hn, ?_⟩
          rw [hfo]
          walk_at "rd"
          refine ⟨bt.mono (by decide), b2.mono (by decide), ?_⟩
          walk_at "rd"
          refine ⟨bF.mono (by decide), c2.mono (by decide), ?_⟩
          walk_at "rd"
          refine ⟨by rw [List.length_map]; omega, ?_⟩
          walk_at "rd"
          have e := ray_in (c := fo) (lo := lo) (hi := hi) (len := t.1) (x := u.1) (y := u.2) hU c' l0 h0
          rw [hd] at e
          exact ih _ ⟨L ++ [(t.1 * u.1, fo + t.1 * u.2, t.2)], its, _, _, _, _, _, rfl, by rw [List.map_append]; rfl, hL.add (c1.mono (by decide)) ((bF.add c2).mono (by decide)) e, by rw [List.length_append, List.length_singleton]; omega, fun s hs => hit s (List.mem_cons_of_mem _ hs)⟩
        · walk_at "rd"
          exact ih _ ⟨L, its, _, _, _, _, _, rfl, rfl, hL, by omega, fun s hs => hit s (List.mem_cons_of_mem _ hs)⟩
    · show L.length + 4 ≤ 7
      have : L.length + 0 ≤ 3 := hLl
      omega
    · intro t ht
      simp only [List.mem_cons, List.not_mem_nil, or_false] at ht
      rcases ht with rfl | rfl | rfl | rfl
      · exact ⟨bL.mono (by decide), fun _ => by rw [decide_eq_true Rat.le_refl, decide_eq_true lh]; rfl⟩
      · exact ⟨bH.mono (by decide), fun _ => by rw [decide_eq_true Rat.le_refl, decide_eq_true lh]; rfl⟩
      · refine ⟨(bH.add bS).mono (by decide), fun _ => ?_⟩
        show (decide (lo ≤ hi + sm) && decide (hi + sm ≤ hi)) = false
        rw [decide_eq_false (show ¬ hi + sm ≤ hi by grind), Bool.and_false]
      · refine ⟨(bL.sub bS).mono (by decide), fun _ => ?_⟩
        show (decide (lo ≤ lo - sm) && decide (lo - sm ≤ hi)) = false
        rw [decide_eq_false (show ¬ lo ≤ lo - sm by grind), Bool.false_and]
  · rintro x xs ρ ih ⟨L, e7, rfl, hL, hLl⟩
    rw [List.length_cons] at hLl
    walk_at "rd"
    refine ⟨by rw [List.length_map]; omega, ?_⟩
    walk_at "rd"
    refine ⟨bs, n, rfl, hb, ?_⟩
    walk_at "rd"
    refine ⟨by omega, fun us hul hU => ?_⟩
    obtain ⟨b1, b2, e⟩ := hst us hul hU
    walk_at "rd"
    refine ⟨bs, n, us, p, rfl, hb, hp, hul, fun u hu => (hU u hu).2, ?_⟩
    rw [hr]
    walk_at "rd"
    refine ih _ ⟨L ++ [(dot r (xsOf us), dot r (ysOf us), true)], _, by rw [List.map_append]; rfl, hL.add b1 b2 e, by rw [List.length_append, List.length_singleton]; omega⟩
  · exact Nat.le_refl 3
end
end SA
end

section
set_option Elab.async false
set_option linter.all false
set_option maxRecDepth 100000
set_option maxHeartbeats 4000000
namespace SA
open PySem PySem.Spec PyProof.Rows L2 DL RM
local macro_rules | `(tactic| walk_at "rd") => `(tactic| repeat (first | refine ⟨_, rfl, ?_⟩ | refine ⟨rfl, ?_⟩ | refine ⟨_, _, rfl, ?_⟩ | refine ⟨_, _, rfl, rfl, ?_⟩ | refine ⟨_, _, _, rfl, rfl, ?_⟩ | refine ⟨_, _, _, rfl, ?_⟩ | refine ⟨_, _, _, _, rfl, ?_⟩ | refine ⟨_, _, _, _, _, _, rfl, ?_⟩ | refine And.intro (by assumption) ?_ | refine And.intro (by decide : _ ∉ _) ?_ | refine iteT ?_ | refine iteF ?_))
section
variable {P : Program} {w : World} {K : PySem.W.Frag} {mg : Str → Option Value} {base : Heap} {f : Addr} {fd : FuncData}
theorem ne_add1 (a : Rat) : decide (a = a + 1) = false := decide_eq_false (by grind)
theorem str_ne {a b : Str} (h : a = b) : (!scalD (.str a) (.str b)) = false := by
  subst h
  have : scalD (.str a) (.str a) = true := decide_eq_true rfl
  rw [this]; rfl
theorem ok_law_belted (F : Fun K "_law_belted" "_law_belted" s_law_belted f fd) (G_Belt_contains : Met P w K mg base CX0 7 C_Belt "__contains__" (spP K S_Belt_contains)) (G_Belt_eq : Met P w K mg base CX0 4 C_Belt "__eq__" (spP K S_Belt_eq)) (G_belt_of : Cal P w K mg base (L2.CX P w) 9 "belt_of" (spP K S_belt_of)) (G_can_come_to : Cal P w K mg base (L2.CX P w) 10 "can_come_to" (spP K S_can_come_to)) (G_law_called : Cal P w K mg base CX0 11 "_law_called" (spP K S_law_called)) (G_law_ends : Cal P w K mg base CX0 8 "_law_ends" (spP K S_law_ends)) (G_law_form : Cal P w K mg base CX0 5 "_law_form" (spH K S_law_form)) (G_law_is_spot : Cal P w K mg base CX0 6 "_law_is_spot" (spP K S_law_is_spot)) (G_law_plus : Cal P w K mg base CX0 6 "_law_plus" (spP K S_law_plus)) (G_law_row : Cal P w K mg base CX0 7 "_law_row" (spP K S_law_row)) (G_law_same_row : Cal P w K mg base CX0 5 "_law_same_row" (spP K S_law_same_row)) (G_law_spoilt_direction : Cal P w K mg base CX0 8 "_law_spoilt_direction" (spH K S_law_spoilt_direction)) (G_law_spots : Cal P w K mg base CX0 9 "_law_spots" (spH K S_law_spots)) (G_law_take : Cal P w K mg base CX0 4 "_law_take" (spH K S_law_take)) (G_law_truth : Cal P w K mg base CX0 4 "_law_truth" (spP K S_law_truth)) (K_Belt : Mks P w K mg base 4 "Belt" C_Belt (spI K C_Belt S_Belt_init)) (T : Glob mg) (c_Belt : Cls K C_Belt) (isc_Belt : IsiC K C_Belt) (m_Belt : mg "Belt" = some (.ref C_Belt)) (na_centre : NoAttr K C_Belt "centre") (na_high : NoAttr K C_Belt "high") (na_low : NoAttr K C_Belt "low") : FnOk P w K mg base CX0 12 f fd ["_law_hand_here", "_law_bars", "_law_arms", "_law_place"] (spH K S_law_belted) := by
  refine fnH F sc_law_belted (by intro ds Q E h; unfold S_law_belted at h; repeat (first | (obtain ⟨rfl, _⟩ := h; rfl) | (obtain ⟨_, h⟩ := h))) fun cdv A outer sh H E W hr => ⟨_, (bd_cons (sd_set 4 sc_law_belted.nd (ec G_law_row hr (by decide) (by rfl) (ad_cons (ed_var 1) (ad_cons (ed_var 3) ad_nil))))
    (bd_cons (sd_asg (ec G_law_ends hr (by decide) (by rfl) (ad_cons (ed_var 4) ad_nil)) (gd_tup rfl (gds_cons (gd_name 5 sc_law_belted.nd) (gds_cons (gd_name 6 sc_law_belted.nd) gds_nil))))
    (bd_cons (sd_set 7 sc_law_belted.nd (ecX G_belt_of hr (by decide) (by rfl) passNo (ad_cons (ed_var 2) (ad_cons (ech G_law_form hr (by decide) (by rfl) (ah_cons 0 (ad_cons (ed_var 3) ad_nil))) ad_nil))))
    (bd_cons (sd_if (wd_or (td_not (td_val (ed_isC isc_Belt (by rfl) T.n_isinstance (by rfl) m_Belt (ed_var 7)))) (wd_or1 (td_not (td_val (ec G_law_same_row hr (by decide) (by rfl) (ad_cons (ed_tup (ad_cons (ed_fld (ed_var 7) c_Belt na_centre) (ad_cons (ed_fld (ed_var 7) c_Belt na_low) (ad_cons (ed_fld (ed_var 7) c_Belt na_high) ad_nil)))) (ad_cons (ed_tup (ad_cons (ed_ix (ed_var 4) ed_int) (ad_cons (ed_var 5) (ad_cons (ed_var 6) ad_nil)))) ad_nil))))))).pt (bd_one (sd_ret ed_bl)) bd_nil)
    (bd_cons (sd_if (wd_or (td_not (td_eqO G_Belt_eq hr (by decide) (ed_var 7) (ek K_Belt hr (by decide) (by rfl) (ad_cons (ed_ix (ed_var 4) ed_int) (ad_cons (ed_var 5) (ad_cons (ed_var 6) ad_nil)))))) (wd_or1 (td_eqO G_Belt_eq hr (by decide) (ed_var 7) (ek K_Belt hr (by decide) (by rfl) (ad_cons (ed_ix (ed_var 4) ed_int) (ad_cons (ed_var 5) (ad_cons (ec G_law_plus hr (by decide) (by rfl) (ad_cons (ed_var 6) (ad_cons (ed_tup (ad_cons ed_int (ad_cons ed_int ad_nil))) ad_nil))) ad_nil))))))).pt (bd_one (sd_ret ed_bl)) bd_nil)
    (bd_cons (sd_if (wd_or (td_eqO G_Belt_eq hr (by decide) (ed_var 7) (ek K_Belt hr (by decide) (by rfl) (ad_cons (ec G_law_plus hr (by decide) (by rfl) (ad_cons (ed_ix (ed_var 4) ed_int) (ad_cons (ed_tup (ad_cons ed_int (ad_cons ed_int ad_nil))) ad_nil))) (ad_cons (ed_var 5) (ad_cons (ed_var 6) ad_nil))))) (wd_or1 (td_eqO G_Belt_eq hr (by decide) (ed_var 7) (ek K_Belt hr (by decide) (by rfl) (ad_cons (ed_ix (ed_var 4) ed_int) (ad_cons (ec G_law_plus hr (by decide) (by rfl) (ad_cons (ed_var 5) (ad_cons (ed_tup (ad_cons ed_int (ad_cons ed_int ad_nil))) ad_nil))) (ad_cons (ed_var 6) ad_nil))))))).pt (bd_one (sd_ret ed_bl)) bd_nil)
    (bd_cons (sd_for PassesOwn.never rfl (id_list (ech G_law_spots hr (by decide) (by rfl) (ah_cons 0 (ad_cons (ed_var 1) (ad_cons (ed_var 3) ad_nil))))) (gd_tup rfl (gds_cons (gd_name 8 sc_law_belted.nd) (gds_cons (gd_name 9 sc_law_belted.nd) gds_nil))) (bd_one (sd_if (wd_or (td_not (td_val (ec G_law_truth hr (by decide) (by rfl) (ad_cons (ed_inO G_Belt_contains hr (by decide) (ech G_law_form hr (by decide) (by rfl) (ah_cons 0 (ad_cons (ed_var 8) ad_nil))) (ed_var 7)) (ad_cons (ed_var 9) ad_nil))))) (wd_or1 (td_not (td_val (ec G_law_truth hr (by decide) (by rfl) (ad_cons (ecX G_can_come_to hr (by decide) (by rfl) passNo (ad_cons (ed_var 2) (ad_cons (ed_var 3) (ad_cons (ech G_law_form hr (by decide) (by rfl) (ah_cons 0 (ad_cons (ed_var 8) ad_nil))) ad_nil)))) (ad_cons (ed_var 9) ad_nil))))))).pt (bd_one (sd_ret ed_bl)) bd_nil)))
    (bd_cons (sd_set 10 sc_law_belted.nd (ech G_law_spoilt_direction hr (by decide) (by rfl) (ah_cons 0 ad_nil)))
    (bd_cons (sd_if (wd_and (td_not (td_val (ec G_law_is_spot hr (by decide) (by rfl) (ad_cons (ed_var 10) ad_nil)))) (wd_and1 (td_inO G_Belt_contains hr (by decide) (ed_var 10) (ed_var 7)))).pt (bd_one (sd_ret ed_bl)) bd_nil)
    (bd_cons (sd_if (td_ne (ec G_law_called hr (by decide) (by rfl) (ad_cons ed_int (ad_cons (ed_var 2) (ad_cons (ed_var 3) (ad_cons (ed_var 10) ad_nil))))) (ed_ifExp (td_val (ec G_law_is_spot hr (by decide) (by rfl) (ad_cons (ed_var 10) ad_nil))) ed_str ed_str)) (bd_one (sd_ret ed_bl)) bd_nil)
    (bd_cons (sd_set 11 sc_law_belted.nd (ed_ix (ed_frz (eo_lst (ad_cons (ed_tup (ad_cons (ed_cb call_len_seq sim_len (by rfl) T.n_len (by decide +kernel) (ad_cons (ed_var 1) ad_nil)) (ad_cons (ed_tup (ad_cons ed_int (ad_cons ed_int ad_nil))) ad_nil))) (ad_cons (ed_tup (ad_cons (ed_neg ed_int) (ad_cons (ed_tup (ad_cons ed_int (ad_cons ed_int ad_nil))) ad_nil))) (ad_cons (ed_tup (ad_cons ed_int (ad_cons ed_int ad_nil))) (ad_cons ed_non ad_nil)))))) (ech G_law_take hr (by decide) (by rfl) (ah_cons 0 (ad_cons ed_int ad_nil)))))
    (bd_cons (sd_if (td_neD hr (ed_frz (eo_lc rfl sc_law_belted.nd (id_range1 (by rfl) T.n_range (ad_cons ed_int ad_nil)) (own := [("_law_act", 12)]) (blk_of (N := N_law_belted) (sc := defScope s_law_belted)) (tg1 12) (fun _ _ _ _ _ => pg_name (i := 12) sc_law_belted.nd rfl (Or.inl rfl) (.inr rfl)) (fun _ _ _ _ _ => pts_test (td_ne (ec G_law_called hr (by decide) (by rfl) (ad_cons (ed_var 12) (ad_cons (ed_var 2) (ad_cons (ed_var 11) (ad_cons (ed_var 10) ad_nil))))) ed_str)) (fun _ _ _ _ _ => (ed_var 12)))) (ed_frz (eo_lst ad_nil))) (bd_one (sd_ret ed_bl)) bd_nil)
    (bd_one (sd_ret (ed_eqD hr (ed_frz (eo_lc rfl sc_law_belted.nd (id_range2 (by rfl) T.n_range (ad_cons ed_int (ad_cons ed_int ad_nil))) (own := [("_law_act", 12)]) (blk_of (N := N_law_belted) (sc := defScope s_law_belted)) (tg1 12) (fun _ _ _ _ _ => pg_name (i := 12) sc_law_belted.nd rfl (Or.inl rfl) (.inr rfl)) (fun _ _ _ _ _ => pts_test (td_ne (ec G_law_called hr (by decide) (by rfl) (ad_cons (ed_var 12) (ad_cons (ed_var 2) (ad_cons (ed_var 3) (ad_cons (ed_var 10) ad_nil))))) ed_str)) (fun _ _ _ _ _ => (ed_var 12)))) (ed_frz (eo_lst ad_nil))))))))))))))))), ?_⟩
  rintro ds Q EQ ⟨bs, n, p, rfl, hb, hp, q⟩
  have hl := rowOf_len bs n p
  have hz := rowOf_Z hb hp
  have h4 := hb.n4
  generalize hr : rowOf bs n p = r at hl hz
  have hn := ne_nil hl
  have bF := (foot_Z hn hz).B (by decide)
  have bH := ((high_Z hl hz).mono (d := 2800000000) (by omega)).B (by decide)
  have bL := ((low_Z hl hz).mono (d := 4200000000) (by omega)).B (by decide)
  generalize hlo : loOf r = lo at *
  generalize hhi : highOf r = hi at *
  generalize hfo : footOf r = fo at *
  have hf : atI (r.map ratD) 0 = some (ratD fo) := by rw [← hfo]; exact foot_at hn
  have bhalf : B 2 (⟨1, 2, by decide, by decide⟩ : Rat) := ⟨by decide, by decide⟩
  have hhalf : ∀ a : Rat, decide (a = a + (⟨1, 2, by decide, by decide⟩ : Rat)) = false := fun a => by
    have h0 : (0 : Rat) < (⟨1, 2, by decide, by decide⟩ : Rat) := by rw [Rat.lt_iff]; decide
    refine decide_eq_false fun z => ?_
    grind
  generalize hhv : (⟨1, 2, by decide, by decide⟩ : Rat) = half at bhalf hhalf
  have ehalf : D.tup [.int 1, .int 2] = ratD half := by rw [← hhv]; rfl
  walk_at "rd"
  refine ⟨bs, n, p, rfl, hb, hp, ?_⟩
  rw [hr]
  walk_at "rd"
  refine ⟨by omega, fun x hx => (hz x hx).mono (by decide), ?_⟩
  rw [hlo, hhi]
  walk_at "rd"
  intro x hx
  have ex : itemsD x = some [.int p.1, ratD p.2] := by rcases hx with rfl | rfl <;> rfl
  have px : p3 x = true := by rcases hx with rfl | rfl <;> rfl
  walk_at "rd"
  refine .inl ⟨p, ex, px, hp, ?_⟩
  walk_at "rd"
  rw [hr, hlo, hhi, hfo]
  refine ⟨_, hf, ?_⟩
  walk_at "rd"
  refine ⟨[fo, lo, hi], rfl, (by show 3 ≤ 900; decide), ?_⟩
  walk_at "rd"
  refine ⟨_, hf, ?_⟩
  walk_at "rd"
  refine ifQ (c := false) (by simp) ?_
  walk_at "rd"
  refine ⟨_, hf, ?_⟩
  walk_at "rd"
  refine ⟨hi, 1, rfl, bH.mono (by decide), B.one.mono (by decide), ?_⟩
  walk_at "rd"
  refine ifQ (c := false) (by simp [ne_add1]) ?_
  walk_at "rd"
  refine ⟨_, hf, ?_⟩
  walk_at "rd"
  refine ⟨fo, half, by rw [← ehalf], bF.mono (by decide), bhalf.mono (by decide), ?_⟩
  walk_at "rd"
  refine ifQ (c := false) (by simp [hhalf]) ?_
  walk_at "rd"
  refine ⟨_, hf, ?_⟩
  walk_at "rd"
  refine ⟨lo, half, by rw [← ehalf], bL.mono (by decide), bhalf.mono (by decide), ?_⟩
  walk_at "rd"
  refine ifQ (c := false) (by simp [hhalf]) ?_
  walk_at "rd"
  refine ⟨bs, n, p, rfl, hb, hp, fun L hL => ?_⟩
  rw [hr, hlo, hhi, hfo] at hL
  walk_at "rd"
  refine forL_ind (fun xs ρ => ∃ (L' : List (Rat × Rat × Bool)) (e8 e9 : Option Sl), xs = L'.map (fun t => D.tup [vecD t.1 t.2.1, .bl t.2.2]) ∧ ρ = [some .hand, some (.d (barsD bs)), some (.d (armsD bs n)), some (.d (placeD p)), some (.d (rowD r)), some (.d (ratD lo)), some (.d (ratD hi)), some (.d (beltD fo lo hi)), e8, e9, none, none, none] ∧
    ∀ t, t ∈ L' → B 2000 t.1 ∧ B 2000 t.2.1 ∧ inBelt fo lo hi t.1 t.2.1 = t.2.2) ?_ ?_ _ _ ⟨L, none, none, rfl, rfl, hL⟩
  · rintro ρ ⟨L', e8, e9, h1, rfl, _⟩
    cases L' with
    | cons _ _ => cases h1
    | nil =>
      walk_at "rd"
      intro x hth
      obtain ⟨h3, hsp⟩ := hth
      have hth : Thing x := ⟨h3, hsp⟩
      walk_at "rd"
      have hwrong : ∀ v : Int, 0 ≤ v → v < 4 → ∃ z, atI [D.tup [.int ((bs.length : Nat) : Int), .tup [.int 1, .int 1]], .tup [.int (-2), .tup [.int 1, .int 1]], .tup [.int 0, .int 1], .non] v = some z ∧ p3 z = true ∧ placeQ z bs.length = false := fun v h0 h1 => by
        have : v = 0 ∨ v = 1 ∨ v = 2 ∨ v = 3 := by omega
        rcases this with rfl | rfl | rfl | rfl
        · refine ⟨_, rfl, rfl, ?_⟩
          have e : wholeQ (.int ((bs.length : Nat) : Int)) (some (-1)) (some (((bs.length : Nat) : Int) - 1)) = false := by simp [wholeQ]; omega
          show (wholeQ (.int ((bs.length : Nat) : Int)) (some (-1)) (some (((bs.length : Nat) : Int) - 1)) && _) = false
          rw [e]; rfl
        · exact ⟨_, rfl, rfl, rfl⟩
        · refine ⟨_, rfl, rfl, ?_⟩
          show (wholeQ (.int 0) (some (-1)) (some (((bs.length : Nat) : Int) - 1)) && false) = false
          rw [Bool.and_false]
        · exact ⟨_, rfl, rfl, rfl⟩
      cases hs : spotQ x with
      | false =>
        try rw [hs]
        walk_at "rd"
        refine .inr ⟨h3, hs, ?_⟩
        walk_at "rd"
        refine ⟨_, _, _, _, _, rfl, by decide, by decide, hb, hth, .inl ⟨p, rfl, rfl, hp, ?_⟩⟩
        rw [if_pos ⟨rfl, hs⟩]
        walk_at "rd"
        try rw [hs]
        walk_at "rd"
        rw [List.length_map]
        refine ⟨by decide, by decide, fun v hv0 hv1 => ?_⟩
        obtain ⟨z, hz1, hz2, hz3⟩ := hwrong v hv0 hv1
        walk_at "rd"
        refine ⟨_, hz1, ?_⟩
        walk_at "rd"
        refine ⟨by decide, by decide, ?_⟩
        walk_at "rd"
        refine compL_none (fun i : Nat => D.int (0 + (i : Nat))) (List.range 6) [] (fun i hi => ⟨trivial, fun k hk => ?_⟩) ?_
        · have hi' := List.mem_range.mp hi
          walk_at "rd"
          refine ⟨_, _, _, _, _, rfl, show (0 : Int) ≤ 0 + (i : Int) by omega, show 0 + (i : Int) ≤ 5 by omega, hb, hth, .inr ⟨hz2, hz3, ?_⟩⟩
          walk_at "rd"
          exact hk
        walk_at "rd"
        refine ⟨true, eqD_ints [] [], ?_⟩
        walk_at "rd"
        refine ⟨by decide, ?_⟩
        walk_at "rd"
        refine compL_none (fun i : Nat => D.int (1 + (i : Nat))) (List.range 5) [] (fun i hi => ⟨trivial, fun k hk => ?_⟩) ?_
        · have hi' := List.mem_range.mp hi
          walk_at "rd"
          refine ⟨_, _, _, _, _, rfl, show (0 : Int) ≤ 1 + (i : Int) by omega, show 1 + (i : Int) ≤ 5 by omega, hb, hth, .inl ⟨p, rfl, rfl, hp, ?_⟩⟩
          rw [if_neg (fun z => absurd (show 1 + (i : Int) = 0 from z.1) (by omega))]
          walk_at "rd"
          exact hk
        walk_at "rd"
        exact ⟨true, eqD_ints [] [], q⟩
      | true =>
        try rw [hs]
        walk_at "rd"
        refine ⟨_, _, _, _, _, rfl, by decide, by decide, hb, hth, .inl ⟨p, rfl, rfl, hp, ?_⟩⟩
        rw [if_neg (fun z => by rw [hs] at z; exact nomatch z.2)]
        walk_at "rd"
        try rw [hs]
        walk_at "rd"
        rw [List.length_map]
        refine ⟨by decide, by decide, fun v hv0 hv1 => ?_⟩
        obtain ⟨z, hz1, hz2, hz3⟩ := hwrong v hv0 hv1
        walk_at "rd"
        refine ⟨_, hz1, ?_⟩
        walk_at "rd"
        refine ⟨by decide, by decide, ?_⟩
        walk_at "rd"
        refine compL_none (fun i : Nat => D.int (0 + (i : Nat))) (List.range 6) [] (fun i hi => ⟨trivial, fun k hk => ?_⟩) ?_
        · have hi' := List.mem_range.mp hi
          walk_at "rd"
          refine ⟨_, _, _, _, _, rfl, show (0 : Int) ≤ 0 + (i : Int) by omega, show 0 + (i : Int) ≤ 5 by omega, hb, hth, .inr ⟨hz2, hz3, ?_⟩⟩
          walk_at "rd"
          exact hk
        walk_at "rd"
        refine ⟨true, eqD_ints [] [], ?_⟩
        walk_at "rd"
        refine ⟨by decide, ?_⟩
        walk_at "rd"
        refine compL_none (fun i : Nat => D.int (1 + (i : Nat))) (List.range 5) [] (fun i hi => ⟨trivial, fun k hk => ?_⟩) ?_
        · have hi' := List.mem_range.mp hi
          walk_at "rd"
          refine ⟨_, _, _, _, _, rfl, show (0 : Int) ≤ 1 + (i : Int) by omega, show 1 + (i : Int) ≤ 5 by omega, hb, hth, .inl ⟨p, rfl, rfl, hp, ?_⟩⟩
          rw [if_neg (fun z => absurd (show 1 + (i : Int) = 0 from z.1) (by omega))]
          walk_at "rd"
          exact hk
        walk_at "rd"
        exact ⟨true, eqD_ints [] [], q⟩
  · rintro x xs ρ ih ⟨L', e8, e9, h1, rfl, hL'⟩
    cases L' with
    | nil => cases h1
    | cons t L' =>
      cases h1
      obtain ⟨b1, b2, e⟩ := hL' t (List.mem_cons_self ..)
      walk_at "rd"
      intro y hy
      have ey : itemsD y = some [ratD t.1, ratD t.2.1] := by rcases hy with rfl | rfl <;> rfl
      have py : p3 y = true := by rcases hy with rfl | rfl <;> rfl
      walk_at "rd"
      refine .inl ⟨t.1, t.2.1, ey, py, b1, b2, ?_⟩
      walk_at "rd"
      rw [e]
      refine ifnT rfl ?_
      walk_at "rd"
      intro y hy
      have ey : itemsD y = some [ratD t.1, ratD t.2.1] := by rcases hy with rfl | rfl <;> rfl
      have py : p3 y = true := by rcases hy with rfl | rfl <;> rfl
      walk_at "rd"
      refine .inl ⟨p, rfl, rfl, hp, .inl ⟨t.1, t.2.1, ey, py, b1, b2, ?_⟩⟩
      walk_at "rd"
      rw [hr, hlo, hhi, hfo, e]
      refine ifnT rfl ?_
      walk_at "rd"
      exact ih _ ⟨L', _, _, rfl, rfl, fun s hs => hL' s (List.mem_cons_of_mem _ hs)⟩
end
end SA
end

section
set_option Elab.async false
set_option linter.all false
set_option maxRecDepth 100000
set_option maxHeartbeats 4000000

namespace PySem
namespace SUX
open PySem.W PySem.Calls PyProof.Rows PySem.HandSPX
/-- what the written part says of the class at C, its __init__ at fI -/
structure SupC (prog : Program) (K : Frag) (mg : Str → Option Value) (C fI : Addr) (st : Stmt) : Prop where
  T : L2.OexC K C
  iC : findIn K (.ref C) "__init__" = some (some (.ref fI))
  tI : typeIn K (.ref fI) = some (.type "function")
  fn : ∃ (oc ccl cl ct kV doc pm : Value) (od cdd cld an : Option Addr) (osl ccs csl : Array (Option Value)) (cda cc : Addr) (qual file : Str) (tf : Tok) (vs : Array Value),
    K.lookup fI = some ⟨oc, od, .func (ksFn "__init__" qual (L2.defArgs st) (L2.defBody st) (L2.defScope st) .none kV doc pm an (.ref cda) ct cc), osl⟩ ∧ codeIn K (.ref cda) qual = true ∧
    K.lookup cda = some ⟨ccl, cdd, .fields vs, ccs⟩ ∧ vs[2]? = some (.str file tf) ∧ ((prog.main.file : Str) == file) = true ∧ K.lookup cc = some ⟨cl, cld, .cell (some (.ref C)), csl⟩
  hsub : mroIn K C (.ref C) = some true
  hm : ks_superIn K C C "__init__" = some (some (.builtin "ValueError.__init__"))
  hB : subIn K (.ref C) (.type "ValueError") = some true
  ho : nsIn K cStatics "thirdparty.any" = some none
  ei : ∃ newId bmB, ExcBaseFacts "ValueError" newId "ValueError.__init__" bmB ∧ excInitIn K C bmB newId = true
  ms : mg "super" = none
  top : (prog.main.scope.names.lookup ("super" : Str)).isSome = false
/-- the text -/
structure SupT (st : Stmt) : Prop where
  ar : ∃ a : Arg, ((L2.defArgs st).posonlyargs ++ (L2.defArgs st).args).head? = some a ∧ a.arg = "self"
  bind : ∀ (s : Shared) (qual : Str) (kV doc pm : Value) (an : Option Addr) (cdv ct : Value) (cc : Addr) (v : Value), BindsTo s (ksFn "__init__" qual (L2.defArgs st) (L2.defBody st) (L2.defScope st) .none kV doc pm an cdv ct cc) ⟨[v], []⟩ [("self", v)]
  bd : ∃ (lit : Str) (p0 p1 ap pc cp pos : Pos) (kk : Option Str), L2.defBody st = [.Expr (.Call (.Attribute (.Call (.Name "super" p0) [] [] p1) "__init__" ap) [.Constant (.str lit) 0 pc] [] cp) pos] ∧
    ∀ env : Env, env.scope = L2.defScope st → (interactive env = false → swapsWith (.Call (.Attribute (.Call (.Name "super" p0) [] [] p1) "__init__" ap) [.Constant (.str lit) 0 pc] [] cp) none pos.line env = pure false) ∧ ∃ pl : Sem Bool, eval (.Call (.Attribute (.Call (.Name "super" p0) [] [] p1) "__init__" ap) [.Constant (.str lit) 0 pc] [] cp) env = (do
      let ov ← attributeBase (.Call (.Name "super" p0) [] [] p1) "__init__" env (eval (.Call (.Name "super" p0) [] [] p1) env)
      standAt ap.atName
      let (f, first) ← holding [ov] (getMethod ov "__init__" pl)
      callWith cp f first (backTo cp (starEach [.Constant (.str lit) 0 pc] env)) [])
  cell : ∀ x ∈ (L2.defScope st).names, x.2 ≠ .cell
  co : (L2.defScope st).isCoroutine = false
  gen : (L2.defScope st).isGenerator = false
  kind : (L2.defScope st).kind = .function
  l1 : (L2.defScope st).names.lookup ("super" : Str) = some .globalImplicit
  l2 : (L2.defScope st).names.lookup ("__class__" : Str) = some .free
  l3 : (L2.defScope st).names.lookup ("self" : Str) = some .local
section
variable {prog : Program} {w : World} {A : Around} {R : Result → Shared → Prop} {K : Frag} {mg : Str → Option Value} {C fI : Addr} {st : Stmt} {base : Heap}
theorem bad_init (S : SupC prog K mg C fI st) (T : SupT st) (M : L2.Mod K mg base) {h₀ : Heap} {s : Shared} {x t0 : Addr} (kb : ∀ b o, base.get? b = some o → h₀.get? b = some o) (k0 : ∀ b o, h₀.get? b = some o → s.heap.get? b = some o) (X₀ : K.In h₀)
    (hx : s.heap.get? x = some (excO C t0)) (hx0 : h₀.get? x = none) (hsz : h₀.objs.size ≤ s.heap.objs.size) (hlim : s.heap.NoLimit) (hroom : A.depth < recursionLimit)
    (hq : ∀ h' tk t1, (∀ b o, h₀.get? b = some o → h'.get? b = some o) → h'.get? x = some (excO C t1) → R (.ok (.ret .none)) { s with heap := h', toks := tk }) :
    codeAny (model prog w) A (.call (.ref fI) ⟨[.ref x], []⟩) R s := by
  obtain ⟨oc, ccl, cl, ct, kV, doc, pm, od, cdd, cld, an, osl, ccs, csl, cda, cc, qual, file, tf, vs, e1, e2, e3, e4, e5, e6⟩ := S.fn
  obtain ⟨a, ha, ha2⟩ := T.ar
  obtain ⟨lit, p0, p1, ap, pc, cp, pos, kk, hbd, hev⟩ := T.bd
  obtain ⟨newId, bmB, FB, hei⟩ := S.ei
  refine ks_codeAny_call_defAt (fd := ksFn "__init__" qual (L2.defArgs st) (L2.defBody st) (L2.defScope st) .none kV doc pm an (.ref cda) ct cc) (body := L2.defBody st) (binds := [("self", .ref x)]) hroom (k0 _ _ (X₀ _ _ e1)) rfl hlim (codeRec_of (X₀.keeps k0) e2) rfl
    (T.bind _ _ _ _ _ _ _ _ _ _) T.cell (fun y hy => ?_) (fun h₁ hns hk₁ => ?_) T.co T.gen T.kind
  · rw [List.mem_singleton] at hy
    subst hy
    exact T.l3
  · have F : Fr h₀ s.heap.objs.size h₁ (fun y => [(("self" : Str), Value.ref x)].reverse.lookup y) := ⟨hns, fun b o e => hk₁ b o (k0 b o e), hsz⟩
    have N : News h₀ s.heap.objs.size h₁ [(x, excO C t0)] := fun p hp => by
      rw [List.mem_singleton] at hp
      subst hp
      exact ⟨hk₁ _ _ hx, Nat.ne_of_lt (Heap.lt_size hx), hx0⟩
    rw [hbd]
    obtain ⟨hsw, pl, hev⟩ := hev (callEnv (ksFn "__init__" qual (L2.defArgs st) (L2.defBody st) (L2.defScope st) .none kV doc pm an (.ref cda) ct cc) s.heap.objs.size fI) rfl
    have hT : ∀ {A' : Around} {s' : Shared} {E' : Value → Shared → Prop} {Q' : Value → Shared → Prop}, (∀ b o, h₀.get? b = some o → s'.heap.get? b = some o) → Q' (.type "super") s' →
        wpAny (model prog w) A' (loadName (callEnv (ksFn "__init__" qual (L2.defArgs st) (L2.defBody st) (L2.defScope st) .none kV doc pm an (.ref cda) ct cc) s.heap.objs.size fI) "super") Q' E' s' := fun k q => by
      obtain ⟨mb, hb1, hb2⟩ := M.blt
      have k' := fun b o e => k b o (kb b o e)
      exact ks_loadName_global T.kind T.l1 (loadGlobal_builtin (M.glob.keeps k') S.ms (hb1.keeps k') ((hb2 _ (by decide)).trans (by decide +kernel)) q)
    obtain ⟨cdD, hcd⟩ : ∃ cdD, clsIn K C = some cdD := by
      obtain ⟨nm, q, N, bs, bm, sn, sub, ab, col, dd, k0, k1, k2, k3, k5, hC, _⟩ := S.T.cls
      exact ⟨_, by unfold clsIn; rw [hC] <;> rfl⟩
    have X1 : K.In h₁ := X₀.keeps F.keep
    obtain ⟨oD, hD1, hD2⟩ : ∃ oD, h₁.get? C = some oD ∧ oD.data = .cls cdD := by
      have hcd' := hcd
      unfold clsIn at hcd'
      split at hcd'
      · rename_i c d cd' sl ho
        cases hcd'
        exact ⟨_, X1 _ _ ho, rfl⟩
      · cases hcd'
    have hint : interactive (callEnv (ksFn "__init__" qual (L2.defArgs st) (L2.defBody st) (L2.defScope st) .none kV doc pm an (.ref cda) ct cc) s.heap.objs.size fI) = false := by
      unfold interactive
      show ((L2.defScope st).kind == .module && _) = false
      rw [T.kind]
      rfl
    refine ks_wpAt_execs_cons (ks_wpAt_Expr_any (ks_wpAt_MethodCall (pl := pl) ?_ hev) hint (hsw hint))
    refine ks_wpAt_super_base T.l1 T.l2 (by decide) rfl (X1 _ _ e1) rfl ha rfl (X1 _ _ e3) rfl e4 e5 S.top ?_
    refine hT (fun b o e => F.keep b o e) ⟨rfl, ?_⟩
    refine wpAny_loadName_free T.kind T.l2 rfl ⟨_, X1 _ _ e6, rfl⟩ ?_
    rw [ha2]
    refine wpAny_loadName_local (v := .ref x) T.kind T.l3 F.ns rfl ?_
    refine ks_wpAny_isType_cls hD1 hD2 ⟨rfl, ?_⟩
    have I : InstAt h₁ x (excO C t0) C none := ⟨(N (x, excO C t0) (List.mem_cons_self ..)).1, rfl, rfl, trivial⟩
    refine ks_wpAny_call_super hD1 hD2 I.at_ I.cls (fun c e => ?_) (looks_mroIn X1 S.hsub) (fun h' e k => ?_)
    · have := I.no
      unfold notCls at this
      rw [e] at this
      exact Bool.noConfusion this
    obtain ⟨F2, N2, l2⟩ := ks_newsPush (s := { s with heap := h₁, toks := s.toks + 1 }) F N rfl e k
    have I2 : InstAt h' x (excO C t0) C none := ⟨(N2 (x, excO C t0) (by simp)).1, rfl, rfl, trivial⟩
    refine kxs_method (s := { s with heap := h', toks := s.toks + 1 }) kxs_ValueError F2 X₀ N2 (List.mem_cons_self ..) I2 S.ho S.hm S.hB (by decide) (fun q h3 F3 N3 l3 => ?_)
    refine kxs_callWith1 (s := { s with heap := h3, toks := s.toks + 1 + 1 }) N3 (List.mem_cons_self ..) ?_
    refine spliced_cons (Constant_str (k := 0) (pos := pc) (spliced_nil ⟨kxs_at N3 (List.mem_cons_self ..), ?_⟩))
    have hxq : x < q := l3 (x, excO C t0) (by simp)
    have hxs := l2 (x, excO C t0) (by simp)
    refine kxs_call (s := { s with heap := h3, toks := s.toks + 1 + 1 + 1 }) (t := t0) (dv := none) (c2 := .none) (rest := [.str lit (s.toks + 1 + 1)]) F3 X₀ N3 FB hei (List.mem_cons_self ..)
      (.tail (Nat.ne_of_gt hxq) (.tail (Nat.ne_of_gt hxs) (.head fun _ h => nomatch h))) (by rw [sizeLine_eq]; show 1 ≤ 16777216; decide) (fun t' h4 F4 N4 l4 => ?_)
    refine wpAt_of_wpAny (wpAny_execs_nil ?_)
    exact hq h4 _ t' (fun b o e => F4.keep b o e) (N4 (x, excO C t') (by simp)).1
end
end SUX
end PySem
namespace DL
open PySem PySem.Spec PyProof.Rows L2 PySem.HandSPX
section
variable {X : Cx} {W : Wd} {C fI : Addr} {st : Stmt} {x : Str} {p pos : Pos}
theorem pmk_sux (S : PySem.SUX.SupC X.prog X.K X.mg C fI st) (T : PySem.SUX.SupT st) {k : Nat} (hr : Room (k + 1) X.A) (hg : Gl X x) (hm : X.mg x = some (.ref C)) (hdb : (x == ("__debug__" : Str)) = false := by decide) :
    PMk X (.Call (.Name x p) [] [] pos) (fun σ H Q => Q (.ref C) none H) := by
  intro pins s σ H Q I h
  obtain ⟨nm, q, N, bs, bm, sn, sub, ab, col, dd, k0, k1, k2, k3, k5, hC, hbm⟩ := S.T.cls
  refine wpAny_Call_Name_kw (ld_glob I hg hm ?_ hdb)
  refine PySem.W.callWith_K0 I.kIn S.T.kC ?_
  show wpAny _ _ (call (.ref C) []) _ _ _
  obtain ⟨hp, g, dr, tk, os⟩ := s
  have kk : ∀ b o, hp.get? b = some o → ((hp.push (PySem.W.kdv_tup [])).push (PySem.HandSPX.excO C hp.objs.size)).get? b = some o := fun b o e => Heap.get?_push_of_some _ (Heap.get?_push_of_some _ e)
  have hget : ((hp.push (PySem.W.kdv_tup [])).push (PySem.HandSPX.excO C hp.objs.size)).get? (hp.objs.size + 1) = some (PySem.HandSPX.excO C hp.objs.size) := by heap_get
  have hx0 : hp.get? (hp.objs.size + 1) = none := by
    cases e : hp.get? (hp.objs.size + 1) with
    | none => rfl
    | some o => exact absurd (Nat.lt_of_succ_lt (Heap.lt_size e)) (Nat.lt_irrefl _)
  refine wpAny_call (PySem.HandSPX.call_own F.excBase_ValueError (fun Y => PySem.HandSPX.refsVE_contains Y bm hbm) (I.kIn _ _ hC) (PySem.W.looks_findIn I.kIn S.iC) (fun self => PySem.W.bind_fn I.kIn self S.tI) (by rw [sizeLine_eq]; decide) ?_)
  refine PySem.SUX.bad_init (h₀ := hp) (s := ⟨(hp.push (PySem.W.kdv_tup [])).push (PySem.HandSPX.excO C hp.objs.size), g, dr, tk, os⟩) S T I.ok.mod I.bk kk I.kIn hget hx0 ?_ ?_ ?_ (fun h' tk' t1 k' he => ?_)
  · rw [Heap.size_push, Heap.size_push]; omega
  · exact I.nolimit.keeps kk
  · exact (hr.make C [] []).depth
  · exact ⟨rfl, hp.objs.size + 1, _, _, ⟨hp, g, dr, tk, os⟩, H, .ref C, none, rfl, I, k', hx0, he, ⟨rfl, rfl⟩, rfl, rfl, I.hok.fresh (Nat.le_succ _), rfl, I.bare, raises_own S.T.exC S.T.tyC, h⟩
end
end DL
namespace DL
open PySem PySem.Spec PyProof.Rows L2
structure Bad (P : Program) (K : PySem.W.Frag) (mg : Str → Option Value) (C : Addr) (st : Stmt) (x : Str) : Prop where
  ex : ∃ fI, PySem.SUX.SupC P K mg C fI st
  m : mg x = some (.ref C)
  t : PySem.SUX.SupT st
def dRaise (Y : Addr → Prop) (C : Addr) : DS := fun _ _ => Y C
theorem sd_raise {X : Cx} {W : Wd} {C : Addr} {st : Stmt} {x : Str} {p pos' pos : Pos} {k : Nat} {Y : Addr → Prop} {H0 : Hp} (G : Bad X.prog X.K X.mg C st x) (hr : Room (k + 1) X.A) (hg : Gl X x) (hc : X.calm = true)
    (tk : Takes X (fun u _ _ H' => ∃ c, u = .ref c ∧ Y c ∧ DL.Ext H0 H')) (eW : W = ⟨none, H0⟩) (hdb : (x == ("__debug__" : Str)) = false := by decide) : SD W X (.Raise (some (.Call (.Name x p) [] [] pos')) none pos) (dRaise Y C) := by
  obtain ⟨fI, S⟩ := G.ex
  refine (ps_raise hc tk (pmk_sux S G.t hr hg G.m hdb)).weak fun F σ H h => ?_
  obtain ⟨ρ, E, er, q, ok⟩ := h
  subst eW
  exact ⟨C, rfl, q, er.stp⟩
end DL
end

section
set_option maxRecDepth 100000
namespace SA
open PySem PySem.Spec PyProof.Rows L2 DL
theorem t_BadPlace : PySem.SUX.SupT s_BadPlace_init where
  ar := ⟨_, rfl, rfl⟩
  bind := fun s qual kV doc pm an cdv ct cc v => BindsTo.of_eq (by first | rfl | with_unfolding_all rfl)
  bd := ⟨_, _, _, _, _, _, _, none, rfl, fun env he => ⟨fun _ => rfl, ⟨_, rfl⟩⟩⟩
  cell := by decide +kernel
  co := rfl
  gen := rfl
  kind := rfl
  l1 := by decide +kernel
  l2 := by decide +kernel
  l3 := by decide +kernel
end SA
end

section
set_option Elab.async false
set_option linter.all false
set_option maxRecDepth 100000
set_option maxHeartbeats 4000000
namespace SA
open PySem PySem.Spec PyProof.Rows L2 DL RM
local macro_rules | `(tactic| walk_at "rd") => `(tactic| repeat (first | refine ⟨_, rfl, ?_⟩ | refine ⟨rfl, ?_⟩ | refine ⟨_, _, rfl, ?_⟩ | refine ⟨_, _, rfl, rfl, ?_⟩ | refine ⟨_, _, _, rfl, rfl, ?_⟩ | refine ⟨_, _, _, rfl, ?_⟩ | refine ⟨_, _, _, _, rfl, ?_⟩ | refine ⟨_, _, _, _, _, _, rfl, ?_⟩ | refine And.intro (by assumption) ?_ | refine And.intro (by decide : _ ∉ _) ?_ | refine iteT ?_ | refine iteF ?_))
section
variable {P : Program} {w : World} {K : PySem.W.Frag} {mg : Str → Option Value} {base : Heap} {f : Addr} {fd : FuncData}
theorem ok_check_place (F : Fun K "check_place" "check_place" s_check_place f fd) (B_BadPlace : Bad P K mg C_BadPlace s_BadPlace_init "BadPlace") (G_Arms_len : Met P w K mg base CX0 4 C_Arms "__len__" (spP K S_Arms_len)) (G_is_place_form : Cal P w K mg base CX0 6 "is_place_form" (spP K S_is_place_form)) (T : Glob mg) : FnOk P w K mg base (L2.CX P w) 7 f fd ["arms", "place"] (spP K S_check_place) := by
  refine fnX F sc_check_place (by intro ds Q E h; unfold S_check_place at h; repeat (first | (obtain ⟨rfl, _⟩ := h; rfl) | (obtain ⟨_, h⟩ := h))) fun cdv A outer sh H E W EX hr eW tk => ⟨_, (bd_cons (sd_if (td_not (td_val (ec G_is_place_form hr (by decide) (by rfl) (ad_cons (ed_var 1) (ad_cons (ed_lenO G_Arms_len hr (by decide) (by rfl) T.n_len (ed_var 0)) ad_nil))))) (bd_one (sd_raise B_BadPlace (k := 2) (hr.mono (by decide)) (by rfl) rfl tk eW)) bd_nil)
    (bd_one (sd_ret (ed_ct call_tuple_of sim_tuple (by rfl) T.n_tuple (by decide +kernel) (ad_cons (ed_var 1) ad_nil))))), ?_⟩
  rintro ds Q ⟨bs, n, x, rfl, h6, (⟨xs, h3, hp, e, q⟩ | ⟨h3, hp, hE⟩)⟩
  · walk_at "rd"
    refine ⟨by omega, by omega, ?_⟩
    walk_at "rd"
    refine ifQ (c := false) (by rw [hp]; rfl) ?_
    walk_at "rd"
    rcases itemsD_inv e with rfl | rfl
    · walk_at "rd"; exact q
    · walk_at "rd"; exact q
  · walk_at "rd"
    refine ⟨by omega, by omega, ?_⟩
    walk_at "rd"
    refine ifQ (c := true) (by rw [hp]; rfl) ?_
    refine iteT ?_
    exact hE
theorem ok_check_spot (F : Fun K "check_spot" "check_spot" s_check_spot f fd) (B_BadSpot : Bad P K mg C_BadSpot s_BadSpot_init "BadSpot") (G_is_spot : Cal P w K mg base CX0 6 "is_spot" (spP K S_is_spot)) (T : Glob mg) : FnOk P w K mg base (L2.CX P w) 7 f fd ["spot"] (spP K S_check_spot) := by
  refine fnX F sc_check_spot (by intro ds Q E h; unfold S_check_spot at h; repeat (first | (obtain ⟨rfl, _⟩ := h; rfl) | (obtain ⟨_, h⟩ := h))) fun cdv A outer sh H E W EX hr eW tk => ⟨_, (bd_cons (sd_if (td_not (td_val (ec G_is_spot hr (by decide) (by rfl) (ad_cons (ed_var 0) ad_nil)))) (bd_one (sd_raise B_BadSpot (k := 2) (hr.mono (by decide)) (by rfl) rfl tk eW)) bd_nil)
    (bd_one (sd_ret (ed_ct call_tuple_of sim_tuple (by rfl) T.n_tuple (by decide +kernel) (ad_cons (ed_var 0) ad_nil))))), ?_⟩
  rintro ds Q ⟨s, rfl, (⟨xs, h3, hp, e, q⟩ | ⟨h3, hp, hE⟩)⟩
  · walk_at "rd"
    refine ifQ (c := false) (by rw [hp]; rfl) ?_
    walk_at "rd"
    rcases itemsD_inv e with rfl | rfl
    · walk_at "rd"; exact q
    · walk_at "rd"; exact q
  · walk_at "rd"
    refine ifQ (c := true) (by rw [hp]; rfl) ?_
    refine iteT ?_
    exact hE
end
end SA
end

section
set_option Elab.async false
set_option linter.all false
set_option maxRecDepth 100000
set_option maxHeartbeats 4000000

namespace DL
open PySem PySem.Spec PyProof.Rows L2
abbrev DSX := (Addr → Prop) → DS
def liftSX (W : Wd) (K : PySem.W.Frag) (Wc : WX) (t : DSX) : TS := fun F σ H => ∃ ρ E Y, EnvRep W K H σ ρ ∧ t Y E ρ ∧ EndsOk W K H E F ∧ ∀ c d H', Ext H H' → Y c → Wc (.ref c) d σ H'
section
variable {W : Wd} {Y : Cx} {Wc : WX} {c e : Expr} {es : List Expr} {pos p : Pos} {tt : DT} {ta tb : DSX} {st : Stmt} {k j : Nat} {x : Str} {s : DSp} {t : DA}
def dIfX (tt : DT) (ta tb : DSX) : DSX := fun Yc E ρ => tt ρ fun b => if b = true then ta Yc E ρ else tb Yc E ρ
theorem sx_if {a b : List Stmt} (hd : W.hd = none) (hc : TD W Y c tt) (ha : PSs Y a (liftSX W Y.K Wc ta)) (hb : PSs Y b (liftSX W Y.K Wc tb)) : PS Y (.If c a b pos) (liftSX W Y.K Wc (dIfX tt ta tb)) := (ps_if hc ha hb).weak fun F σ H h => by
  obtain ⟨ρ, E, Yc, er, q, ok, hx⟩ := h
  refine ⟨ρ, _, er, q, fun b H1 s1 q1 => ?_⟩
  have s1' : Ext H H1 := by rw [hd] at s1; exact s1
  have hx' : ∀ c d H', Ext H1 H' → Yc c → Wc (.ref c) d σ H' := fun c d H' e y => hx c d H' (s1'.trans e) y
  cases b with
  | true => exact iteT ⟨ρ, E, Yc, er.mono s1, (by simpa using q1), ok.keep (er.keep s1), hx'⟩
  | false => exact iteF ⟨ρ, E, Yc, er.mono s1, (by simpa using q1), ok.keep (er.keep s1), hx'⟩
theorem sx_one (h : PS Y st (liftSX W Y.K Wc ta)) : PSs Y [st] (liftSX W Y.K Wc ta) := pss_one h
def dCallSX (s : DSp) (t : DA) : DSX := fun Yc E ρ => t ρ fun ds => s ds (fun _ => E.nx ρ) Yc
theorem sx_call (hd : W.hd = none) (tk : Takes Y Wc) (G : Cal Y.prog Y.w Y.K Y.mg Y.base (L2.CX Y.prog Y.w) k x (spP Y.K s)) (hr : Room j Y.A) (hj : k ≤ j) (hg : Gl Y x) (ha : AD W Y (e :: es) t)
    (hs : swapsWith (.Call (.Name x p) (e :: es) [] pos') none pos.line Y.env = pure false := by rfl)
    (hdb : (x == ("__debug__" : Str)) = false := by decide) (he : starEach (e :: es) Y.env = (false, eval e Y.env) :: starEach es Y.env := by rfl) (hpl : (backTo pos' (starEach es Y.env)).any (·.1) = false := by rfl) :
    PS Y (.Expr (.Call (.Name x p) (e :: es) [] pos') pos) (liftSX W Y.K Wc (dCallSX s t)) := by
  obtain ⟨f, fd, ps, F, hm, hk, hb⟩ := G.ex
  refine (ps_expr (pe_callS F (hr.mono hj) hg hm hk hb (fun σ => passAt tk σ) ha hdb he hpl) hs).weak fun Fs σ H h => ?_
  obtain ⟨ρ, E, Yc, er, q, ok, hx⟩ := h
  refine ⟨ρ, _, er, q, fun vs H1 xs s1 rs q1 => ?_⟩
  have s1' : Ext H H1 := by rw [hd] at s1; exact s1
  have er1 := er.mono s1
  exact ⟨xs, _, Yc, rs, q1, fun v H' z e' rz qz => ok.nx _ H' ρ (er1.mono (Stp.of e')) ((er.keep s1).trans (er1.keep (Stp.of e'))) qz, fun c d H' e' y => hx c d H' (s1'.trans e') y⟩
end
section
variable {X : Cx} {W : Wd} {C1 C2 : Addr} {x1 x2 y : Str} {t : DSX} {i : Nat}
def dTry (i : Nat) (s1 s2 : Str) (C1 C2 : Addr) (t : DSX) : DS := fun E ρ => Nat.blt i ρ.length = true ∧ t (fun c => (c = C1 ∧ E.nx (ρ.set i (some (.d (.str s1))))) ∨ (c = C2 ∧ E.nx (ρ.set i (some (.d (.str s2)))))) E ρ
theorem sd_try2 {body : List Stmt} {s1 s2 : Str} {k1 k2 : Nat} {c1 c2 q1 q2 n1 n2 a1 a2 h1 h2 pos : Pos} (i : Nat) (hs : X.stack = X.env :: X.outer) (hf : X.env.frame = some X.env.locals) (hN : X.N.Nodup)
    (hb : ∀ (Wc : WX) (pn : List (Addr × Obj)) (xe : Value → Shared → Prop), Takes (X.tr pn xe) Wc → PassesOwn (model X.prog X.w) X.A X.env xe → PSs (X.tr pn xe) body (liftSX W X.K Wc t))
    (hn1 : Names X x1 (.ref C1)) (hn2 : Names X x2 (.ref C2)) (e11 : PySem.W.exmOne X.K (.ref C1) (.ref C1) = some true) (e21 : PySem.W.exmOne X.K (.ref C2) (.ref C1) = some false) (e22 : PySem.W.exmOne X.K (.ref C2) (.ref C2) = some true)
    (hi : X.N[i]? = some y := by rfl) (hx : Loc X.env.scope y := by first | exact Or.inl rfl | exact Or.inr rfl) (hw1 : swapsWith (.Constant (.str s1) k1 c1) (some (.Name y q1)) a1.line X.env = pure false := by rfl) (hw2 : swapsWith (.Constant (.str s2) k2 c2) (some (.Name y q2)) a2.line X.env = pure false := by rfl)
    (hfn : X.fn y = true ∨ X.env.scope.names.lookup y = some .local := by first | exact .inl rfl | exact .inr rfl | assumption) :
    SD W X (.Try body [.ExceptHandler (some (.Name x1 n1)) none [.Assign [.Name y q1] (.Constant (.str s1) k1 c1) a1] h1, .ExceptHandler (some (.Name x2 n2)) none [.Assign [.Name y q2] (.Constant (.str s2) k2 c2) a2] h2] [] [] pos) (dTry i s1 s2 C1 C2 t) := by
  have hds : HdsOk X [.ExceptHandler (some (.Name x1 n1)) none [.Assign [.Name y q1] (.Constant (.str s1) k1 c1) a1] h1, .ExceptHandler (some (.Name x2 n2)) none [.Assign [.Name y q2] (.Constant (.str s2) k2 c2) a2] h2]
      [(.ref C1, fun _ _ _ => liftS W X.K (dSet i (dC (.str s1)))), (.ref C2, fun _ _ _ => liftS W X.K (dSet i (dC (.str s2))))] :=
    .cons hn1 (fun a oe cls d pn _ _ => bd_one (sd_set (X := X.suite a ((a, oe) :: pn)) i hN ed_str hi hx hw1 hfn)) (.cons hn2 (fun a oe cls d pn _ _ => bd_one (sd_set (X := X.suite a ((a, oe) :: pn)) i hN ed_str hi hx hw2 hfn)) .nil)
  refine (ps_try_many hs hf takes_none5 hb hds).weak fun F σ H h => ?_
  obtain ⟨ρ, E, er, ⟨hl, q⟩, ok⟩ := h
  refine ⟨ρ, E, _, er, q, ok, fun c d H' e yc => ?_⟩
  have er' := er.mono (Stp.of e)
  have ok' := ok.keep (er.keep (Stp.of e))
  rcases yc with ⟨rfl, z⟩ | ⟨rfl, z⟩
  · exact ⟨true, e11, fun _ a _ => ⟨ρ, E, er', ⟨hl, z⟩, ok'⟩, fun z => nomatch z⟩
  · exact ⟨false, e21, (fun z => nomatch z), fun _ => ⟨true, e22, fun _ a _ => ⟨ρ, E, er', ⟨hl, z⟩, ok'⟩, fun z => nomatch z⟩⟩
end
end DL
end

section
set_option Elab.async false
set_option linter.all false
set_option maxRecDepth 100000
set_option maxHeartbeats 4000000
namespace SA
open PySem PySem.Spec PyProof.Rows L2 DL RM
local macro_rules | `(tactic| walk_at "rd") => `(tactic| repeat (first | refine ⟨_, rfl, ?_⟩ | refine ⟨rfl, ?_⟩ | refine ⟨_, _, rfl, ?_⟩ | refine ⟨_, _, rfl, rfl, ?_⟩ | refine ⟨_, _, _, rfl, rfl, ?_⟩ | refine ⟨_, _, _, rfl, ?_⟩ | refine ⟨_, _, _, _, rfl, ?_⟩ | refine ⟨_, _, _, _, _, _, rfl, ?_⟩ | refine And.intro (by assumption) ?_ | refine And.intro (by decide : _ ∉ _) ?_ | refine iteT ?_ | refine iteF ?_))
section
variable {P : Program} {w : World} {K : PySem.W.Frag} {mg : Str → Option Value} {base : Heap} {f : Addr} {fd : FuncData}
theorem ok_law_called (F : Fun K "_law_called" "_law_called" s_law_called f fd) (G_can_come_to : Cal P w K mg base (L2.CX P w) 10 "can_come_to" (spP K S_can_come_to)) (G_belt_of : Cal P w K mg base (L2.CX P w) 9 "belt_of" (spP K S_belt_of))
    (G_heights_of : Cal P w K mg base (L2.CX P w) 9 "heights_of" (spP K S_heights_of)) (G_height_poses : Cal P w K mg base (L2.CX P w) 9 "height_poses" (spP K S_height_poses)) (G_below_pose : Cal P w K mg base (L2.CX P w) 10 "below_pose" (spP K S_below_pose))
    (B_BadPlace : Bad P K mg C_BadPlace s_BadPlace_init "BadPlace") (B_BadSpot : Bad P K mg C_BadSpot s_BadSpot_init "BadSpot") (e11 : PySem.W.exmOne K (.ref C_BadPlace) (.ref C_BadPlace) = some true) (e21 : PySem.W.exmOne K (.ref C_BadSpot) (.ref C_BadPlace) = some false) (e22 : PySem.W.exmOne K (.ref C_BadSpot) (.ref C_BadSpot) = some true) :
    FnOk P w K mg base CX0 11 f fd ["_law_act", "_law_arms", "_law_place", "_law_spot"] (spP K S_law_called) := by
  refine fnP F sc_law_called (by intro ds Q E h; unfold S_law_called at h; repeat (first | (obtain ⟨rfl, _⟩ := h; rfl) | (obtain ⟨_, h⟩ := h))) fun cdv A outer sh H E W hr eW => ⟨_,
    bd_cons (sd_set 4 sc_law_called.nd ed_str) (bd_cons (sd_try2 4 rfl rfl sc_law_called.nd (fun Wc pn xe tk _ =>
      sx_one (sx_if (by rw [eW]) (td_eq (ed_var 0) ed_int) (sx_one (sx_call (by rw [eW]) tk G_can_come_to hr (by decide) (by rfl) (ad_cons (ed_var 1) (ad_cons (ed_var 2) (ad_cons (ed_var 3) ad_nil)))))
      (sx_one (sx_if (by rw [eW]) (td_eq (ed_var 0) ed_int) (sx_one (sx_call (by rw [eW]) tk G_belt_of hr (by decide) (by rfl) (ad_cons (ed_var 1) (ad_cons (ed_var 2) ad_nil))))
      (sx_one (sx_if (by rw [eW]) (td_eq (ed_var 0) ed_int) (sx_one (sx_call (by rw [eW]) tk G_heights_of hr (by decide) (by rfl) (ad_cons (ed_var 1) (ad_cons (ed_var 2) ad_nil))))
      (sx_one (sx_if (by rw [eW]) (td_eq (ed_var 0) ed_int) (sx_one (sx_call (by rw [eW]) tk G_height_poses hr (by decide) (by rfl) (ad_cons (ed_var 1) (ad_cons (ed_var 2) ad_nil))))
      (sx_one (sx_if (by rw [eW]) (td_eq (ed_var 0) ed_int) (sx_one (sx_call (by rw [eW]) tk G_below_pose hr (by decide) (by rfl) (ad_cons (ed_var 1) (ad_cons (ed_var 2) (ad_cons (ed_tup (ad_cons (ed_neg ed_int) (ad_cons (ed_tup (ad_cons ed_int (ad_cons ed_int ad_nil))) ad_nil))) ad_nil)))))
      (sx_one (sx_call (by rw [eW]) tk G_below_pose hr (by decide) (by rfl) (ad_cons (ed_var 1) (ad_cons (ed_tup (ad_cons (ed_neg ed_int) (ad_cons (ed_tup (ad_cons ed_int (ad_cons ed_int ad_nil))) ad_nil))) (ad_cons (ed_var 2) ad_nil)))))))))))))))
      ⟨by rfl, by decide, .inl B_BadPlace.m⟩ ⟨by rfl, by decide, .inl B_BadSpot.m⟩ e11 e21 e22) (bd_one (sd_ret (ed_var 4)))), ?_⟩
  rintro ds Q EQ ⟨act, bs, n, x, s, rfl, a0, a5, hb, ⟨h3s, hsp⟩, h⟩
  have pz : PlaceOk bs ((-1, 0) : Place) := ⟨by decide, by show (-1 : Int) < bs.length; omega, Z.zero.mono (by decide)⟩
  have ez : itemsD (D.tup [.int (-1), .tup [.int 0, .int 1]]) = some [.int ((-1, 0) : Place).1, ratD ((-1, 0) : Place).2] := rfl
  walk_at "rd"
  have ha : act = 0 ∨ act = 1 ∨ act = 2 ∨ act = 3 ∨ act = 4 ∨ act = 5 := by omega
  rcases ha with rfl | rfl | rfl | rfl | rfl | rfl
  · walk_at "rd"
    rcases h with ⟨p, e, h3, hp, q⟩ | ⟨h3, hp, q⟩
    · refine .inl ⟨p, e, h3, hp, ?_⟩
      cases hs : spotQ s with
      | false =>
        rw [if_pos ⟨rfl, hs⟩] at q
        refine .inr ⟨h3s, hs, .inr ⟨rfl, ?_⟩⟩
        walk_at "rd"
        exact q
      | true =>
        rw [if_neg (fun z => by rw [hs] at z; exact nomatch z.2)] at q
        obtain ⟨a, b, es, ba, bb⟩ := hsp hs
        refine .inl ⟨a, b, es, h3s, ba, bb, ?_⟩
        walk_at "rd"
        exact q
    · refine .inr ⟨h3, hp, .inl ⟨rfl, ?_⟩⟩
      walk_at "rd"
      exact q
  · walk_at "rd"
    rcases h with ⟨p, e, h3, hp, q⟩ | ⟨h3, hp, q⟩
    · refine .inl ⟨p, e, h3, hp, ?_⟩
      rw [if_neg (fun z => absurd z.1 (by decide))] at q
      walk_at "rd"
      exact q
    · refine .inr ⟨h3, hp, .inl ⟨rfl, ?_⟩⟩
      walk_at "rd"
      exact q
  · walk_at "rd"
    rcases h with ⟨p, e, h3, hp, q⟩ | ⟨h3, hp, q⟩
    · refine .inl ⟨p, e, h3, hp, ?_⟩
      rw [if_neg (fun z => absurd z.1 (by decide))] at q
      walk_at "rd"
      exact q
    · refine .inr ⟨h3, hp, .inl ⟨rfl, ?_⟩⟩
      walk_at "rd"
      exact q
  · walk_at "rd"
    rcases h with ⟨p, e, h3, hp, q⟩ | ⟨h3, hp, q⟩
    · refine .inl ⟨p, e, h3, hp, ?_⟩
      rw [if_neg (fun z => absurd z.1 (by decide))] at q
      walk_at "rd"
      exact q
    · refine .inr ⟨h3, hp, .inl ⟨rfl, ?_⟩⟩
      walk_at "rd"
      exact q
  · walk_at "rd"
    rcases h with ⟨p, e, h3, hp, q⟩ | ⟨h3, hp, q⟩
    · refine .inl ⟨p, e, h3, hp, .inl ⟨(-1, 0), ez, rfl, pz, ?_⟩⟩
      rw [if_neg (fun z => absurd z.1 (by decide))] at q
      walk_at "rd"
      exact q
    · refine .inr ⟨h3, hp, .inl ⟨rfl, ?_⟩⟩
      walk_at "rd"
      exact q
  · walk_at "rd"
    refine .inl ⟨(-1, 0), ez, rfl, pz, ?_⟩
    rcases h with ⟨p, e, h3, hp, q⟩ | ⟨h3, hp, q⟩
    · refine .inl ⟨p, e, h3, hp, ?_⟩
      rw [if_neg (fun z => absurd z.1 (by decide))] at q
      walk_at "rd"
      exact q
    · refine .inr ⟨h3, hp, .inl ⟨rfl, ?_⟩⟩
      walk_at "rd"
      exact q
end
end SA
end

section
set_option Elab.async false
set_option linter.all false
set_option maxRecDepth 100000
set_option maxHeartbeats 4000000

namespace DL
open PySem PySem.Spec PyProof.Rows L2 PpSet
section
variable {X : Cx}
/-- the turns of the block: what holds ahead of turn i with m turns at most to come -/
structure TurnsI (w : World) (J : It) (g : TG) (tt : TT) (te : TE) (σ : L2.St) (vs : List Nat) (D : Addr) (Q : VK) (Wt : Nat → Nat → Hp → Prop) : Prop where
  turn : ∀ i m H, Wt i m H → (J.stop i H ∧ Q (.ref D) H) ∨ (J.go i H ∧ ∃ Nx : Hp → Prop, (∀ H', Nx H' → ∃ m', m' < m ∧ Wt (i + 1) m' H') ∧
    ∀ x H', J.yld i H x H' → g x (wipe σ vs) H' fun σ2 H2 => wipe σ2 vs = wipe σ vs ∧ tt σ2 H2 fun b H3 =>
      if b = true then te σ2 H3 fun y H4 => ∃ (c : Int) (S : Int → Bool) (n : Nat), y = .int c ∧ H4 D = some (SetO w D S n) ∧ n + 1 < scanBound ∧ Nx (upd H4 D (SetO w D (fun j => S j || decide (j = c)) (if S c = true then n else n + 1))) else Nx H3)
def tScI (w : World) (wi : TI) (g : TG) (tt : TT) (te : TE) (vs : List Nat) : TE := fun σ H Q => wi σ H fun J H1 => ∀ D, H1 D = none → ∃ Wt, (∃ m, Wt 0 m (upd H1 D (SetO w D (fun _ => false) 0))) ∧ TurnsI w J g tt te σ vs D Q Wt
variable {elt tg iter : Expr} {ifs : List Expr} {scope : Scope} {own : List (Str × Nat)} {pos : Pos} {wi : TI} {g : TG} {tt : TT} {te : TE}
theorem pe_scI (hc : X.calm = true) (hN : X.N.Nodup) (hi : PI X tg iter wi) (ok : BlkOk X.N X.env.scope scope own)
    (hg : ∀ (s : Shared) (H : Hp) (C : Addr) (cl : List (Str × Addr)) (fp : List Addr), PG (X.blk s H scope (compEnvC scope cl C X.env) fp) tg g)
    (ht : ∀ (s : Shared) (H : Hp) (C : Addr) (cl : List (Str × Addr)) (fp : List Addr), PTs (X.blk s H scope (compEnvC scope cl C X.env) fp) ifs tt)
    (he : ∀ (s : Shared) (H : Hp) (C : Addr) (cl : List (Str × Addr)) (fp : List Addr), PE (X.blk s H scope (compEnvC scope cl C X.env) fp) elt te)
    (hs : ∀ x, foldedSetIterable iter X.env x = pure x := by intro _; rfl) : PE X (.SetComp elt [⟨tg, iter, ifs, 0⟩] scope pos) (tScI X.w wi g tt te (own.map (·.2))) := by
  refine ⟨fun pins s σ H Q I h => ?_⟩
  rw [eval_SetComp]
  have hfree : ∀ y ∈ scope.names, y.2 = .free → ∃ c, X.env.cells.lookup y.1 = some c := fun y hy e => (ok.free y hy e).elim (fun k => I.ok.has _ (.inl k)) fun k => I.ok.has _ (.inr k)
  refine wpAny_comprehension_free (use := none) rfl hs (closure_ok hfree) ok.kind (fun y hy e => by rw [ok.uniq y hy, e])
    (thn (hi.run pins s σ H _ I h) fun xv s1 hx => thn hx fun itv s2 ⟨it, fp, tn, J, H2, e, I2, T, st2, f2, q⟩ => ?_)
  subst e
  refine newSet_ok (newEnv_comp ?_)
  -- the new set, at the heap's end
  obtain ⟨D, hD⟩ : ∃ D, D = s2.heap.objs.size := ⟨_, rfl⟩
  obtain ⟨Wt, ⟨m0, w0⟩, tu⟩ := q D (I2.hok.fresh (Nat.le_of_eq hD.symm))
  obtain ⟨s3, hs3⟩ : ∃ s3 : Shared, s3 = { s2 with heap := s2.heap.push { cls := .type "set", dict := none, data := .set #[] 0 (.fresh 0 0 (!X.w.params.followText "set-order")) } } := ⟨_, rfl⟩
  obtain ⟨H3, hH3⟩ : ∃ H3, H3 = upd H2 D (SetO X.w D (fun _ => false) 0) := ⟨_, rfl⟩
  have grew : ∀ b o, s2.heap.get? b = some o → s3.heap.get? b = some o := fun b o e => by rw [hs3]; exact Heap.get?_push_of_some _ e
  have I3 : Inv X pins σ H3 s3 := by
    rw [hH3, hs3]
    exact I2.laid (t' := s2.toks) (fun b o e => Heap.get?_push_of_some _ e) (Nat.le_of_eq hD.symm) (by rw [hD]; exact setO_new (setR_fresh X.w))
  have f3 : ∀ b ∈ fp, FpOk X pins H3 b ∧ b < s3.heap.objs.size := fun b hb => by
    obtain ⟨o, e, _⟩ := T.obj _ _ st2 b hb
    have hlt := Heap.lt_size e
    have n3 : H3 b = none := by
      rw [hH3, upd_ne (by rw [hD]; exact Nat.ne_of_lt hlt)]
      exact (f2 b hb).1
    exact ⟨⟨n3, (f2 b hb).2⟩, Heap.lt_size (grew b o e)⟩
  have I4 := block_start I3 ok hN f3
  rw [← hH3] at w0
  rw [← hD, ← hs3]
  have pg := hg s3 H3 s3.heap.objs.size (cellsFrom (s3.heap.objs.size + 1) scope.names (cloFrom X.env.cells scope.names [])) fp
  have pt := ht s3 H3 s3.heap.objs.size (cellsFrom (s3.heap.objs.size + 1) scope.names (cloFrom X.env.cells scope.names [])) fp
  have pe := he s3 H3 s3.heap.objs.size (cellsFrom (s3.heap.objs.size + 1) scope.names (cloFrom X.env.cells scope.names [])) fp
  show codeAny _ _ (.compStart (.SetComp elt [⟨tg, iter, ifs, 0⟩] scope pos) 0 (.ref it) (.ref D) (compEnvC scope (cellsFrom (s3.heap.objs.size + 1) scope.names (cloFrom X.env.cells scope.names [])) s3.heap.objs.size X.env)) (compPost (model X.prog X.w) X.A X.xe none _ (.ref D) s3.heap.objs.size) { s3 with heap := pushCells (s3.heap.push { cls := .type "dict", data := .dict #[] }) scope.names }
  generalize hce : compEnvC scope (cellsFrom (s3.heap.objs.size + 1) scope.names (cloFrom X.env.cells scope.names [])) s3.heap.objs.size X.env = ce at I4 pg pt pe ⊢
  have cL : ce.locals = s3.heap.objs.size := by subst hce; rfl
  obtain ⟨s4, hs4⟩ : ∃ s4 : Shared, s4 = { s3 with heap := pushCells (s3.heap.push { cls := .type "dict", data := .dict #[] }) scope.names } := ⟨_, rfl⟩
  rw [← hs4] at I4 ⊢
  have st4 : tn 0 s4.heap := T.keep _ _ _ st2 fun b _ o e => by rw [hs4]; exact pushCells_keeps _ _ _ _ (Heap.get?_push_of_some _ (grew b o e))
  have stat : ∀ {σ' : L2.St} {H' : Hp} {s' : Shared}, Inv (X.blk s3 H3 scope ce fp) [] σ' H' s' → (∀ b ∈ fp, H' b = none) → ∀ b ∈ fp, FpOk (X.blk s3 H3 scope ce fp) [] H' b := fun {σ' H' s'} I' hn b hb =>
    ⟨hn b hb, (I'.ok.exf b hb).1, I'.ok.exfs b hb, .inl hb, fun x c e => (I'.ok.exf b hb).2 x c e, fun p hp => absurd (show p ∈ ([] : List (Addr × Obj)) ++ [] from hp) (by simp)⟩
  have loop : codeAny (model X.prog X.w) X.A (.compLoop (.SetComp elt [⟨tg, iter, ifs, 0⟩] scope pos) 0 (.ref it) (.ref D) ce) (compPost (model X.prog X.w) X.A X.xe none (EP X pins σ Q) (.ref D) s3.heap.objs.size) s4 := by
    refine compLoopS_any (fun n s' => ∃ i H', Inv (X.blk s3 H3 scope ce fp) [] (wipe σ (own.map (·.2))) H' s' ∧ tn i s'.heap ∧ (∀ b ∈ fp, H' b = none) ∧ Wt i n H') ?_ m0 ⟨0, H3, I4, st4, fun b hb => (f3 b hb).1.1, w0⟩
    rintro n s5 ⟨i, H5, I5, st5, n5, w5⟩
    rcases tu.turn i n H5 w5 with ⟨stop, qq⟩ | ⟨go, Nx, hNx, step⟩
    · refine thnF (T.done (X.blk s3 H3 scope ce fp) rfl rfl rfl hc i [] s5 _ H5 (fun _ _ => False) I5 (stat I5 n5) st5 stop) fun r s6 ⟨hr, I6⟩ => ?_
      subst hr
      have I7 : Inv X pins σ H5 s6 := I3.call' (ch := fp) I6.os I6.base I6.hok I6.bare fun b hb => ⟨(f3 b hb).1.2.2.2.1, (f3 b hb).1.2.1, (f3 b hb).1.2.2.2.2.1, (f3 b hb).1.2.2.2.2.2⟩
      obtain ⟨m, hn, _⟩ := I6.loc
      have hn : s6.heap.Ns ce.locals m := hn
      have nC : H5 ce.locals = none := I6.free
      rw [cL] at hn nC
      refine ⟨m, hn, fun h'' sb => ?_⟩
      obtain ⟨f0, f1, f2, f3, f4, f5⟩ := I3.fpOk (Nat.le_refl _) nC
      exact ⟨.ref D, H5, I7.turned (t' := s6.toks) (fun b o hb e => (sb.2 b hb).trans e) f0 f1 f3 f4 f5, rfl, qq⟩
    · refine thnF (T.item (X.blk s3 H3 scope ce fp) rfl rfl rfl hc i [] s5 _ H5 (fun _ _ => False) I5 (stat I5 n5) st5 go) fun r s6 ⟨u, hr, h6⟩ => ?_
      subst hr
      refine thnF h6 fun _ s7 ⟨x, H7, I7, r7, y7, st7, n7⟩ => ?_
      refine thnF (pg.run _ s7 _ H7 x u _ (I7.pinned (stat I7 n7) (T.obj _ _ st7)) r7 (step x H7 y7)) fun _ s8 ⟨σ8, H8, I8, hw8, q8⟩ => ?_
      refine thnF (pt.run _ s8 σ8 H8 _ I8 q8) fun b s9 ⟨H9, I9, q9⟩ => ?_
      have fin : ∀ {s' : Shared} {H' : Hp}, Inv (X.blk s3 H3 scope ce fp) ([] ++ pinsAt fp s7.heap) σ8 H' s' → Nx H' → ∃ m, m < n ∧ ∃ i H', Inv (X.blk s3 H3 scope ce fp) [] (wipe σ (own.map (·.2))) H' s' ∧ tn i s'.heap ∧ (∀ b ∈ fp, H' b = none) ∧ Wt i m H' := fun {s' H'} I' nx => by
        obtain ⟨m', hm, w'⟩ := hNx H' nx
        have pin' : ∀ b ∈ fp, ∀ o, s7.heap.get? b = some o → s'.heap.get? b = some o ∧ H' b = none := fun b hb o e =>
          have z := I'.pin (b, o) (List.mem_append_right _ (List.mem_append_right _ (mem_pinsAt hb e)))
          ⟨z.1, z.2.1⟩
        refine ⟨m', hm, i + 1, H', (I'.unpinned (pins := [])).weak (by rw [← hw8, wipe_length]) (fun j v e => ?_), T.keep _ _ _ st7 fun b hb o e => (pin' b hb o e).1, fun b hb => ?_, w'⟩
        · rw [← hw8] at e
          exact (wipe_some e).1
        · obtain ⟨o, e, _⟩ := T.obj _ _ st7 b hb
          exact (pin' b hb o e).2
      cases b with
      | false =>
        simp only [Bool.false_eq_true, if_false] at q9 ⊢
        exact fin I9 q9
      | true =>
        simp only [if_true] at q9 ⊢
        refine thnF (pe.run _ s9 σ8 H9 _ I9 q9) fun z s10 ⟨yv, H10, I10, r10, c, S0, n0, ey, hD10, hz10, nx⟩ => ?_
        subst ey
        refine thnF (mt_sadd (X := X.blk s3 H3 scope ce fp) _ s10 σ8 H10 (.ref D) [.int c] (.ref D) [z] (fun v H' => v = .non ∧ Nx H') I10 rfl (.cons r10 .nil) ⟨D, c, S0, n0, rfl, rfl, hD10, hz10, rfl, nx⟩) fun v s11 ⟨v', H11, I11, _, _, nx'⟩ => fin I11 nx'
  exact codeAny_compStart_set loop (T.self X.A 0 _ _ _ st4 loop)
end

def scL (ok : D → Prop) (f : D → Env) (tt : DT) (te : DE) : List D → List Int → (List Int → Prop) → Prop
  | [], ks, Q => Q ks
  | x :: xs, ks, Q => ok x ∧ tt (f x) fun b => if b = true then te (f x) fun y => ∃ c, y = .int c ∧ ks.length < 60 ∧ scL ok f tt te xs (ks ++ [c]) Q else scL ok f tt te xs ks Q
def dSSc (ok : D → Prop) (f : Env → D → Env) (n : Nat) (t : DA) (tt : DT) (te : DE) : DA := fun ρ Q => t ρ fun xs => Nat.ble n ρ.length = true ∧ scL ok (f ρ) tt te xs [] fun ks => ∀ ns : List Int, ns.Pairwise (· < ·) → (∀ k, k ∈ ns ↔ k ∈ ks) → Q (ns.map D.int)
section
variable {W : Wd} {X : Cx} {elt tg iter : Expr} {ifs : List Expr} {scope : Scope} {own : List (Str × Nat)} {p spos pos : Pos} {t : DA} {tt : DT} {te : DE} {ok : D → Prop} {f : Env → D → Env} {n : Nat} {g : TG}
theorem eo_sortedSc (hd : W.hd = none) (hc : X.calm = true) (hN : X.N.Nodup) (hi : ID W X tg iter t) (bo : BlkOk X.N X.env.scope scope own) (hG : TgOk W X.K ok f n (own.map (·.2)) g)
    (hg : ∀ (s : Shared) (H : Hp) (C : Addr) (cl : List (Str × Addr)) (fp : List Addr), PG (X.blk s H scope (compEnvC scope cl C X.env) fp) tg g)
    (ht : ∀ (s : Shared) (H : Hp) (C : Addr) (cl : List (Str × Addr)) (fp : List Addr), PTs (X.blk s H scope (compEnvC scope cl C X.env) fp) ifs (liftT W X.K tt))
    (he : ∀ (s : Shared) (H : Hp) (C : Addr) (cl : List (Str × Addr)) (fp : List Addr), PE (X.blk s H scope (compEnvC scope cl C X.env) fp) elt (lift W X.K te))
    (hg2 : Gl X "sorted") (hm2 : X.mg "sorted" = none) (hv2 : bootBuiltins "sorted" = some (.builtin "sorted"))
    (hs : ∀ x, foldedSetIterable iter X.env x = pure x := by intro _; rfl)
    (h1 : starEach [.SetComp elt [⟨tg, iter, ifs, 0⟩] scope spos] X.env = (false, eval (.SetComp elt [⟨tg, iter, ifs, 0⟩] scope spos) X.env) :: starEach [] X.env := by rfl) (h2 : (backTo pos (starEach [] X.env)).any (·.1) = false := by rfl) :
    EO W X (.Call (.Name "sorted" p) [.SetComp elt [⟨tg, iter, ifs, 0⟩] scope spos] [] pos) (dSSc ok f n t tt te) :=
  (pe_callB (cr_sortedSet hc) hg2 hm2 hv2 (pa_cons (pe_scI hc hN hi bo hg ht he hs) pa_nil h1) (by decide) (by decide) h1 h2).weak fun σ H k h => by
  obtain ⟨ρ, Q, er, q, kk⟩ := h
  refine ⟨ρ, _, er, q, fun J H1 xs s1 wk ⟨hn, q1⟩ D hD => ?_⟩
  have er1 := er.mono s1
  have st : ∀ {H H' : Hp}, Stp W.hd H H' → Ext H H' := fun s => by rw [hd] at s; exact s
  have ts : ∀ {H H' : Hp}, Ext H H' → Stp W.hd H H' := fun s => by rw [hd]; exact s
  refine ⟨fun i m H' => ∃ ks S cnt, Ext H1 H' ∧ H' D = some (SetO X.w D S cnt) ∧ (∀ k, S k = true ↔ k ∈ ks) ∧ cnt ≤ ks.length ∧ ks.length ≤ 60 ∧ m = xs.length - i ∧ scL ok (f ρ) tt te (xs.drop i) ks fun ks => ∀ ns : List Int, ns.Pairwise (· < ·) → (∀ k, k ∈ ns ↔ k ∈ ks) → Q (ns.map DL.D.int),
    ⟨xs.length, [], fun _ => false, 0, Ext.new hD, upd_same, fun k => by simp, Nat.le_refl _, by decide, by simp, by simpa using q1⟩, ⟨?_⟩⟩
  rintro i m H' ⟨ks, S, cnt, e2, hS, hk, hcn, hkl, rfl, cl⟩
  have s2 := ts e2
  obtain ⟨w1, w2⟩ := wk i H' (er1.keep s2)
  by_cases hi : i < xs.length
  · have ex : xs[i]? = some xs[i] := List.getElem?_eq_getElem hi
    obtain ⟨go, yl⟩ := w1 _ ex
    rw [List.drop_eq_getElem_cons hi] at cl
    obtain ⟨okx, cl⟩ := cl
    refine .inr ⟨go, fun H2 => ∃ ks S cnt, Ext H1 H2 ∧ H2 D = some (SetO X.w D S cnt) ∧ (∀ k, S k = true ↔ k ∈ ks) ∧ cnt ≤ ks.length ∧ ks.length ≤ 60 ∧ scL ok (f ρ) tt te (xs.drop (i + 1)) ks fun ks => ∀ ns : List Int, ns.Pairwise (· < ·) → (∀ k, k ∈ ns ↔ k ∈ ks) → Q (ns.map DL.D.int),
      fun H2 ⟨ks, S, cnt, a1, a2, a3, a4, a5, a6⟩ => ⟨xs.length - (i + 1), by omega, ks, S, cnt, a1, a2, a3, a4, a5, rfl, a6⟩, fun v H2 y => ?_⟩
    obtain ⟨ex2, rv⟩ := yl v H2 y
    have er2 := er1.mono (ts (e2.trans ex2))
    refine hG _ v σ H2 ρ _ (Nat.le_of_ble_eq_true hn) er2 rv okx fun σ2 hw er3 => ⟨hw, f ρ xs[i], _, er3, cl, fun b H3 s4 q4 => ?_⟩
    have e4 := st s4
    cases b with
    | false => exact iteF ⟨ks, S, cnt, (e2.trans ex2).trans e4, e4 _ _ (ex2 _ _ hS), hk, hcn, hkl, by simpa using q4⟩
    | true =>
      have q5 : te (f ρ xs[i]) fun y => ∃ c, y = .int c ∧ ks.length < 60 ∧ scL ok (f ρ) tt te (xs.drop (i + 1)) (ks ++ [c]) fun ks => ∀ ns : List Int, ns.Pairwise (· < ·) → (∀ k, k ∈ ns ↔ k ∈ ks) → Q (ns.map DL.D.int) := by simpa using q4
      refine iteT ⟨f ρ xs[i], _, er3.mono s4, q5, fun u H4 y s6 ru ⟨c, ec, hl, q6⟩ => ?_⟩
      subst ec
      have e6 := st s6
      have hS4 : H4 D = some (SetO X.w D S cnt) := e6 _ _ (e4 _ _ (ex2 _ _ hS))
      have eAll := ((e2.trans ex2).trans e4).trans e6
      refine ⟨c, S, cnt, ru.int_inv, hS4, ?_, ks ++ [c], _, _, fun a o ea => ?_, upd_same, fun k => ?_, ?_, ?_, q6⟩
      · have : (200 : Nat) < scanBound := by decide
        omega
      · have ne : a ≠ D := fun z => by rw [z, hD] at ea; cases ea
        rw [upd_ne ne]
        exact eAll a o ea
      · rw [Bool.or_eq_true, decide_eq_true_eq, hk k, List.mem_append, List.mem_singleton]
      · rw [List.length_append, List.length_singleton]
        split <;> omega
      · rw [List.length_append, List.length_singleton]; omega
  · rw [List.drop_of_length_le (by omega)] at cl
    refine .inl ⟨w2 (by omega), ?_⟩
    refine ⟨D, S, cnt, rfl, hS, by omega, fun ns pl hp hm hln hpn => ?_⟩
    exact kk pl _ _ (ns.map DL.D.int) (ts ((st s1).trans (e2.trans (Ext.new hpn)))) (by cases z : H pl with | none => rfl | some o => (have y := (st s1).trans e2 _ _ z; rw [hpn] at y; cases y)) upd_same (Off.upd (ts e2 |> fun s => s.hand er1.hand) hpn) (Reps.map_int ns) (cl ns hp fun k => (hm k).trans (hk k))
end
end DL
end

section
set_option Elab.async false
set_option linter.all false
set_option maxRecDepth 100000
set_option maxHeartbeats 4000000

namespace PySem
open PySem.Calls
theorem meets_enum1 {v : Value} {o : Obj} {H : Heap → Prop} (B : Begins v o H) :
    Meets (Builtin.«enumerate.__new__» ⟨[.type "enumerate", v], []⟩) (fun _ R s => H s.heap ∧
      R (.ok (.ret (.ref (s.heap.push o).objs.size))) { s with heap := (s.heap.push o).push { cls := .type "enumerate", data := .fields #[.none, .bool false, .ref s.heap.objs.size, rawInt 0, .none, .none] } }) :=
  .of_wp fun prog w A R s h => by
    obtain ⟨hp, g, d, tk, os⟩ := s
    obtain ⟨h1, h⟩ := h
    have hsub := sub_enumerate
    have q1 : ∀ {A' : Around} {E : Value → Shared → Prop} {Q : Value → Shared → Prop}, Q (.ref hp.objs.size) ⟨hp.push o, g, d, tk, os⟩ → wpAny (model prog w) A' (pyIter v) Q E ⟨hp, g, d, tk, os⟩ :=
      fun q => B.iter prog w _ _ ⟨hp, g, d, tk, os⟩ _ h1 q
    wp_walk using q1
    refine wpAny_stack_any fun st => wpAny_pure ?_
    split
    · rename_i c _ _ _ _ _
      cases (c == Value.type "enumerate")
      · wp_walk using q1
        exact ⟨_, rfl, h⟩
      · wp_walk using q1
        exact ⟨_, rfl, h⟩
    · wp_walk using q1
      exact ⟨_, rfl, h⟩
theorem enum_of {prog : Program} {w : World} {A : Around} {E : Value → Shared → Prop} {s : Shared} {v : Value} {o : Obj} {H : Heap → Prop} {Q : Value → Shared → Prop} (B : Begins v o H) (h1 : H s.heap)
    (h : ∀ h', IsEnum h' (s.heap.objs.size + 1) s.heap.objs.size 0 .none → h'.get? s.heap.objs.size = some o → (∀ b o, s.heap.get? b = some o → h'.get? b = some o) → Q (.ref (s.heap.objs.size + 1)) { s with heap := h' }) :
    wpAny (model prog w) A (call (.type "enumerate") [v]) Q E s := by
  refine callType_new F.called_enumerate (by decide) (F.typeCall_enumerate_1 _) (F.newCall_enumerate_1 _) (fun obj => F.args_object_init_2 obj _) F.entry_enumerate_new (meets_enum1 B) ⟨h1, ?_⟩
  have hz : (s.heap.push o).objs.size = s.heap.objs.size + 1 := Heap.size_push ..
  show _ ∧ _
  rw [hz]
  have he : IsEnum ((s.heap.push o).push { cls := .type "enumerate", data := .fields #[.none, .bool false, .ref s.heap.objs.size, rawInt 0, .none, .none] }) (s.heap.objs.size + 1) s.heap.objs.size 0 .none := by
    have := Heap.get?_push_size (s.heap.push o) (o := { cls := .type "enumerate", data := .fields #[.none, .bool false, .ref s.heap.objs.size, rawInt 0, .none, .none] }) rfl
    rw [hz] at this
    exact this
  exact ⟨⟨_, he, rfl⟩, h _ he (Heap.get?_push_of_some _ (Heap.get?_push_size _ B.free)) fun b o x => Heap.get?_push_of_some _ (Heap.get?_push_of_some _ x)⟩
end PySem
namespace DL
open PySem PySem.Spec PyProof.Rows L2
def IteT (K : PySem.W.Frag) (a : Addr) (n : Nat) : It :=
  ⟨fun i H => ∃ (xs : List V) (x : V), SqT K H a xs ∧ xs.length = n ∧ xs[i]? = some x, fun i H v H' => ∃ T x, v = .ref T ∧ H T = none ∧ H' = upd H T (.tup [.int (i : Nat), x]) ∧ ∀ xs, SqT K H a xs → xs[i]? = some x, fun i H => ∃ xs : List V, SqT K H a xs ∧ xs.length = n ∧ n ≤ i⟩
theorem apart3 {h : Heap} {e it a : Addr} {i : Int} {j : Nat} {old : Value} {its : Array Value} (he : IsEnum h e it i old) (hit : h.IsTupleIter it a j) (p : h.IsTuple a its) : a ≠ it ∧ e ∉ [it, a] := by
  obtain ⟨o, h1, h2, h3⟩ := hit
  obtain ⟨o2, g1, g2, _⟩ := p
  have he' : h.get? e = _ := he
  refine ⟨fun z => ?_, fun z => ?_⟩
  · rw [z, h1] at g1
    cases g1
    rw [h2] at g2
    exact absurd g2 (by decide)
  · rcases List.mem_cons.mp z with z | z
    · rw [z, h1] at he'
      cases he'
      exact absurd (show ("enumerate" : String) = "tuple_iterator" from Value.type.inj h2) (by decide)
    · rw [List.mem_singleton.mp z, g1] at he'
      cases he'
      exact absurd (show ("enumerate" : String) = "tuple" from Value.type.inj g2) (by decide)
theorem turn_enumT {P : Program} {w : World} {K : PySem.W.Frag} {elts : List Expr} {kk : Nat} {tpos : Pos} (a e it : Addr) (n : Nat) :
    Turn P w K (.Tuple elts kk tpos) (IteT K a n) [e, it] e (fun i h => (∃ old, IsEnum h e it ((i : Nat) : Int) old) ∧ h.IsTupleIter it a i ∧ e ≠ it ∧ i ≤ n) where
  mem := by simp
  obj := fun i h st b hb => by
    obtain ⟨⟨old, he⟩, ⟨o, ho, hc, hd⟩, _⟩ := st
    have e' : b = e ∨ b = it := by simpa using hb
    rcases e' with z | z
    · rw [z]; exact ⟨_, he, fun v q => nomatch q⟩
    · rw [z]; exact ⟨o, ho, fun v q => by rw [hd] at q; cases q⟩
  keep := fun i h h' st k => by
    obtain ⟨⟨old, he⟩, hi, hne, hn⟩ := st
    exact ⟨⟨old, k e (by simp) _ he⟩, hi.at fun o q => k it (by simp) o q, hne, hn⟩
  item := by
    intro X hP hw hK hc i pins s σ H E I hf st hg
    subst hP hw hK
    obtain ⟨⟨old, he⟩, hit, hne, hn⟩ := st
    obtain ⟨xs, x, hq, hxl, hx⟩ := hg
    obtain ⟨its, rv, p, hz⟩ := I.tuple hq
    obtain ⟨u, hu, ru⟩ := rv.get hx
    have p' : s.heap.IsTuple a its.toArray := p
    obtain ⟨n1, n2⟩ := apart3 he hit p'
    have hel : e < s.heap.objs.size := Heap.lt_size he
    have hil : it < s.heap.objs.size := by
      obtain ⟨_, q, _⟩ := hit
      exact Heap.lt_size q
    have hi : i < its.toArray.size := by
      have := (List.getElem?_eq_some_iff.mp hu).1
      simpa using this
    refine wpAny_pyNext_enum_itemC (Draws.tuple (A := X.A.in1) (I.ok.hd hc) it a n1 its.toArray) he ⟨hit, p'⟩ hi hne n2 fun x' h' tk hP ho hst hT hsz hk => ?_
    have ex : x' = u := by
      have : its.toArray[i]? = some x' := hP
      simp [hu] at this
      exact this.symm
    subst ex
    refine ⟨_, rfl, wpAny_letOwnedTupleGo_enum (s := { s with heap := h', toks := tk + 1 }) ho fun h'' he' sb => ?_⟩
    have hT2 : h''.get? s.heap.objs.size = some { cls := .type "tuple", data := .seq #[.int i tk, x'] } := (sb.2 _ (Nat.ne_of_gt hel)).trans hT
    have new : ObjOk X.prog X.w (upd H s.heap.objs.size (.tup [.int (i : Nat), x])) h'' s.heap.objs.size (.tup [.int (i : Nat), x]) :=
      ⟨by show 2 ≤ sizeLine; decide, [.int i tk, x'], .cons ⟨_, rfl⟩ (.cons ru .nil), ⟨_, hT2, rfl, _, rfl⟩⟩
    have I1 : Inv X pins σ (upd H s.heap.objs.size (.tup [.int (i : Nat), x])) { s with heap := h'', toks := tk + 1 } :=
      I.turnedNew (ch := [e, it]) (fun b ob hb q => (sb.2 b (fun z => hb (by simp [z]))).trans (hk b ob (fun z => hb (by simp [z])) (fun z => hb (by simp [z])) q)) hf (Nat.le_refl _) new
    refine ⟨.ref s.heap.objs.size, _, I1, rfl, ⟨_, x, rfl, I.hok.fresh (Nat.le_refl _), rfl, fun ys hy => by rw [I.tuple_inj hy hq]; exact hx⟩, ⟨⟨x', ?_⟩, hst.1.at fun o q => (sb.2 it (Ne.symm hne)).trans q, hne, ?_⟩, fun b hb => ?_⟩
    · have e1 : ((i + 1 : Nat) : Int) = (i : Int) + 1 := by omega
      rw [e1]
      exact he'
    · have := (List.getElem?_eq_some_iff.mp hx).1
      omega
    · have hb' : b < s.heap.objs.size := by
        have e' : b = e ∨ b = it := by simpa using hb
        rcases e' with z | z
        · rw [z]; exact hel
        · rw [z]; exact hil
      rw [upd_ne (Nat.ne_of_lt hb')]
      exact (hf b hb).1
  done := by
    intro X hP hw hK hc i pins s σ H E I hf st hg
    subst hP hw hK
    obtain ⟨⟨old, he⟩, hit, hne, hn⟩ := st
    obtain ⟨xs, hq, hxl, hx⟩ := hg
    obtain ⟨its, rv, p, hz⟩ := I.tuple hq
    have p' : s.heap.IsTuple a its.toArray := p
    obtain ⟨n1, n2⟩ := apart3 he hit p'
    obtain ⟨f0, f1, f2, f3, f4, f5⟩ := hf it (by simp)
    have hl := rv.length
    have hin : its.toArray.size = i := by
      simp
      omega
    exact wpAny_pyNext_enum_endD (Draws.tuple (A := X.A.in1) (I.ok.hd hc) it a n1 its.toArray) he ⟨by rw [hin]; exact hit, p'⟩ fun h' eb => ⟨rfl, I.turned (t' := s.toks) (fun b o hb q => eb b o hb q) f0 f1 f3 f4 f5⟩
  self := fun A i s Q E st h => by
    obtain ⟨⟨_, he⟩, _⟩ := st
    exact wpAny_pyIter_enum he h
def iEnumT (K : PySem.W.Frag) (ta : TA) : TI := fun σ H R => ta σ H fun vs H1 => ∃ a xs, vs = [.ref a] ∧ SqT K H1 a xs ∧ R (IteT K a xs.length) H1
theorem pi_enumT {X : Cx} {e : Expr} {ta : TA} {p pos tpos : Pos} {elts : List Expr} {kk : Nat} (hg : Gl X "enumerate") (hm : X.mg "enumerate" = none) (ha : PA X [e] ta) (hs : starEach [e] X.env = [(false, eval e X.env)] := by rfl) :
    PI X (.Tuple elts kk tpos) (.Call (.Name "enumerate" p) [e] [] pos) (iEnumT X.K ta) := by
  refine ⟨fun pins s σ H R I h => ?_⟩
  refine Call_ (ld_blt I hg hm boot_enumerate (PyProof.Rows.callWith_type1 (thn (ha.run pos pins s σ H _ I h) fun us s1 ⟨vs, H1, I1, r1, q1⟩ => ?_) hs rfl))
  obtain ⟨a, xs, ex, hq, q⟩ := q1
  subst ex
  cases r1 with
  | cons r rr =>
    cases rr
    cases r
    obtain ⟨its, rv, p', hz⟩ := I1.tuple hq
    refine PySem.enum_of (begins_tuple a its.toArray) (show s1.heap.IsTuple a its.toArray from p') fun h' he hit hk => wpAny_pyIter_enum he ?_
    have I2 : Inv X pins σ H1 { s1 with heap := h' } := I1.kept (t' := s1.toks) hk
    refine ⟨s1.heap.objs.size + 1, [s1.heap.objs.size + 1, s1.heap.objs.size], _, _, H1, rfl, I2, turn_enumT a (s1.heap.objs.size + 1) s1.heap.objs.size xs.length, ⟨⟨.none, he⟩, ⟨_, hit, rfl, rfl⟩, Nat.succ_ne_self _, Nat.zero_le _⟩, fun b hb => ?_, q⟩
    have e' : b = s1.heap.objs.size + 1 ∨ b = s1.heap.objs.size := by simpa using hb
    have hle : s1.heap.objs.size ≤ b := by
      rcases e' with z | z
      · rw [z]; exact Nat.le_add_right _ _
      · rw [z]; exact Nat.le_refl _
    exact I1.fpOk hle (I1.hok.fresh hle)
def pairs : Nat → List D → List D
  | _, [] => []
  | i, x :: xs => .tup [.int ((i : Nat) : Int), x] :: pairs (i + 1) xs
theorem pairs_get : ∀ (xs : List D) (j i : Nat), (pairs j xs)[i]? = (xs[i]?).map fun x => .tup [.int ((j + i : Nat) : Int), x]
  | [], _, _ => by simp [pairs]
  | x :: xs, j, 0 => rfl
  | x :: xs, j, i + 1 => by
    show (pairs (j + 1) xs)[i]? = _
    rw [pairs_get xs (j + 1) i, List.getElem?_cons_succ, show j + 1 + i = j + (i + 1) by omega]
theorem pairs_len : ∀ (xs : List D) (j : Nat), (pairs j xs).length = xs.length
  | [], _ => rfl
  | x :: xs, j => by
    show (pairs (j + 1) xs).length + 1 = _
    rw [pairs_len xs (j + 1)]; rfl
theorem walks_e {K : PySem.W.Frag} {H0 : Hp} {xs : List D} {p : Addr} {vs : List V} (st : SqT K H0 p vs) (rs : Reps K H0 xs vs) : Walks K (IteT K p vs.length) H0 (pairs 0 xs) := fun i H kp => by
  have st' := kp.sqT st
  have rs' := rs.mono kp
  refine ⟨fun x e => ?_, fun hi => ⟨vs, st', rfl, by rw [pairs_len, ← rs.len] at hi; exact hi⟩⟩
  rw [pairs_get] at e
  obtain ⟨y, hy, rfl⟩ := Option.map_eq_some_iff.mp e
  obtain ⟨v, h1, h2⟩ := rs'.get hy
  refine ⟨⟨vs, v, st', rfl, h1⟩, fun w H' z => ?_⟩
  obtain ⟨T, x, rfl, hT, rfl, hx⟩ := z
  have e2 := hx vs st'
  rw [h1] at e2
  cases e2
  refine ⟨Ext.new hT, Rep.tup' (SqT.of upd_same) (Reps.cons (by rw [show ((0 + i : Nat) : Int) = ((i : Nat) : Int) by omega]; exact Rep.int') (Reps.one (h2.mono (Ext.new hT).keep)))⟩
section
variable {W : Wd} {X : Cx} {a b : Expr} {t : DA} {p p2 pos pos2 tpos : Pos} {elts : List Expr} {kk : Nat} {ta tb : DE}
def dItE (t : DA) : DA := fun ρ Q => t ρ fun ds => ∃ xs, ds = [.tup xs] ∧ Q (pairs 0 xs)
theorem id_enum (hg : Gl X "enumerate") (hm : X.mg "enumerate" = none) (ha : AD W X [a] t) (hs : starEach [a] X.env = [(false, eval a X.env)] := by rfl) : ID W X (.Tuple elts kk tpos) (.Call (.Name "enumerate" p) [a] [] pos) (dItE t) := (pi_enumT hg hm ha hs).weak fun σ H R h => by
  obtain ⟨ρ, Q, er, q, k⟩ := h
  refine ⟨ρ, _, er, q, fun vs H1 ds s1 rs q1 => ?_⟩
  obtain ⟨xs, rfl, q1⟩ := q1
  obtain ⟨v, rfl, r1⟩ := one_inv rs
  obtain ⟨a, ws, rfl, st, r⟩ := r1.tup_inv
  exact ⟨a, ws, rfl, st, k _ H1 _ s1 (walks_e st r) q1⟩
def dListRg (ta tb : DE) : DA := fun ρ Q => ta ρ fun x => tb ρ fun y => ∃ i j : Int, x = .int i ∧ y = .int j ∧ 0 ≤ i ∧ i ≤ 1000 ∧ 0 ≤ j ∧ j ≤ 1000 ∧ Q (intsFrom i (j - i).toNat)
theorem eo_listRg (hc : X.calm = true) (hg : Gl X "list") (hm : X.mg "list" = none) (hg2 : Gl X "range") (hm2 : X.mg "range" = none) (ha : ED W X a ta) (hb : ED W X b tb)
    (na : starEach [a, b] X.env = (false, eval a X.env) :: starEach [b] X.env := by rfl) (nb : starEach [b] X.env = (false, eval b X.env) :: starEach [] X.env := by rfl) (hp : (backTo pos (starEach [b] X.env)).any (·.1) = false := by rfl)
    (nc : starEach [.Call (.Name "range" p) [a, b] [] pos] X.env = (false, eval (.Call (.Name "range" p) [a, b] [] pos) X.env) :: starEach [] X.env := by rfl) :
    EO W X (.Call (.Name "list" p2) [.Call (.Name "range" p) [a, b] [] pos] [] pos2) (dListRg ta tb) := (pe_listRg hc hg hm (prg_2 hg2 hm2 ha hb na nb hp) nc).weak fun σ H k h => by
  obtain ⟨ρ, Q, er, q, kk⟩ := h
  refine ⟨ρ, _, er, q, fun u H1 x s1 rx q1 => ⟨ρ, _, er.mono s1, q1, fun v H2 y s2 ry q2 => ?_⟩⟩
  obtain ⟨i, j, rfl, rfl, h1, h2, h3, h4, q2⟩ := q2
  have s12 := s1.trans s2
  refine ⟨i, j, rx.int_inv, ry.int_inv, .of_le h1 (by omega) (by omega) h3, fun l hl => ?_⟩
  refine kk l _ _ _ (s12.trans (Stp.new hl)) (s12.back hl) upd_same (Off.upd (s12.hand er.hand) hl) ?_ q2
  unfold intsFrom rgV
  have := Reps.map_int (K := X.K) (H := upd H2 l (.lst ((List.range (j - i).toNat).map fun k : Nat => V.int (i + (k : Nat))))) ((List.range (j - i).toNat).map fun k : Nat => i + (k : Nat))
  rw [List.map_map, List.map_map] at this
  exact this
end
end DL
end

section
set_option Elab.async false
set_option linter.all false
set_option maxRecDepth 100000
set_option maxHeartbeats 4000000
namespace SA
open PySem PySem.Spec PyProof.Rows L2 DL RM
local macro_rules | `(tactic| walk_at "rd") => `(tactic| repeat (first | refine ⟨_, rfl, ?_⟩ | refine ⟨rfl, ?_⟩ | refine ⟨_, _, rfl, ?_⟩ | refine ⟨_, _, rfl, rfl, ?_⟩ | refine ⟨_, _, _, rfl, rfl, ?_⟩ | refine ⟨_, _, _, rfl, ?_⟩ | refine ⟨_, _, _, _, rfl, ?_⟩ | refine ⟨_, _, _, _, _, _, rfl, ?_⟩ | refine And.intro (by assumption) ?_ | refine And.intro (by decide : _ ∉ _) ?_ | refine iteT ?_ | refine iteF ?_))
section
variable {P : Program} {w : World} {K : PySem.W.Frag} {mg : Str → Option Value} {base : Heap} {f : Addr} {fd : FuncData}
mutual
def noI : D → Bool
  | .ins _ _ _ => false
  | .tup xs => noIs xs
  | .lst xs => noIs xs
  | _ => true
def noIs : List D → Bool
  | [] => true
  | x :: xs => noI x && noIs xs
end
/-- tuples and locked things stay -/
def KeepS (H H' : Hp) : Prop := ∀ a o, (match o with | .tup _ => True | .frz _ _ => True | _ => False) → H a = some o → H' a = some o
theorem KeepS.sqT {K : PySem.W.Frag} {H H' : Hp} (k : KeepS H H') {a : Addr} {vs : List V} (h : SqT K H a vs) : SqT K H' a vs := by
  rcases h with (h | ⟨o, h⟩) | h
  · exact .inl (.inl (k _ _ trivial h))
  · exact .inl (.inr ⟨o, k _ _ trivial h⟩)
  · exact .inr h
theorem KeepS.sqZ {H H' : Hp} (k : KeepS H H') {a : Addr} {vs : List V} (h : SqZ H a vs) : SqZ H' a vs := by
  obtain ⟨o, h⟩ := h
  exact ⟨o, k _ _ trivial h⟩
mutual
theorem rep_off {K : PySem.W.Frag} {H H' : Hp} (k : KeepS H H') : ∀ {x : D} {v : V}, noI x = true → Rep K H x v → Rep K H' x v
  | .non, _, _, h => h
  | .bl _, _, _, h => h
  | .int _, _, _, h => h
  | .str _, _, _, h => h
  | .tup xs, v, n, h => by
    unfold Rep at h ⊢
    unfold noI at n
    obtain ⟨a, vs, e, s, r⟩ := h
    exact ⟨a, vs, e, k.sqT s, reps_off k n r⟩
  | .lst xs, v, n, h => by
    unfold Rep at h ⊢
    unfold noI at n
    obtain ⟨a, vs, e, s, r⟩ := h
    exact ⟨a, vs, e, k.sqZ s, reps_off k n r⟩
  | .ins C ns xs, v, n, h => by
    unfold noI at n
    cases n
theorem reps_off {K : PySem.W.Frag} {H H' : Hp} (k : KeepS H H') : ∀ {xs : List D} {vs : List V}, noIs xs = true → Reps K H xs vs → Reps K H' xs vs
  | [], vs, _, h => by
    rw [h.nil_inv]
    exact Reps.nil
  | x :: xs, vs, n, h => by
    unfold noIs at n
    rw [Bool.and_eq_true] at n
    obtain ⟨v, ws, rfl, r1, r2⟩ := h.cons_inv
    exact Reps.cons (rep_off k n.1 r1) (reps_off k n.2 r2)
end
theorem keepS_ins {H : Hp} {a C : Addr} {dx : Addr} {fs : List (Str × V)} {o : HO} (h : H a = some (.ins C dx fs)) : KeepS H (upd H a o) := fun b u im e => by
  rw [upd_ne]
  · exact e
  · intro z
    rw [z, h] at e
    cases e
    exact im
abbrev W0 : Wd := ⟨none, fun _ => none⟩
theorem env_any {K : PySem.W.Frag} {H : Hp} {N : List Str} {ds : List D} {vs : List V} (r : Reps K H ds vs) : EnvRep W0 K H (start N vs) (startD N ds) := by
  have er := env_start (N := N) r
  refine ⟨(fun _ _ z => nomatch z), er.hand, er.len, fun i s e => ?_, er.ap⟩
  have h := er.sl i s e
  cases s with
  | d x => exact h
  | own xs =>
    obtain ⟨l, vs, h1, h2, h3, h4, h5⟩ := h
    exact ⟨l, vs, h1, h2, h3, rfl, h5⟩
  | hand => exact h
theorem noI_rat (r : Rat) : noI (ratD r) = true := rfl
theorem noIs_map {α : Type} {f : α → D} (h : ∀ a, noI (f a) = true) : ∀ l : List α, noIs (l.map f) = true
  | [] => rfl
  | a :: l => by
    show (noI (f a) && noIs (l.map f)) = true
    rw [h a, noIs_map h l]; rfl
theorem noI_bars (bs : List Bar) : noI (barsD bs) = true := by
  show noIs (bs.map barD) = true
  exact noIs_map (fun b => rfl) bs
theorem ok_Belt_init (F : Fun K "__init__" "Belt.__init__" s_Belt_init f fd) (c_Belt : Cls K C_Belt) (na_centre : NoAttr K C_Belt "centre") (na_low : NoAttr K C_Belt "low") (na_high : NoAttr K C_Belt "high") : FnOk P w K mg base CX0 4 f fd ["self", "centre", "low", "high"] (spI K C_Belt S_Belt_init) := by
  refine F.ok (N := N_Belt_init) sc_Belt_init (fun vs H Q E h => ?_) (fun cdv A outer sh H vs Q E hr h => ⟨_, pss_cons (ps_fld (pe_var (i := 0) rfl (Or.inl rfl)) (pe_var (i := 1) rfl (Or.inl rfl)) rfl) (pss_cons (ps_fld (pe_var (i := 0) rfl (Or.inl rfl)) (pe_var (i := 2) rfl (Or.inl rfl)) rfl) (pss_one (ps_fld (pe_var (i := 0) rfl (Or.inl rfl)) (pe_var (i := 3) rfl (Or.inl rfl)) rfl))), ?_⟩)
  · obtain ⟨a, dx, us, ds, Q', rfl, ha, rs, ⟨c, lo, hi, rfl, _⟩, _⟩ := h
    obtain ⟨v1, w1, rfl, _, r2⟩ := rs.cons_inv
    obtain ⟨v2, w2, rfl, _, r3⟩ := r2.cons_inv
    obtain ⟨v3, w3, rfl, _, r4⟩ := r3.cons_inv
    rw [r4.nil_inv]; rfl
  · obtain ⟨a, dx, us, ds, Q', rfl, ha, rs, ⟨c, lo, hi, rfl, q⟩, kk⟩ := h
    obtain ⟨v1, w1, rfl, r1, r2⟩ := rs.cons_inv
    obtain ⟨v2, w2, rfl, r22, r3⟩ := r2.cons_inv
    obtain ⟨v3, w3, rfl, r33, r4⟩ := r3.cons_inv
    obtain rfl := r4.nil_inv
    refine ⟨v1, rfl, .ref a, rfl, a, C_Belt, dx, [], rfl, ha, c_Belt, na_centre, by decide, ?_⟩
    refine ⟨v2, rfl, .ref a, rfl, a, C_Belt, dx, _, rfl, upd_same, c_Belt, na_low, by show 1 < 1000; decide, ?_⟩
    refine ⟨v3, rfl, .ref a, rfl, a, C_Belt, dx, _, rfl, upd_same, c_Belt, na_high, by show 2 < 1000; decide, ?_⟩
    have k1 := keepS_ins (o := .ins C_Belt dx (putF "centre" v1 [])) ha
    have k2 := keepS_ins (H := upd H a (.ins C_Belt dx (putF "centre" v1 []))) (a := a) (o := .ins C_Belt dx (putF "low" v2 (putF "centre" v1 []))) upd_same
    have k3 := keepS_ins (H := upd (upd H a (.ins C_Belt dx (putF "centre" v1 []))) a (.ins C_Belt dx (putF "low" v2 (putF "centre" v1 [])))) (a := a) (o := .ins C_Belt dx (putF "high" v3 (putF "low" v2 (putF "centre" v1 [])))) upd_same
    have rr : ∀ {x v}, noI x = true → Rep K H x v → Rep K _ x v := fun n r => rep_off k3 n (rep_off k2 n (rep_off k1 n r))
    refine kk _ ["centre", "low", "high"] [ratD c, ratD lo, ratD hi] [v1, v2, v3] (fun b o e ne => ?_) ?_ (Reps.cons (rr rfl r1) (Reps.cons (rr rfl r22) (Reps.one (rr rfl r33)))) rfl q
    · rw [upd_ne ne, upd_ne ne, upd_ne ne]; exact e
    · rw [upd_same]; rfl
theorem ok_Arms_init (F : Fun K "__init__" "Arms.__init__" s_Arms_init f fd) (G_check_bars : Cal P w K mg base CX0 7 "check_bars" (spP K S_check_bars)) (T : Glob mg) (c_Arms : Cls K C_Arms) (na_bars : NoAttr K C_Arms "bars") (na_letters : NoAttr K C_Arms "letters") :
    FnOk P w K mg base CX0 8 f fd ["self", "bars"] (spI K C_Arms S_Arms_init) := by
  refine F.ok (N := N_Arms_init) sc_Arms_init (fun vs H Q E h => ?_) (fun cdv A outer sh H vs Q E hr h => ⟨_, pss_cons (ps_fld (pe_var (i := 0) rfl (Or.inl rfl)) (ec (W := W0) G_check_bars hr (by decide) (by rfl) (ad_cons (ed_var 1) ad_nil)) rfl)
    (pss_one (ps_fld (pe_var (i := 0) rfl (Or.inl rfl)) (ed_cb (W := W0) (cr_max rfl) sim_max (by rfl) T.n_max (by decide +kernel) (ad_cons (ed_frz (eo_lc rfl sc_Arms_init.nd (id_tup (ed_fld (ed_var 0) c_Arms na_bars)) (own := [("bar", 2)]) (blk_of (N := N_Arms_init) (sc := defScope s_Arms_init)) (tg1 2) (fun _ _ _ _ _ => pg_name (i := 2) sc_Arms_init.nd rfl (Or.inl rfl) (.inr rfl)) (fun _ _ _ _ _ => pts_yes) (fun _ _ _ _ _ => (ed_ix (ed_var 2) ed_int)))) ad_nil)) rfl)), ?_⟩)
  · obtain ⟨a, dx, us, ds, Q', rfl, ha, rs, ⟨bs, n, rfl, _⟩, _⟩ := h
    obtain ⟨v1, w1, rfl, _, r2⟩ := rs.cons_inv
    rw [r2.nil_inv]; rfl
  · obtain ⟨a, dx, us, ds, Q', rfl, ha, rs, ⟨bs, n, rfl, hb, q⟩, kk⟩ := h
    obtain ⟨v1, w1, rfl, r1, r2⟩ := rs.cons_inv
    obtain rfl := r2.nil_inv
    have h6 := hb.l6
    have rs0 : Reps K H [.ins C_Arms [] [], barsD bs] [.ref a, v1] := Reps.cons (Rep.ins' (vs := []) ha Reps.nil rfl) rs
    refine ⟨startD N_Arms_init [.ins C_Arms [] [], barsD bs], fun x => x = barsD bs, env_any rs0, ⟨_, rfl, bs, n, rfl, hb, rfl⟩, fun v H1 x s1 rx ex => ?_⟩
    subst ex
    have e1 : DL.Ext H H1 := s1
    refine ⟨.ref a, rfl, a, C_Arms, dx, [], rfl, e1 _ _ ha, c_Arms, na_bars, by decide, ?_⟩
    have k1 := keepS_ins (o := .ins C_Arms dx (putF "bars" v [])) (e1 _ _ ha)
    have rb := rep_off k1 (noI_bars bs) rx
    have rs1 : Reps K (upd H1 a (.ins C_Arms dx (putF "bars" v []))) [.ins C_Arms ["bars"] [barsD bs], barsD bs] [.ref a, v1] :=
      Reps.cons (Rep.ins' (ns := ["bars"]) (vs := [v]) (dx := dx) (by rw [upd_same]; rfl) (Reps.one rb) rfl) (Reps.one (rep_off k1 (noI_bars bs) (r1.mono e1.keep)))
    refine ⟨startD N_Arms_init [.ins C_Arms ["bars"] [barsD bs], barsD bs], fun x => x = .int ((n : Nat) : Int), env_any rs1, ?_, fun v2 H2 x s2 rx2 ex2 => ?_⟩
    · walk_at "rd"
      refine compL_map barD (fun b => D.int b.2.2) bs [] (by rw [List.length_nil]; omega) (fun b hbm => ⟨trivial, fun k hk => ?_⟩) ?_
      · walk_at "rd"
        exact hk
      · rw [List.nil_append, lett_ints]
        refine ⟨bs.map (·.2.2), rfl, by rw [List.length_map]; exact hb.l1, fun m hm hx => ?_⟩
        show D.int m = _
        rw [letters_max hb hm hx]
    · subst ex2
      have e2 : DL.Ext (upd H1 a (.ins C_Arms dx (putF "bars" v []))) H2 := s2
      have ha2 := e2 a _ upd_same
      obtain rfl := rx2.int_inv
      refine ⟨.ref a, rfl, a, C_Arms, dx, _, rfl, ha2, c_Arms, na_letters, by show 1 < 1000; decide, ?_⟩
      have k2 := keepS_ins (o := .ins C_Arms dx (putF "letters" (.int ((n : Nat) : Int)) (putF "bars" v []))) ha2
      refine kk _ ["bars", "letters"] [barsD bs, .int ((n : Nat) : Int)] [v, .int ((n : Nat) : Int)] (fun b o e ne => ?_) (by rw [upd_same]; rfl) (Reps.cons (rep_off k2 (noI_bars bs) (rb.mono e2.keep)) (Reps.one Rep.int')) rfl q
      rw [upd_ne ne]
      exact e2 b o (by rw [upd_ne ne]; exact e1 b o e)
end
end SA
end

section
set_option Elab.async false
set_option linter.all false
set_option maxRecDepth 100000
set_option maxHeartbeats 4000000
namespace SA
open PySem PySem.Spec PyProof.Rows L2 DL RM
local macro_rules | `(tactic| walk_at "rd") => `(tactic| repeat (first | refine ⟨_, rfl, ?_⟩ | refine ⟨rfl, ?_⟩ | refine ⟨_, _, rfl, ?_⟩ | refine ⟨_, _, rfl, rfl, ?_⟩ | refine ⟨_, _, _, rfl, rfl, ?_⟩ | refine ⟨_, _, _, rfl, ?_⟩ | refine ⟨_, _, _, _, rfl, ?_⟩ | refine ⟨_, _, _, _, _, _, rfl, ?_⟩ | refine And.intro (by assumption) ?_ | refine And.intro (by decide : _ ∉ _) ?_ | refine iteT ?_ | refine iteF ?_))
section
variable {P : Program} {w : World} {K : PySem.W.Frag} {mg : Str → Option Value} {base : Heap} {f : Addr} {fd : FuncData}
theorem sorted_uniq : ∀ {l m : List Int}, l.Pairwise (· < ·) → m.Pairwise (· < ·) → (∀ k, k ∈ l ↔ k ∈ m) → l = m
  | [], [], _, _, _ => rfl
  | [], b :: m, _, _, h => absurd ((h b).2 (List.mem_cons_self ..)) (by simp)
  | a :: l, [], _, _, h => absurd ((h a).1 (List.mem_cons_self ..)) (by simp)
  | a :: l, b :: m, hl, hm, h => by
    have h1 := List.pairwise_cons.mp hl
    have h2 := List.pairwise_cons.mp hm
    have e : a = b := by
      rcases List.mem_cons.mp ((h a).1 (List.mem_cons_self ..)) with z | z
      · exact z
      · rcases List.mem_cons.mp ((h b).2 (List.mem_cons_self ..)) with y | y
        · exact y.symm
        · have := h2.1 a z
          have := h1.1 b y
          omega
    subst e
    rw [sorted_uniq h1.2 h2.2 fun k => ?_]
    constructor
    · intro hk
      rcases List.mem_cons.mp ((h k).1 (List.mem_cons_of_mem _ hk)) with z | z
      · have := h1.1 k hk
        omega
      · exact z
    · intro hk
      rcases List.mem_cons.mp ((h k).2 (List.mem_cons_of_mem _ hk)) with z | z
      · have := h2.1 k hk
        omega
      · exact z
theorem upto_sorted (n : Nat) : ((List.range n).map fun i : Nat => 1 + ((i : Nat) : Int)).Pairwise (· < ·) := by
  rw [List.pairwise_map]
  exact List.pairwise_lt_range.imp fun h => by omega
theorem scL_read {f : D → DL.Env} {tt : DT} {te : DE} {Q : List Int → Prop} : ∀ (bs : List Bar) (ks : List Int), bs.length + ks.length < 60 →
    (∀ b, b ∈ bs → (∀ p : Bool → Prop, p (decide (0 < b.2.2)) → tt (f (barD b)) p) ∧ ∀ k : D → Prop, k (.int b.2.2) → te (f (barD b)) k) → Q (ks ++ (bs.map (·.2.2)).filter fun k => decide (0 < k)) → scL okAny f tt te (bs.map barD) ks Q
  | [], ks, _, _, q => by
    have q' : Q (ks ++ []) := q
    rw [List.append_nil] at q'
    exact q'
  | b :: bs, ks, hl, hs, q => by
    rw [List.length_cons] at hl
    refine ⟨trivial, (hs b (List.mem_cons_self ..)).1 _ ?_⟩
    have hs' := fun c hc => hs c (List.mem_cons_of_mem b hc)
    rw [List.map_cons, List.filter_cons] at q
    by_cases c : 0 < b.2.2
    · rw [if_pos (decide_eq_true c)] at q
      rw [if_pos (decide_eq_true c)]
      refine (hs b (List.mem_cons_self ..)).2 _ ⟨_, rfl, by omega, scL_read bs _ (by rw [List.length_append, List.length_singleton]; omega) hs' ?_⟩
      rw [List.append_assoc]
      exact q
    · rw [if_neg (by rw [decide_eq_false c]; exact Bool.false_ne_true)] at q
      rw [if_neg (by rw [decide_eq_false c]; exact Bool.false_ne_true)]
      exact scL_read bs ks (by omega) hs' q
theorem ok_check_bars (F : Fun K "check_bars" "check_bars" s_check_bars f fd) (G_MOST_BARS : Glv K mg "MOST_BARS" (.int 6)) (G_bad_bar : Cal P w K mg base CX0 6 "bad_bar" (spP K S_bad_bar)) (G_is_row : Cal P w K mg base CX0 4 "is_row" (spP K S_is_row)) (T : Glob mg) : FnOk P w K mg base CX0 7 f fd ["bars"] (spP K S_check_bars) := by
  refine fnP F sc_check_bars (by intro ds Q E h; unfold S_check_bars at h; repeat (first | (obtain ⟨rfl, _⟩ := h; rfl) | (obtain ⟨_, h⟩ := h))) fun cdv A outer sh H E W hr eW => ⟨_, (bd_cons (sd_if (td_not (td_val (ec G_is_row hr (by decide) (by rfl) (ad_cons (ed_var 0) (ad_cons ed_int (ad_cons (eg G_MOST_BARS (by rfl)) ad_nil)))))) bd_never bd_nil)
    (bd_cons (sd_for PassesOwn.never rfl (id_enum (by rfl) T.n_enumerate (ad_cons (ed_var 0) ad_nil)) (gd_tup rfl (gds_cons (gd_name 1 sc_check_bars.nd) (gds_cons (gd_name 2 sc_check_bars.nd) gds_nil))) (bd_cons (sd_set 3 sc_check_bars.nd (ec G_bad_bar hr (by decide) (by rfl) (ad_cons (ed_var 1) (ad_cons (ed_var 2) ad_nil))))
    (bd_one (sd_if (td_notN (ed_var 3)) bd_never bd_nil))))
    (bd_cons (sd_setO 4 sc_check_bars.nd (eo_sortedSc (by rw [eW]) rfl sc_check_bars.nd (id_tup (ed_var 0)) (own := [("bar", 2)]) (blk_of (N := N_check_bars) (sc := defScope s_check_bars)) (tg1 2) (fun _ _ _ _ _ => pg_name (i := 2) sc_check_bars.nd rfl (Or.inl rfl) (.inr rfl)) (fun _ _ _ _ _ => pts_test (td_gt (ed_ix (ed_var 2) ed_int) ed_int)) (fun _ _ _ _ _ => (ed_ix (ed_var 2) ed_int)) (by rfl) T.n_sorted (by decide +kernel)))
    (bd_cons (sd_fz 4 (sd_if (wd_or (td_eqD hr (ed_var 4) (ed_frz (eo_lst ad_nil))) (wd_or1 (td_neD hr (ed_var 4) (ed_frz (eo_listRg rfl (by rfl) T.n_list (by rfl) T.n_range ed_int (ed_add (ed_cb call_len_seq sim_len (by rfl) T.n_len (by decide +kernel) (ad_cons (ed_var 4) ad_nil)) ed_int)))))).pt bd_never bd_nil))
    (bd_one (sd_ret (ed_ct call_tuple_of sim_tuple (by rfl) T.n_tuple (by decide +kernel) (ad_cons (ed_frz (eo_lc rfl sc_check_bars.nd (id_tup (ed_var 0)) (own := [("bar", 2)]) (blk_of (N := N_check_bars) (sc := defScope s_check_bars)) (tg1 2) (fun _ _ _ _ _ => pg_name (i := 2) sc_check_bars.nd rfl (Or.inl rfl) (.inr rfl)) (fun _ _ _ _ _ => pts_yes) (fun _ _ _ _ _ => (ed_ct call_tuple_of sim_tuple (by rfl) T.n_tuple (by decide +kernel) (ad_cons (ed_var 2) ad_nil))))) ad_nil)))))))), ?_⟩
  rintro ds Q EQ ⟨bs, n, rfl, hb, q⟩
  have h1 := hb.l1
  have h6 := hb.l6
  have hn1 := hb.n1
  have hn4 := hb.n4
  walk_at "rd"
  have e1 : rowQ (barsD bs) 1 6 = true := by
    show (decide ((1 : Int) ≤ (((bs.map barD).length : Nat) : Int)) && decide ((((bs.map barD).length : Nat) : Int) ≤ 6)) = true
    rw [List.length_map]
    simp
    omega
  rw [e1]
  walk_at "rd"
  refine forL_ind (fun xs ρ => ∃ (j : Nat) (l : List Bar) (e1 e2 e3 : Option Sl), xs = pairs j (l.map barD) ∧ ρ = [some (.d (barsD bs)), e1, e2, e3, none] ∧ ∀ (i : Nat) (b : Bar), l[i]? = some b → bs[j + i]? = some b) ?_ ?_ _ _ ⟨0, bs, none, none, none, rfl, rfl, fun i b h => by rw [Nat.zero_add]; exact h⟩
  · rintro ρ ⟨j, l, e1, e2, e3, hx, rfl, _⟩
    walk_at "rd"
    refine scL_read bs [] (by rw [List.length_nil]; omega) (fun b hbm => ⟨fun p hp => ?_, fun k hk => ?_⟩) fun ns hns hmem => ?_
    · walk_at "rd"
      exact hp
    · walk_at "rd"
      exact hk
    have hns' : ns = (List.range n).map fun i : Nat => 1 + ((i : Nat) : Int) := by
      refine sorted_uniq hns (upto_sorted n) fun k => ?_
      rw [hmem k, List.nil_append, List.mem_filter, decide_eq_true_eq]
      constructor
      · rintro ⟨hk, h0⟩
        obtain ⟨b, hbm, rfl⟩ := List.mem_map.mp hk
        have := (hb.lett b hbm).2
        exact List.mem_map.mpr ⟨(b.2.2 - 1).toNat, List.mem_range.mpr (by omega), by omega⟩
      · intro hk
        obtain ⟨i, hi, rfl⟩ := List.mem_map.mp hk
        have hi' := List.mem_range.mp hi
        obtain ⟨b, hbm, e⟩ := hb.all (i + 1) (by omega) (by omega)
        exact ⟨List.mem_map.mpr ⟨b, hbm, by omega⟩, by omega⟩
    have hlen : ns.length = n := by rw [hns', List.length_map, List.length_range]
    walk_at "rd"
    refine ⟨_, eqD_ints ns [], ?_⟩
    rw [decide_eq_false (fun z => by rw [z] at hlen; simp at hlen; omega)]
    walk_at "rd"
    rw [List.length_map, hlen]
    refine ⟨by decide, by decide, show (0 : Int) ≤ ((n : Nat) : Int) + 1 by omega, show ((n : Nat) : Int) + 1 ≤ 1000 by omega, ?_⟩
    have eI : DL.intsFrom 1 (((n : Nat) : Int) + 1 - 1).toNat = ns.map D.int := by
      rw [hns', List.map_map, show (((n : Nat) : Int) + 1 - 1).toNat = n by omega]; rfl
    refine ⟨_, (show EqD (.lst (ns.map D.int)) (.lst (DL.intsFrom 1 (((n : Nat) : Int) + 1 - 1).toNat)) (decide (ns = ns)) by rw [eI]; exact eqD_ints ns ns), ?_⟩
    rw [decide_eq_true rfl]
    walk_at "rd"
    refine compL_map barD barD bs [] (by rw [List.length_nil]; omega) (fun b hbm => ⟨trivial, fun k hk => ?_⟩) ?_
    · walk_at "rd"
      exact hk
    · walk_at "rd"
      exact q
  · rintro x xs ρ ih ⟨j, l, e1, e2, e3, hx, rfl, hl⟩
    cases l with
    | nil => cases hx
    | cons b l =>
      cases hx
      have hbj : bs[j]? = some b := hl 0 b rfl
      have hbm := List.mem_of_getElem? hbj
      obtain ⟨g1, g2⟩ := hb.host j b hbj
      obtain ⟨g3, g4⟩ := hb.lett b hbm
      walk_at "rd"
      refine ⟨by omega, ?_⟩
      walk_at "rd"
      exact ih _ ⟨j + 1, l, _, _, _, rfl, rfl, fun i c hc => by rw [show j + 1 + i = j + (i + 1) by omega]; exact hl (i + 1) c hc⟩
end
end SA
end

section
set_option Elab.async false
set_option linter.all false
set_option maxRecDepth 100000
set_option maxHeartbeats 4000000
namespace SA
open PySem PySem.Spec PyProof.Rows L2 DL RM
local macro_rules | `(tactic| walk_at "rd") => `(tactic| repeat (first | refine ⟨_, rfl, ?_⟩ | refine ⟨rfl, ?_⟩ | refine ⟨_, _, rfl, ?_⟩ | refine ⟨_, _, rfl, rfl, ?_⟩ | refine ⟨_, _, _, rfl, rfl, ?_⟩ | refine ⟨_, _, _, rfl, ?_⟩ | refine ⟨_, _, _, _, rfl, ?_⟩ | refine ⟨_, _, _, _, _, _, rfl, ?_⟩ | refine And.intro (by assumption) ?_ | refine And.intro (by decide : _ ∉ _) ?_ | refine iteT ?_ | refine iteF ?_))
section
variable {P : Program} {w : World} {K : PySem.W.Frag} {mg : Str → Option Value} {base : Heap} {f : Addr} {fd : FuncData}
theorem stp_num {H : Hp} {L g : Addr} {xs : List Int} {m c m' c' : Int} (h1 : H L = some (.lst [.ref g, .int m, .int c])) (h2 : H g = some (.lst (xs.map V.int))) (ne : g ≠ L) (hl : xs.length ≤ 63) : Stp (some L) H (upd H L (.lst [.ref g, .int m', .int c'])) := by
  refine ⟨fun g1 hg => ?_, fun a h => ?_⟩
  · obtain rfl := hg.fn ⟨xs, m, c, h1, h2, ne, hl⟩
    exact ⟨g1, ⟨xs, m', c', upd_same, by rw [upd_ne ne]; exact h2, ne, hl⟩, .inl rfl, fun a o e n1 n2 => by rw [upd_ne n1]; exact e⟩
  · by_cases z : a = L
    · subst z
      rw [upd_same] at h
      cases h
    · rw [upd_ne z] at h
      exact h
theorem stp_great {H : Hp} {L g : Addr} {xs ys : List Int} {m c : Int} (h1 : H L = some (.lst [.ref g, .int m, .int c])) (h2 : H g = some (.lst (xs.map V.int))) (ne : g ≠ L) (hl : xs.length ≤ 63) (hy : ys.length ≤ 63) : Stp (some L) H (upd H g (.lst (ys.map V.int))) := by
  refine ⟨fun g1 hg => ?_, fun a h => ?_⟩
  · obtain rfl := hg.fn ⟨xs, m, c, h1, h2, ne, hl⟩
    exact ⟨g1, ⟨ys, m, c, by rw [upd_ne (Ne.symm ne)]; exact h1, upd_same, ne, hy⟩, .inl rfl, fun a o e n1 n2 => by rw [upd_ne n2]; exact e⟩
  · by_cases z : a = g
    · subst z
      rw [upd_same] at h
      cases h
    · rw [upd_ne z] at h
      exact h
theorem stp_cut {H : Hp} {L g p : Addr} {xs ys : List Int} {m c : Int} (h1 : H L = some (.lst [.ref g, .int m, .int c])) (h2 : H g = some (.lst (xs.map V.int))) (ne : g ≠ L) (hl : xs.length ≤ 63) (hy : ys.length ≤ 63) (hp : H p = none) :
    Stp (some L) H (upd (upd H p (.lst (ys.map V.int))) L (.lst [.ref p, .int m, .int c])) := by
  have pL : p ≠ L := fun z => by rw [z, h1] at hp; cases hp
  refine ⟨fun g1 hg => ?_, fun a h => ?_⟩
  · refine ⟨p, ⟨ys, m, c, upd_same, by rw [upd_ne pL]; exact upd_same, pL, hy⟩, .inr hp, fun a o e n1 n2 => ?_⟩
    rw [upd_ne n1, upd_ne (fun z => by rw [z, hp] at e; cases e)]
    exact e
  · by_cases z : a = L
    · subst z
      rw [upd_same] at h
      cases h
    · rw [upd_ne z] at h
      by_cases z2 : a = p
      · subst z2
        exact hp
      · rw [upd_ne z2] at h
        exact h
theorem hand_at {W : Wd} {K : PySem.W.Frag} {H : Hp} {σ : L2.St} {ρ : DL.Env} (er : EnvRep W K H σ ρ) (h0 : ρ[0]? = some (some .hand)) : ∃ (L g : Addr) (xs : List Int) (m c : Int), W.hd = some L ∧ σ[0]? = some (some (.ref L)) ∧ H L = some (.lst [.ref g, .int m, .int c]) ∧ H g = some (.lst (xs.map V.int)) ∧ g ≠ L ∧ xs.length ≤ 63 := by
  obtain ⟨L, e1, e2⟩ := er.sl 0 _ h0
  obtain ⟨g, xs, m, c, h1, h2, h3, h4⟩ := er.hand L e2
  exact ⟨L, g, xs, m, c, e2, e1, h1, h2, h3, h4⟩
section
variable {W : Wd} {X : Cx} {x : Str} {p sp cp pos : Pos} {kk : Nat} {j : Int} {e : Expr} {te : DE}
def dHN : DE := fun ρ Q => ρ[0]? = some (some .hand) ∧ ∀ m : Int, Q (.int m)
theorem ed_hnum (hj : j = 1 ∨ j = 2) (hN : X.N[0]? = some x := by rfl) (hv : Vis X.env.scope x := by first | exact Or.inl rfl | exact Or.inr (Or.inl rfl)) (hd : (x == ("__debug__" : Str)) = false := by decide) (hcd : (x == ("__classdict__" : Str)) = false := by decide) :
    ED W X (.Subscript (.Name x p) (.Constant (.int j) kk cp) sp) dHN := (pe_ix ix_list (pe_var hN hv hd hcd) pe_int (fun _ _ => rfl)).weak fun σ H k h => by
  obtain ⟨ρ, Q, er, ⟨h0, q⟩, kk⟩ := h
  obtain ⟨L, g, xs, m, c, e1, e2, h1, h2, h3, h4⟩ := hand_at er h0
  rcases hj with rfl | rfl
  · exact ⟨_, e2, L, [.ref g, .int m, .int c], 1, .int m, rfl, rfl, SqL.of h1, rfl, kk _ H _ Stp.refl Rep.int' (q m)⟩
  · exact ⟨_, e2, L, [.ref g, .int m, .int c], 2, .int c, rfl, rfl, SqL.of h1, rfl, kk _ H _ Stp.refl Rep.int' (q c)⟩
def dHS (te : DE) : DS := fun E ρ => te ρ fun x => ρ[0]? = some (some .hand) ∧ ∃ m : Int, x = .int m ∧ E.nx ρ
theorem sd_hset (hj : j = 1 ∨ j = 2) (he : ED W X e te) (hN : X.N[0]? = some x := by rfl) (hv : Vis X.env.scope x := by first | exact Or.inl rfl | exact Or.inr (Or.inl rfl)) (hd : (x == ("__debug__" : Str)) = false := by decide) (hcd : (x == ("__classdict__" : Str)) = false := by decide)
    (ha : ∀ v, assign (.Subscript (.Name x p) (.Constant (.int j) kk cp) sp) X.env v = (do
      let ov ← holding [v] (eval (.Name x p) X.env)
      let iv ← holding [v, ov] (eval (.Constant (.int j) kk cp) X.env)
      standAt sp
      holding [v, ov, iv] (setItem ov iv v)
      release [v, ov, iv] []) := by intro _; rfl)
    (hs : swapsWithSole [.Subscript (.Name x p) (.Constant (.int j) kk cp) sp] e pos.line X.env = pure false := by rfl) (hw : swappedStores [.Subscript (.Name x p) (.Constant (.int j) kk cp) sp] e X.env = pure none := by rfl)
    (h1 : (assignEach [.Subscript (.Name x p) (.Constant (.int j) kk cp) sp] X.env).map (·.2) = [assign (.Subscript (.Name x p) (.Constant (.int j) kk cp) sp) X.env] := by rfl) :
    SD W X (.Assign [.Subscript (.Name x p) (.Constant (.int j) kk cp) sp] e pos) (dHS te) := (ps_asg he (pg_sub (pe_var hN hv hd hcd) pe_int set_list ha) hs hw h1).weak fun F σ H h => by
  obtain ⟨ρ, E, er, q, ok⟩ := h
  refine ⟨ρ, _, er, q, fun v H1 y s1 ry q1 => ?_⟩
  obtain ⟨h0, n, rfl, q1⟩ := q1
  have er1 := er.mono s1
  obtain ⟨L, g, xs, m, c, e1, e2, g1, g2, h3, h4⟩ := hand_at er1 h0
  obtain rfl := ry.int_inv
  have fin : ∀ m' c' : Int, F.nx σ (upd H1 L (.lst [.ref g, .int m', .int c'])) := fun m' c' => by
    have s2 : Stp W.hd H1 (upd H1 L (.lst [.ref g, .int m', .int c'])) := by rw [e1]; exact stp_num g1 g2 h3 h4
    exact ok.nx _ _ ρ (er1.mono s2) ((er.keep s1).trans (er1.keep s2)) q1
  rcases hj with rfl | rfl
  · exact ⟨_, e2, L, [.ref g, .int m, .int c], 1, 1, rfl, rfl, g1, rfl, fin n c⟩
  · exact ⟨_, e2, L, [.ref g, .int m, .int c], 2, 2, rfl, rfl, g1, rfl, fin m n⟩
theorem cell_at {xs : List Int} {c : Int} {r : List Int} (e : xs = c :: r) : atI (xs.map V.int) 0 = some (.int c) := by
  subst e
  exact (atI_of (n := 0) rfl).trans rfl
/-- while hand[0] and hand[0][0] == 0: hand[0] = hand[0][1:] -/
theorem sd_cuts {p1 p2 p3 p4 p5 p6 p7 p8 p9 q1 q2 q3 q4 q5 q6 q7 q8 q9 q10 q11 r1 r2 : Pos} {k1 k2 k3 k4 k5 k6 k7 : Nat} (hp : PassesOwn (model X.prog X.w) X.A X.env X.xe) (hN : X.N[0]? = some x := by rfl) (hv : Vis X.env.scope x := by first | exact Or.inl rfl | exact Or.inr (Or.inl rfl)) (hd : (x == ("__debug__" : Str)) = false := by decide) (hcd : (x == ("__classdict__" : Str)) = false := by decide)
    (ht : ∀ whole, isTrue (.Subscript (.Name x p1) (.Constant (.int 0) k1 p2) p3) X.env whole = (do let v ← whole; standAt (Expr.Subscript (.Name x p1) (.Constant (.int 0) k1 p2) p3).pos; holding [v] (truthy v)) := by intro _; rfl)
    (ha : ∀ v, assign (.Subscript (.Name x q1) (.Constant (.int 0) k4 q2) q3) X.env v = (do
      let ov ← holding [v] (eval (.Name x q1) X.env)
      let iv ← holding [v, ov] (eval (.Constant (.int 0) k4 q2) X.env)
      standAt q3
      holding [v, ov, iv] (setItem ov iv v)
      release [v, ov, iv] []) := by intro _; rfl)
    (hs : swapsWithSole [.Subscript (.Name x q1) (.Constant (.int 0) k4 q2) q3] (.Subscript (.Subscript (.Name x q4) (.Constant (.int 0) k5 q5) q6) (.Slice (some (.Constant (.int 1) k6 q7)) none none q8) q9) q10.line X.env = pure false := by rfl)
    (hw : swappedStores [.Subscript (.Name x q1) (.Constant (.int 0) k4 q2) q3] (.Subscript (.Subscript (.Name x q4) (.Constant (.int 0) k5 q5) q6) (.Slice (some (.Constant (.int 1) k6 q7)) none none q8) q9) X.env = pure none := by rfl)
    (h1 : (assignEach [.Subscript (.Name x q1) (.Constant (.int 0) k4 q2) q3] X.env).map (·.2) = [assign (.Subscript (.Name x q1) (.Constant (.int 0) k4 q2) q3) X.env] := by rfl) :
    SD W X (.While (.BoolOp .And [.Subscript (.Name x p1) (.Constant (.int 0) k1 p2) p3, .Compare (.Subscript (.Subscript (.Name x p4) (.Constant (.int 0) k2 p5) p6) (.Constant (.int 0) k3 p7) p8) [.Eq] [.Constant (.int 0) k7 p9] r1] r2)
      [.Assign [.Subscript (.Name x q1) (.Constant (.int 0) k4 q2) q3] (.Subscript (.Subscript (.Name x q4) (.Constant (.int 0) k5 q5) q6) (.Slice (some (.Constant (.int 1) k6 q7)) none none q8) q9) q10] [] q11) (fun E ρ => ρ[0]? = some (some .hand) ∧ E.nx ρ) :=
  (ps_while hp (pw_and (pt_truth (pe_ix ix_list (pe_var hN hv hd hcd) pe_int (fun _ _ => rfl)) ht) (pw_and1 (pt_cmpR op_eq (pe_ix ix_list (pe_ix ix_list (pe_var hN hv hd hcd) pe_int (fun _ _ => rfl)) pe_int (fun _ _ => rfl)) pe_int (nomark _)))).pt
    (pss_one (ps_asg (pe_slice sl_list (pe_ix ix_list (pe_var hN hv hd hcd) pe_int (fun _ _ => rfl)) (po_some pe_int) po_none) (pg_sub (pe_var hN hv hd hcd) pe_int set_list ha) hs hw h1))).weak fun F σ H h => by
  obtain ⟨ρ, E, er, ⟨h0, q⟩, ok⟩ := h
  obtain ⟨L, g, xs, m, c, e1, e2, h1, h2, h3, h4⟩ := hand_at er h0
  refine ⟨fun n σ' H' => σ' = σ ∧ Stp W.hd H H' ∧ ∃ (g : Addr) (xs : List Int) (m c : Int), n = xs.length ∧ H' L = some (.lst [.ref g, .int m, .int c]) ∧ H' g = some (.lst (xs.map V.int)) ∧ g ≠ L ∧ xs.length ≤ 63, ⟨xs.length, rfl, Stp.refl, g, xs, m, c, rfl, h1, h2, h3, h4⟩, ?_⟩
  rintro n σ' H' ⟨rfl, st, g, xs, m, c, rfl, h1, h2, h3, h4⟩
  have done : F.nx σ' H' := ok.nx _ H' ρ (er.mono st) (er.keep st) q
  refine ⟨_, e2, L, _, 0, .ref g, rfl, rfl, SqL.of h1, rfl, _, .inl ⟨_, SqL.of h2, rfl⟩, ?_⟩
  cases xs with
  | nil => exact iteF (iteF done)
  | cons a r =>
    refine iteT ⟨_, e2, L, _, 0, .ref g, rfl, rfl, SqL.of h1, rfl, g, _, 0, .int a, rfl, rfl, SqL.of h2, cell_at rfl, rfl, _, rfl, ?_⟩
    by_cases z : V.int a = V.int 0
    · rw [decide_eq_true z]
      refine iteT ⟨fun σ'' H'' => σ'' = σ' ∧ Stp W.hd H H'' ∧ ∃ (g : Addr) (m c : Int), H'' L = some (.lst [.ref g, .int m, .int c]) ∧ H'' g = some (.lst (r.map V.int)) ∧ g ≠ L, ?_, ?_⟩
      · rintro σ'' H'' ⟨rfl, st2, g2, m2, c2, a1, a2, a3⟩
        exact ⟨r.length, by rw [List.length_cons]; omega, rfl, st2, g2, r, m2, c2, rfl, a1, a2, a3, by rw [List.length_cons] at h4; omega⟩
      · refine ⟨_, e2, L, [.ref g, .int m, .int c], 0, .ref g, rfl, rfl, SqL.of h1, rfl, 1, rfl, g, _, rfl, SqL.of h2, fun p hp => ?_⟩
        rw [cut1, show ((a :: r).map V.int).drop 1 = r.map V.int from rfl]
        have pL : p ≠ L := fun z => by rw [z, h1] at hp; cases hp
        rw [List.length_cons] at h4
        refine ⟨_, e2, L, [.ref g, .int m, .int c], 0, 0, rfl, rfl, by rw [upd_ne (Ne.symm pL)]; exact h1, rfl, rfl, ?_, p, m, c, upd_same, by rw [upd_ne pL]; exact upd_same, pL⟩
        refine st.trans ?_
        rw [e1]
        exact stp_cut (xs := a :: r) (ys := r) h1 h2 h3 (by rw [List.length_cons]; omega) (by omega) hp
    · rw [decide_eq_false z]
      exact iteF done
/-- if hand[0]: cell = hand[0][0]; hand[0][0] = int(cell) // many; return int(cell) % many -/
theorem sd_great {y z : Str} {p1 p2 p3 p4 p5 p6 p7 p8 p9 q1 q2 q3 q4 q5 q6 q7 q8 q9 q10 q11 r1 r2 r3 r4 r5 r6 r7 r8 : Pos} {k1 k2 k3 k4 k5 : Nat} (hN : X.N[0]? = some x := by rfl) (hN1 : X.N[1]? = some y := by rfl) (hN2 : X.N[2]? = some z := by rfl) (hNd : X.N.Nodup) (hv : Vis X.env.scope x := by first | exact Or.inl rfl | exact Or.inr (Or.inl rfl))
    (hv1 : Vis X.env.scope y := by first | exact Or.inl rfl | exact Or.inr (Or.inl rfl)) (hv2 : Vis X.env.scope z := by first | exact Or.inl rfl | exact Or.inr (Or.inl rfl)) (hx2 : Loc X.env.scope z := by first | exact Or.inl rfl | exact Or.inr rfl) (hg : Gl X "int" := by rfl) (hm : X.mg "int" = none) (hvi : bootBuiltins "int" = some (.type "int"))
    (hd : (x == ("__debug__" : Str)) = false := by decide) (hcd : (x == ("__classdict__" : Str)) = false := by decide) (hd1 : (y == ("__debug__" : Str)) = false := by decide) (hcd1 : (y == ("__classdict__" : Str)) = false := by decide) (hd2 : (z == ("__debug__" : Str)) = false := by decide) (hcd2 : (z == ("__classdict__" : Str)) = false := by decide)
    (ht : ∀ whole, isTrue (.Subscript (.Name x p1) (.Constant (.int 0) k1 p2) p3) X.env whole = (do let v ← whole; standAt (Expr.Subscript (.Name x p1) (.Constant (.int 0) k1 p2) p3).pos; holding [v] (truthy v)) := by intro _; rfl)
    (hsw : swapsWith (.Subscript (.Subscript (.Name x p4) (.Constant (.int 0) k2 p5) p6) (.Constant (.int 0) k3 p7) p8) (some (.Name z p9)) q1.line X.env = pure false := by rfl)
    (hfn : X.fn z = true ∨ X.env.scope.names.lookup z = some .local := by first | exact .inl rfl | exact .inr rfl)
    (ha : ∀ v, assign (.Subscript (.Subscript (.Name x q2) (.Constant (.int 0) k4 q3) q4) (.Constant (.int 0) k5 q5) q6) X.env v = (do
      let ov ← holding [v] (eval (.Subscript (.Name x q2) (.Constant (.int 0) k4 q3) q4) X.env)
      let iv ← holding [v, ov] (eval (.Constant (.int 0) k5 q5) X.env)
      standAt q6
      holding [v, ov, iv] (setItem ov iv v)
      release [v, ov, iv] []) := by intro _; rfl)
    (hs : swapsWithSole [.Subscript (.Subscript (.Name x q2) (.Constant (.int 0) k4 q3) q4) (.Constant (.int 0) k5 q5) q6] (.BinOp (.Call (.Name "int" q7) [.Name z q8] [] q9) .FloorDiv (.Name y q10) q11) r1.line X.env = pure false := by rfl)
    (hw : swappedStores [.Subscript (.Subscript (.Name x q2) (.Constant (.int 0) k4 q3) q4) (.Constant (.int 0) k5 q5) q6] (.BinOp (.Call (.Name "int" q7) [.Name z q8] [] q9) .FloorDiv (.Name y q10) q11) X.env = pure none := by rfl)
    (h1 : (assignEach [.Subscript (.Subscript (.Name x q2) (.Constant (.int 0) k4 q3) q4) (.Constant (.int 0) k5 q5) q6] X.env).map (·.2) = [assign (.Subscript (.Subscript (.Name x q2) (.Constant (.int 0) k4 q3) q4) (.Constant (.int 0) k5 q5) q6) X.env] := by rfl)
    (he1 : starEach [.Name z q8] X.env = (false, eval (.Name z q8) X.env) :: starEach [] X.env := by rfl) (he2 : starEach [.Name z r3] X.env = (false, eval (.Name z r3) X.env) :: starEach [] X.env := by rfl) (hpl : ∀ pos : Pos, (backTo pos (starEach [] X.env)).any (·.1) = false := by intro _; rfl) :
    SD W X (.If (.Subscript (.Name x p1) (.Constant (.int 0) k1 p2) p3)
      [.Assign [.Name z p9] (.Subscript (.Subscript (.Name x p4) (.Constant (.int 0) k2 p5) p6) (.Constant (.int 0) k3 p7) p8) q1,
       .Assign [.Subscript (.Subscript (.Name x q2) (.Constant (.int 0) k4 q3) q4) (.Constant (.int 0) k5 q5) q6] (.BinOp (.Call (.Name "int" q7) [.Name z q8] [] q9) .FloorDiv (.Name y q10) q11) r1,
       .Return (some (.BinOp (.Call (.Name "int" r2) [.Name z r3] [] r4) .Mod (.Name y r5) r6)) r7] [] r8)
      (fun E ρ => ρ[0]? = some (some .hand) ∧ Nat.blt 2 ρ.length = true ∧ (∃ many : Int, ρ[1]? = some (some (.d (.int many))) ∧ 0 < many ∧ many < 1073741824 ∧ ∀ v : Int, 0 ≤ v → v < many → E.rt (.int v)) ∧ E.nx ρ) :=
  (ps_if (pt_truth (pe_ix ix_list (pe_var hN hv hd hcd) pe_int (fun _ _ => rfl)) ht)
    (pss_cons (ps_set hNd hN2 hx2 (pe_ix ix_list (pe_ix ix_list (pe_var hN hv hd hcd) pe_int (fun _ _ => rfl)) pe_int (fun _ _ => rfl)) hsw hfn)
    (pss_cons (ps_asg (pe_op op_fdiv (pe_callTy call_int1 hg hm hvi (pa_cons (pe_var hN2 hv2 hd2 hcd2) pa_nil he1) (by decide) (by decide) he1 (hpl _)) (pe_var hN1 hv1 hd1 hcd1)) (pg_sub (pe_ix ix_list (pe_var hN hv hd hcd) pe_int (fun _ _ => rfl)) pe_int set_list ha) hs hw h1)
    (pss_one (ps_ret (pe_op op_mod (pe_callTy call_int1 hg hm hvi (pa_cons (pe_var hN2 hv2 hd2 hcd2) pa_nil he2) (by decide) (by decide) he2 (hpl _)) (pe_var hN1 hv1 hd1 hcd1)))))) pss_nil).weak fun F σ H h => by
  obtain ⟨ρ, E, er, ⟨h0, hl2, ⟨many, hm1, mp, m30, hrt⟩, q⟩, ok⟩ := h
  obtain ⟨L, g, xs, m, c, e1, e2, a1, a2, a3, a4⟩ := hand_at er h0
  obtain ⟨mv, em, rm⟩ := er.sl 1 _ hm1
  obtain rfl := rm.int_inv
  have hσ : 2 < σ.length := by
    rw [← er.len]
    exact Nat.le_of_ble_eq_true hl2
  refine ⟨_, e2, L, [.ref g, .int m, .int c], 0, .ref g, rfl, rfl, SqL.of a1, rfl, _, .inl ⟨_, SqL.of a2, rfl⟩, ?_⟩
  cases xs with
  | nil => exact iteF (ok.nx σ H ρ er (Keep.refl H) q)
  | cons a r =>
    refine iteT ⟨_, e2, L, [.ref g, .int m, .int c], 0, .ref g, rfl, rfl, SqL.of a1, rfl, g, _, 0, .int a, rfl, rfl, SqL.of a2, cell_at rfl, ?_⟩
    have g0 : (σ.set 2 (some (V.int a)))[0]? = some (some (.ref L)) := by rw [List.getElem?_set_ne (by decide)]; exact e2
    have g1 : (σ.set 2 (some (V.int a)))[1]? = some (some (.int many)) := by rw [List.getElem?_set_ne (by decide)]; exact em
    have g2 : (σ.set 2 (some (V.int a)))[2]? = some (some (.int a)) := List.getElem?_set_self hσ
    refine ⟨_, g2, .inl ⟨a, rfl, _, g1, a, many, rfl, rfl, ⟨mp, m30⟩, ?_⟩⟩
    refine ⟨_, g0, L, [.ref g, .int m, .int c], 0, .ref g, rfl, rfl, SqL.of a1, rfl, g, _, 0, 0, rfl, rfl, a2, ixN_of (n := 0) rfl (by rw [List.length_map, List.length_cons]; omega), ?_⟩
    refine ⟨_, g2, .inl ⟨a, rfl, _, g1, a, many, rfl, rfl, mp, ?_⟩⟩
    have st : Stp W.hd H (upd H g (.lst ((a / many :: r).map V.int))) := by
      rw [e1]
      exact stp_great a1 a2 a3 a4 (by rw [List.length_cons] at a4 ⊢; exact a4)
    have er1 := er.mono st
    exact ok.rt _ _ _ er1.stp er1.hand Rep.int' (hrt _ (Int.emod_nonneg _ (by omega)) (Int.emod_lt_of_pos _ mp))
end
theorem ok_law_take (F : Fun K "_law_take" "_law_take" s_law_take f fd) (T : Glob mg) : FnOk P w K mg base CX0 4 f fd ["_law_hand_here", "_law_many"] (spH K S_law_take) := by
  refine fnH F sc_law_take (by intro ds Q E h; unfold S_law_take at h; repeat (first | (obtain ⟨rfl, _⟩ := h; rfl) | (obtain ⟨_, h⟩ := h))) fun cdv A outer sh H E W hr => ⟨_, bd_cons (sd_cuts PassesOwn.never) (bd_cons (sd_great (hNd := sc_law_take.nd) (hm := T.n_int) (hvi := by decide +kernel)) (bd_cons (sd_hset (.inr rfl) (ed_add (ed_hnum (.inr rfl)) ed_int)) (bd_cons (sd_hset (.inl rfl) (ed_mod (ed_ct call_int1 sim_int (by rfl) T.n_int (by decide +kernel) (ad_cons (ed_add (ed_mul (ed_hnum (.inl rfl)) ed_int) ed_int) ad_nil)) ed_int))
    (bd_cons (sd_set 3 sc_law_take.nd (ed_mod (ed_ct call_int1 sim_int (by rfl) T.n_int (by decide +kernel) (ad_cons (ed_add (ed_mul (ed_hnum (.inl rfl)) ed_int) (ed_mul (ed_hnum (.inr rfl)) ed_int)) ad_nil)) ed_int)) (bd_cons (sd_set 4 sc_law_take.nd (ed_mod (ed_ct call_int1 sim_int (by rfl) T.n_int (by decide +kernel) (ad_cons (ed_add (ed_add (ed_mul (ed_var 3) (ed_var 3)) (ed_mul (ed_hnum (.inr rfl)) ed_int)) (ed_fdivW (ed_var 3) ed_int)) ad_nil)) ed_int)) (bd_one (sd_ret (ed_mod (ed_ct call_int1 sim_int (by rfl) T.n_int (by decide +kernel) (ad_cons (ed_fdivW (ed_var 4) ed_int) ad_nil)) (ed_var 1))))))))), ?_⟩
  rintro ds Q EQ ⟨many, rfl, m0, m30, q⟩
  walk_at "rd"
  refine ⟨⟨many, rfl, m0, m30, q⟩, ?_⟩
  walk_at "rd"
  intro c0
  walk_at "rd"
  intro m0'
  walk_at "rd"
  refine ⟨.inr (by decide), ?_⟩
  walk_at "rd"
  refine ⟨show (0 : Int) < 2147483647 by decide, ?_⟩
  walk_at "rd"
  intro m1
  walk_at "rd"
  refine ⟨.inr (by decide), ?_⟩
  walk_at "rd"
  intro c1
  walk_at "rd"
  refine ⟨.inr (by decide), ?_⟩
  walk_at "rd"
  refine ⟨show (0 : Int) < 2147483629 by decide, ?_⟩
  walk_at "rd"
  have ho : ∀ i : Int, -(2 ^ 64) < i % 2147483629 ∧ i % 2147483629 < 2 ^ 64 := fun i => by omega
  refine ⟨.inr (ho _), ?_⟩
  walk_at "rd"
  intro c2
  walk_at "rd"
  refine ⟨.inr (by decide), ?_⟩
  walk_at "rd"
  refine ⟨⟨by decide, by decide⟩, ?_⟩
  walk_at "rd"
  refine ⟨show (0 : Int) < 2147483587 by decide, ?_⟩
  walk_at "rd"
  refine ⟨⟨by decide, by decide⟩, ?_⟩
  walk_at "rd"
  exact q _ (Int.emod_nonneg _ (by omega)) (Int.emod_lt_of_pos _ m0)
end
end SA
end

section
set_option Elab.async false
set_option linter.all false
set_option maxRecDepth 100000
set_option maxHeartbeats 4000000
namespace SA
open PySem PySem.Spec PyProof.Rows L2 DL RM
local macro_rules | `(tactic| walk_at "rd") => `(tactic| repeat (first | refine ⟨_, rfl, ?_⟩ | refine ⟨rfl, ?_⟩ | refine ⟨_, _, rfl, ?_⟩ | refine ⟨_, _, rfl, rfl, ?_⟩ | refine ⟨_, _, _, rfl, rfl, ?_⟩ | refine ⟨_, _, _, rfl, ?_⟩ | refine ⟨_, _, _, _, rfl, ?_⟩ | refine ⟨_, _, _, _, _, _, rfl, ?_⟩ | refine And.intro (by assumption) ?_ | refine And.intro (by decide : _ ∉ _) ?_ | refine iteT ?_ | refine iteF ?_))
section
variable {P : Program} {w : World} {K : PySem.W.Frag} {mg : Str → Option Value} {base : Heap} {f : Addr} {fd : FuncData}
def sp_hand (K : PySem.W.Frag) : Sp := fun vs H k _ => ∃ (a : Addr) (ns : List Int), vs = [.ref a] ∧ SqL K H a (ns.map V.int) ∧ ns.length ≤ 63 ∧ ∀ H' L g, DL.Ext H H' → HandAt H' L g → k (.ref L) H'
theorem ext_sqL {K : PySem.W.Frag} {H H' : Hp} {a : Addr} {xs : List V} (e : DL.Ext H H') (h : SqL K H a xs) : SqL K H' a xs := by
  rcases h with (h | ⟨o, h⟩) | h
  · exact .inl (.inl (e _ _ h))
  · exact .inl (.inr ⟨o, e _ _ h⟩)
  · exact .inr h
theorem ok_law_hand (F : Fun K "_law_hand" "_law_hand" s_law_hand f fd) (T : Glob mg) : FnOk P w K mg base CX0 4 f fd ["_law_script"] (sp_hand K) := by
  refine F.ok (N := N_law_hand) sc_law_hand (fun vs H Q E h => ?_) (fun cdv A outer sh H vs Q E hr h => ⟨_,
    pss_cons (ps_set (i := 1) sc_law_hand.nd rfl (Or.inl rfl) (pe_lst pa_nil))
    (pss_cons (ps_set (i := 2) sc_law_hand.nd rfl (Or.inl rfl) (pe_op op_add (pe_callB call_len_seq (by rfl) T.n_len (by decide +kernel) (pa_cons (pe_var (i := 0) rfl (Or.inl rfl)) pa_nil)) pe_int))
    (pss_cons (ps_for PassesOwn.never rfl (pi_list (pe_var (i := 0) rfl (Or.inl rfl))) (pg_name (i := 3) sc_law_hand.nd rfl (Or.inl rfl) (.inr rfl)) (pss_cons (ps_set (i := 4) sc_law_hand.nd rfl (Or.inl rfl) (pe_callB call_abs (by rfl) T.n_abs (by decide +kernel) (pa_cons (pe_callTy call_int1 (by rfl) T.n_int (by decide +kernel) (pa_cons (pe_var (i := 3) rfl (Or.inl rfl)) pa_nil)) pa_nil))) (pss_cons (ps_set (i := 2) sc_law_hand.nd rfl (Or.inl rfl) (pe_op op_add (pe_op op_mod (pe_callTy call_int1 (by rfl) T.n_int (by decide +kernel) (pa_cons (pe_op op_add (pe_op op_mul (pe_var (i := 2) rfl (Or.inl rfl)) pe_int) (pe_var (i := 4) rfl (Or.inl rfl))) pa_nil)) pe_int) pe_int)) (pss_one (ps_if (pt_cmpR op_ge (pe_var (i := 4) rfl (Or.inl rfl)) (pe_op op_pow pe_int pe_int) (nomark _)) (pss_one (ps_expr (pe_bm PySem.F.plainAttrs_list PySem.F.slot_list_append PySem.F.type_list_append mt_append (pe_var (i := 1) rfl (Or.inl rfl)) (pa_cons (pe_var (i := 4) rfl (Or.inl rfl)) pa_nil)))) pss_nil)))))
    (pss_one (ps_ret (pe_lst (pa_cons (pe_var (i := 1) rfl (Or.inl rfl)) (pa_cons (pe_var (i := 2) rfl (Or.inl rfl)) (pa_cons pe_int pa_nil)))))))), ?_⟩)
  · obtain ⟨a, ns, rfl, _⟩ := h
    rfl
  · obtain ⟨a, ns, rfl, hS, h63, q⟩ := h
    refine ⟨by show 0 ≤ _; exact Nat.zero_le _, fun g hg => ?_⟩
    refine ⟨_, rfl, a, ns.map V.int, rfl, .inl (ext_sqL (DL.Ext.new hg) hS), _, _, rfl, rfl, ?_⟩
    refine ⟨_, rfl, a, rfl, ⟨_, ext_sqL (DL.Ext.new hg) hS⟩, ?_⟩
    refine for_list (xs := ns.map V.int) (fun i σ H' => ∃ (xs : List Int) (m : Int) (e3 e4 : Option V), σ = [some (.ref a), some (.ref g), some (.int m), e3, e4] ∧ H' g = some (.lst (xs.map V.int)) ∧ xs.length ≤ i ∧ DL.Ext H H') ?_ ?_ ?_ ?_
    · exact ⟨[], _, none, none, rfl, upd_same, Nat.le_refl _, DL.Ext.new hg⟩
    · rintro i σ H' _ ⟨xs, m, e3, e4, rfl, hgx, hl, ex⟩
      exact ext_sqL ex hS
    · rintro i x σ H' hx ⟨xs, m, e3, e4, rfl, hgx, hl, ex⟩
      rw [List.getElem?_map] at hx
      obtain ⟨c, hc, rfl⟩ := Option.map_eq_some_iff.mp hx
      have hi : i < ns.length := (List.getElem?_eq_some_iff.mp hc).1
      refine ⟨_, rfl, .inl ⟨c, rfl, c, rfl, ?_⟩⟩
      refine ⟨_, rfl, m, 31337, rfl, rfl, .inr (by decide), _, rfl, _, _, rfl, rfl, .inl ⟨_, rfl, _, 2147483629, rfl, rfl, (show (0 : Int) < 2147483629 by decide), _, 1, rfl, rfl, ?_⟩⟩
      refine ⟨_, rfl, 10, 18, rfl, rfl, ⟨by decide, by decide, by decide⟩, _, _, rfl, rfl, _, rfl, ?_⟩
      refine ifB (fun h1 => ?_) (fun h1 => ?_)
      · refine ⟨_, rfl, .inl ⟨rfl, _, SqL.of hgx⟩, _, rfl, g, _, _, rfl, rfl, hgx, (by rw [List.length_map]; exact small1000 (by omega)), ?_⟩
        refine ⟨xs ++ [if c < 0 then -c else c], _, _, _, rfl, ?_, by rw [List.length_append, List.length_singleton]; omega, fun b o e => ?_⟩
        · rw [upd_same, List.map_append]
          rfl
        · have ne : b ≠ g := fun z => by rw [z, hg] at e; cases e
          rw [upd_ne ne]
          exact ex b o e
      · exact ⟨xs, _, _, _, rfl, hgx, by omega, ex⟩
    · rintro σ H' ⟨xs, m, e3, e4, rfl, hgx, hl, ex⟩
      rw [List.length_map] at hl
      refine ⟨_, rfl, _, rfl, by show 3 ≤ sizeLine; rw [sizeLine_eq]; decide, fun L hL => ?_⟩
      have ne : g ≠ L := fun z => by rw [z, hL] at hgx; cases hgx
      exact q _ L g (DL.Ext.trans ex (DL.Ext.new hL)) ⟨xs, m, 0, upd_same, by rw [upd_ne ne]; exact hgx, ne, by omega⟩
end
end SA
end

section
set_option Elab.async false
set_option linter.all false
set_option maxRecDepth 100000
set_option maxHeartbeats 4000000
namespace SA
open PySem PySem.Spec PyProof.Rows L2 DL RM
local macro_rules | `(tactic| walk_at "rd") => `(tactic| repeat (first | refine ⟨_, rfl, ?_⟩ | refine ⟨rfl, ?_⟩ | refine ⟨_, _, rfl, ?_⟩ | refine ⟨_, _, rfl, rfl, ?_⟩ | refine ⟨_, _, _, rfl, rfl, ?_⟩ | refine ⟨_, _, _, rfl, ?_⟩ | refine ⟨_, _, _, _, rfl, ?_⟩ | refine ⟨_, _, _, _, _, _, rfl, ?_⟩ | refine And.intro (by assumption) ?_ | refine And.intro (by decide : _ ∉ _) ?_ | refine iteT ?_ | refine iteF ?_))
section
variable {P : Program} {w : World} {K : PySem.W.Frag} {mg : Str → Option Value} {base : Heap} {f : Addr} {fd : FuncData}
theorem pss_any {X : Cx} {sts : List Stmt} {t : DS} (h : ∀ W, BD W X sts t) : PSs X sts (fun F σ H => ∃ W, liftS W X.K t F σ H) := ⟨fun pins s σ H F I q => by
  obtain ⟨W, q⟩ := q
  exact (h W).run pins s σ H F I q⟩
def spLaw (K : PySem.W.Frag) : Sp := fun vs H Q _ => ∃ (a : Addr) (ns : List Int), vs = [.ref a] ∧ SqL K H a (ns.map V.int) ∧ ns.length ≤ 63 ∧ ∀ H', Q (.bl true) H'
theorem ok_law (F : Fun K "law" "law" s_law f fd) (G_law_above_other : Cal P w K mg base CX0 11 "_law_above_other" (spH K S_law_above_other)) (G_law_any_place : Cal P w K mg base CX0 8 "_law_any_place" (spH K S_law_any_place)) (G_law_belted : Cal P w K mg base CX0 12 "_law_belted" (spH K S_law_belted)) (G_law_closing : Cal P w K mg base CX0 8 "_law_closing" (spH K S_law_closing)) (G_law_ends : Cal P w K mg base CX0 8 "_law_ends" (spP K S_law_ends)) (G_law_hand : Cal P w K mg base CX0 4 "_law_hand" (sp_hand K)) (G_law_high : Cal P w K mg base CX0 10 "_law_high" (spH K S_law_high)) (G_law_less : Cal P w K mg base CX0 6 "_law_less" (spP K S_law_less)) (G_law_plus : Cal P w K mg base CX0 6 "_law_plus" (spP K S_law_plus)) (G_law_ratio : Cal P w K mg base CX0 5 "_law_ratio" (spP K S_law_ratio)) (G_law_row : Cal P w K mg base CX0 7 "_law_row" (spP K S_law_row)) (G_law_take : Cal P w K mg base CX0 4 "_law_take" (spH K S_law_take)) (G_law_world : Cal P w K mg base CX0 8 "_law_world" (spH K S_law_world)) (K_Arms : Mks P w K mg base 8 "Arms" C_Arms (spI K C_Arms S_Arms_init)) (T : Glob mg) : FnOk P w K mg base CX0 13 f fd ["_law_script"] (spLaw K) := by
  obtain ⟨fH, fdH, psH, FH, hmH, hkH, hbH⟩ := G_law_hand.ex
  refine F.ok (N := N_law) sc_law (fun vs H Q E h => ?_) (fun cdv A outer sh H vs Q E hr h => ⟨_,
    pss_cons (ps_set (i := 1) sc_law.nd rfl (Or.inl rfl) (pe_call (E := E0) FH (hr.mono (by decide)) (by rfl) hmH hkH hbH .nil pass0 (pa_cons (pe_var (i := 0) rfl (Or.inl rfl)) pa_nil)))
    (pss_any fun W => (bd_cons (sd_for PassesOwn.never rfl (id_range1 (by rfl) T.n_range (ad_cons ed_int ad_nil)) (gd_name 2 sc_law.nd) (bd_cons (sd_if (td_eq (ed_var 2) ed_int) (bd_one (sd_asg (ech G_law_closing hr (by decide) (by rfl) (ah_cons 1 ad_nil)) (gd_tup rfl (gds_cons (gd_name 3 sc_law.nd) (gds_cons (gd_name 4 sc_law.nd) gds_nil))))) (bd_cons (sd_set 3 sc_law.nd (ech G_law_world hr (by decide) (by rfl) (ah_cons 1 ad_nil)))
    (bd_one (sd_set 4 sc_law.nd (ech G_law_any_place hr (by decide) (by rfl) (ah_cons 1 (ad_cons (ed_var 3) ad_nil)))))))
    (bd_cons (sd_set 5 sc_law.nd (ek K_Arms hr (by decide) (by rfl) (ad_cons (ed_var 3) ad_nil)))
    (bd_cons (sd_set 6 sc_law.nd (ech G_law_any_place hr (by decide) (by rfl) (ah_cons 1 (ad_cons (ed_var 3) ad_nil))))
    (bd_cons (sd_if (wd_or (td_not (td_val (ech G_law_high hr (by decide) (by rfl) (ah_cons 1 (ad_cons (ed_var 3) (ad_cons (ed_var 5) (ad_cons (ed_var 4) ad_nil))))))) (wd_or1 (td_not (td_val (ech G_law_belted hr (by decide) (by rfl) (ah_cons 1 (ad_cons (ed_var 3) (ad_cons (ed_var 5) (ad_cons (ed_var 4) ad_nil))))))))).pt (bd_one (sd_ret ed_bl)) bd_nil)
    (bd_cons (sd_if (wd_or (td_not (td_val (ech G_law_above_other hr (by decide) (by rfl) (ah_cons 1 (ad_cons (ed_var 3) (ad_cons (ed_var 5) (ad_cons (ed_var 4) (ad_cons (ed_var 6) ad_nil)))))))) (wd_or1 (td_not (td_val (ech G_law_above_other hr (by decide) (by rfl) (ah_cons 1 (ad_cons (ed_var 3) (ad_cons (ed_var 5) (ad_cons (ed_var 6) (ad_cons (ed_var 4) ad_nil)))))))))).pt (bd_one (sd_ret ed_bl)) bd_nil)
    (bd_cons (sd_set 7 sc_law.nd (ec G_law_less hr (by decide) (by rfl) (ad_cons (ed_ix (ec G_law_row hr (by decide) (by rfl) (ad_cons (ed_var 3) (ad_cons (ed_var 4) ad_nil))) ed_int) (ad_cons (ed_ix (ec G_law_ends hr (by decide) (by rfl) (ad_cons (ec G_law_row hr (by decide) (by rfl) (ad_cons (ed_var 3) (ad_cons (ed_var 4) ad_nil))) ad_nil)) ed_int) ad_nil))))
    (bd_cons (sd_set 8 sc_law.nd (ec G_law_plus hr (by decide) (by rfl) (ad_cons (ed_var 7) (ad_cons (ec G_law_ratio hr (by decide) (by rfl) (ad_cons (ed_add ed_int (ech G_law_take hr (by decide) (by rfl) (ah_cons 1 (ad_cons ed_int ad_nil)))) (ad_cons (ed_pow ed_int ed_int) ad_nil))) ad_nil))))
    (bd_one (sd_if (wd_or (td_not (td_val (ech G_law_above_other hr (by decide) (by rfl) (ah_cons 1 (ad_cons (ed_var 3) (ad_cons (ed_var 5) (ad_cons (ed_var 4) (ad_cons (ed_tup (ad_cons (ed_neg ed_int) (ad_cons (ed_var 7) ad_nil))) ad_nil)))))))) (wd_or1 (td_not (td_val (ech G_law_above_other hr (by decide) (by rfl) (ah_cons 1 (ad_cons (ed_var 3) (ad_cons (ed_var 5) (ad_cons (ed_var 4) (ad_cons (ed_tup (ad_cons (ed_neg ed_int) (ad_cons (ed_var 8) ad_nil))) ad_nil)))))))))).pt (bd_one (sd_ret ed_bl)) bd_nil))))))))))
    (bd_one (sd_ret ed_bl)))), ?_⟩)
  · obtain ⟨a, ns, rfl, _⟩ := h
    rfl
  · obtain ⟨a, ns, rfl, hS, h63, q⟩ := h
    refine ⟨_, rfl, a, ns, rfl, hS, h63, fun H' L g ex hh => ?_⟩
    have er : EnvRep ⟨some L, H'⟩ K H' ((L2.start N_law [.ref a]).set 1 (some (.ref L))) [none, some .hand, none, none, none, none, none, none, none] := by
      refine ⟨Stp.refl, fun L' e => ?_, rfl, fun i s e => ?_, fun i j xs ys l e _ _ _ => ?_⟩
      · cases e
        exact ⟨g, hh⟩
      · match i, e with
        | 1, e =>
          cases e
          exact ⟨L, rfl, rfl⟩
        | 0, e => cases e
        | 2, e => cases e
        | 3, e => cases e
        | 4, e => cases e
        | 5, e => cases e
        | 6, e => cases e
        | 7, e => cases e
        | 8, e => cases e
        | i + 9, e => simp at e
      · match i, e with
        | 1, e => cases e
        | 0, e => cases e
        | 2, e => cases e
        | 3, e => cases e
        | 4, e => cases e
        | 5, e => cases e
        | 6, e => cases e
        | 7, e => cases e
        | 8, e => cases e
        | i + 9, e => simp at e
    refine ⟨⟨some L, H'⟩, _, { nx := fun _ => False, rt := fun x => x = .bl true }, er, ?_, ⟨fun _ _ _ _ _ z => z.elim, fun v H2 x _ _ r z => ?_, fun _ _ _ _ _ z => z.elim, fun _ _ _ _ _ z => z.elim⟩⟩
    · clear hS er hh ex
      walk_at "rd"
      refine ⟨by decide, by decide, ?_⟩
      refine forL_ind (fun xs ρ => ∃ (e2 e3 e4 e5 e6 e7 e8 : Option Sl), ρ = [none, some .hand, e2, e3, e4, e5, e6, e7, e8] ∧ ∀ x, x ∈ xs → ∃ i : Int, x = .int i) ?_ ?_ _ _ ⟨none, none, none, none, none, none, none, rfl, fun x hx => ?_⟩
      · rintro ρ ⟨e2, e3, e4, e5, e6, e7, e8, rfl, _⟩
        walk_at "rd"
        rfl
      · rintro x xs ρ ih ⟨e2, e3, e4, e5, e6, e7, e8, rfl, hx⟩
        obtain ⟨i, rfl⟩ := hx x (List.mem_cons_self ..)
        walk_at "rd"
        refine ifb (fun c => ?_) (fun c => ?_)
        · walk_at "rd"
          intro bs n p hb h1 h2 h3
          have hp : PlaceOk bs p := ⟨h1, h2, h3.mono (by decide)⟩
          have hl := rowOf_len bs n p
          have hz := rowOf_Z2 (p := p) hb (h3.mono (by decide))
          have h4 := hb.n4
          generalize hr' : rowOf bs n p = r at hl hz
          have hn := ne_nil hl
          have z0 := foot_Z hn hz
          have z1 := (high_Z hl hz).mono (d := 56000056) (by omega)
          have zf := z0.sub z1
          walk_at "rd"
          refine ⟨bs, n, rfl, hb, ?_⟩
          walk_at "rd"
          refine ⟨hb.l1, hb.l6, fun o o1 o2 oz => ?_⟩
          have ho : PlaceOk bs o := ⟨o1, o2, oz.mono (by decide)⟩
          walk_at "rd"
          refine ⟨bs, n, p, rfl, hb, hp, ?_⟩
          walk_at "rd"
          rw [hr']
          refine ⟨_, foot_at hn, ?_⟩
          walk_at "rd"
          refine ⟨bs, n, p, rfl, hb, hp, ?_⟩
          rw [hr']
          walk_at "rd"
          refine ⟨by omega, fun x hx => (hz x hx).mono (by decide), ?_⟩
          walk_at "rd"
          refine ⟨(z0.B (by decide)).mono (by decide), (z1.B (by decide)).mono (by decide), ?_⟩
          walk_at "rd"
          refine ⟨by decide, by decide, fun v hv0 hv1 => ?_⟩
          have hv1' : v < 9 := hv1
          walk_at "rd"
          refine ⟨⟨by decide, by decide, by decide⟩, ?_⟩
          walk_at "rd"
          refine ⟨(show (0 : Int) < 10 ^ 9 by decide), pow_up (j := 31) (by decide) (by decide), ?_⟩
          have zs : Z 9 (Rat.divInt (1 + v) (10 ^ 9)) := Z.of (by decide) ⟨27720, by decide⟩ (by rw [show ((10 : Int) ^ 9).natAbs = 1000000000 by decide]; omega)
          walk_at "rd"
          refine ⟨(zf.B (by decide)).mono (by decide), (zs.B (by decide)).mono (by decide), ?_⟩
          walk_at "rd"
          refine ⟨bs, n, p, (-1, footOf r - highOf r), rfl, hb, hp, ⟨(show (-1 : Int) ≤ -1 by decide), by show (-1 : Int) < _; have := hb.l1; omega, zf.mono (by decide)⟩, ?_⟩
          walk_at "rd"
          refine ⟨bs, n, p, (-1, footOf r - highOf r + Rat.divInt (1 + v) (10 ^ 9)), rfl, hb, hp, ⟨(show (-1 : Int) ≤ -1 by decide), by show (-1 : Int) < _; have := hb.l1; omega, (zf.add zs).mono (by decide)⟩, ?_⟩
          walk_at "rd"
          exact ih _ ⟨_, _, _, _, _, _, _, rfl, fun y hy => hx y (List.mem_cons_of_mem _ hy)⟩
        · walk_at "rd"
          intro bs n hb
          walk_at "rd"
          refine ⟨hb.l1, hb.l6, fun p h1 h2 h3 => ?_⟩
          have hp : PlaceOk bs p := ⟨h1, h2, h3.mono (by decide)⟩
          have hl := rowOf_len bs n p
          have hz := rowOf_Z2 (p := p) hb (h3.mono (by decide))
          have h4 := hb.n4
          generalize hr' : rowOf bs n p = r at hl hz
          have hn := ne_nil hl
          have z0 := foot_Z hn hz
          have z1 := (high_Z hl hz).mono (d := 56000056) (by omega)
          have zf := z0.sub z1
          walk_at "rd"
          refine ⟨bs, n, rfl, hb, ?_⟩
          walk_at "rd"
          refine ⟨hb.l1, hb.l6, fun o o1 o2 oz => ?_⟩
          have ho : PlaceOk bs o := ⟨o1, o2, oz.mono (by decide)⟩
          walk_at "rd"
          refine ⟨bs, n, p, rfl, hb, hp, ?_⟩
          walk_at "rd"
          rw [hr']
          refine ⟨_, foot_at hn, ?_⟩
          walk_at "rd"
          refine ⟨bs, n, p, rfl, hb, hp, ?_⟩
          rw [hr']
          walk_at "rd"
          refine ⟨by omega, fun x hx => (hz x hx).mono (by decide), ?_⟩
          walk_at "rd"
          refine ⟨(z0.B (by decide)).mono (by decide), (z1.B (by decide)).mono (by decide), ?_⟩
          walk_at "rd"
          refine ⟨by decide, by decide, fun v hv0 hv1 => ?_⟩
          have hv1' : v < 9 := hv1
          walk_at "rd"
          refine ⟨⟨by decide, by decide, by decide⟩, ?_⟩
          walk_at "rd"
          refine ⟨(show (0 : Int) < 10 ^ 9 by decide), pow_up (j := 31) (by decide) (by decide), ?_⟩
          have zs : Z 9 (Rat.divInt (1 + v) (10 ^ 9)) := Z.of (by decide) ⟨27720, by decide⟩ (by rw [show ((10 : Int) ^ 9).natAbs = 1000000000 by decide]; omega)
          walk_at "rd"
          refine ⟨(zf.B (by decide)).mono (by decide), (zs.B (by decide)).mono (by decide), ?_⟩
          walk_at "rd"
          refine ⟨bs, n, p, (-1, footOf r - highOf r), rfl, hb, hp, ⟨(show (-1 : Int) ≤ -1 by decide), by show (-1 : Int) < _; have := hb.l1; omega, zf.mono (by decide)⟩, ?_⟩
          walk_at "rd"
          refine ⟨bs, n, p, (-1, footOf r - highOf r + Rat.divInt (1 + v) (10 ^ 9)), rfl, hb, hp, ⟨(show (-1 : Int) ≤ -1 by decide), by show (-1 : Int) < _; have := hb.l1; omega, (zf.add zs).mono (by decide)⟩, ?_⟩
          walk_at "rd"
          exact ih _ ⟨_, _, _, _, _, _, _, rfl, fun y hy => hx y (List.mem_cons_of_mem _ hy)⟩
      · obtain ⟨i, hi, rfl⟩ := List.mem_map.mp hx
        exact ⟨_, rfl⟩
    · rw [z] at r
      obtain rfl := r.bl_inv
      exact q _
end
end SA
end

section
set_option Elab.async false
set_option linter.all false
set_option maxRecDepth 100000
set_option maxHeartbeats 0
namespace SA
open PySem PySem.Spec PyProof.Rows L2
def d_is_whole : He.DefD := ⟨("is_whole", none), "is_whole", "is_whole", defArgs s_is_whole, defBody s_is_whole, defScope s_is_whole, [.non, .non], []⟩
def d_is_ratio : He.DefD := ⟨("is_ratio", none), "is_ratio", "is_ratio", defArgs s_is_ratio, defBody s_is_ratio, defScope s_is_ratio, [], []⟩
def d_lowest_terms : He.DefD := ⟨("lowest_terms", none), "lowest_terms", "lowest_terms", defArgs s_lowest_terms, defBody s_lowest_terms, defScope s_lowest_terms, [], []⟩
def d_plus : He.DefD := ⟨("plus", none), "plus", "plus", defArgs s_plus, defBody s_plus, defScope s_plus, [], []⟩
def d_minus : He.DefD := ⟨("minus", none), "minus", "minus", defArgs s_minus, defBody s_minus, defScope s_minus, [], []⟩
def d_times : He.DefD := ⟨("times", none), "times", "times", defArgs s_times, defBody s_times, defScope s_times, [], []⟩
def d_size_of : He.DefD := ⟨("size_of", none), "size_of", "size_of", defArgs s_size_of, defBody s_size_of, defScope s_size_of, [], []⟩
def d_compare : He.DefD := ⟨("compare", none), "compare", "compare", defArgs s_compare, defBody s_compare, defScope s_compare, [], []⟩
def d_sum_of : He.DefD := ⟨("sum_of", none), "sum_of", "sum_of", defArgs s_sum_of, defBody s_sum_of, defScope s_sum_of, [], []⟩
def d_greatest_of : He.DefD := ⟨("greatest_of", none), "greatest_of", "greatest_of", defArgs s_greatest_of, defBody s_greatest_of, defScope s_greatest_of, [], []⟩
def d_is_spot : He.DefD := ⟨("is_spot", none), "is_spot", "is_spot", defArgs s_is_spot, defBody s_is_spot, defScope s_is_spot, [], []⟩
def d_check_spot : He.DefD := ⟨("check_spot", none), "check_spot", "check_spot", defArgs s_check_spot, defBody s_check_spot, defScope s_check_spot, [], []⟩
def d_square_sum : He.DefD := ⟨("square_sum", none), "square_sum", "square_sum", defArgs s_square_sum, defBody s_square_sum, defScope s_square_sum, [], []⟩
def d_is_row : He.DefD := ⟨("is_row", none), "is_row", "is_row", defArgs s_is_row, defBody s_is_row, defScope s_is_row, [], []⟩
def d_take_row : He.DefD := ⟨("take_row", none), "take_row", "take_row", defArgs s_take_row, defBody s_take_row, defScope s_take_row, [], []⟩
def d_is_place_form : He.DefD := ⟨("is_place_form", none), "is_place_form", "is_place_form", defArgs s_is_place_form, defBody s_is_place_form, defScope s_is_place_form, [], []⟩
def d_check_place : He.DefD := ⟨("check_place", none), "check_place", "check_place", defArgs s_check_place, defBody s_check_place, defScope s_check_place, [], []⟩
def d_bad_bar : He.DefD := ⟨("bad_bar", none), "bad_bar", "bad_bar", defArgs s_bad_bar, defBody s_bad_bar, defScope s_bad_bar, [], []⟩
def d_check_bars : He.DefD := ⟨("check_bars", none), "check_bars", "check_bars", defArgs s_check_bars, defBody s_check_bars, defScope s_check_bars, [], []⟩
def d_Arms_init : He.DefD := ⟨("Arms", some "__init__"), "__init__", "Arms.__init__", defArgs s_Arms_init, defBody s_Arms_init, defScope s_Arms_init, [], []⟩
def d_Arms_len : He.DefD := ⟨("Arms", some "__len__"), "__len__", "Arms.__len__", defArgs s_Arms_len, defBody s_Arms_len, defScope s_Arms_len, [], []⟩
def d_Arms_line_row : He.DefD := ⟨("Arms", some "line_row"), "line_row", "Arms.line_row", defArgs s_Arms_line_row, defBody s_Arms_line_row, defScope s_Arms_line_row, [], []⟩
def d_Arms_row_of : He.DefD := ⟨("Arms", some "row_of"), "row_of", "Arms.row_of", defArgs s_Arms_row_of, defBody s_Arms_row_of, defScope s_Arms_row_of, [], []⟩
def d_Arms_difference_row : He.DefD := ⟨("Arms", some "difference_row"), "difference_row", "Arms.difference_row", defArgs s_Arms_difference_row, defBody s_Arms_difference_row, defScope s_Arms_difference_row, [], []⟩
def d_spot_of : He.DefD := ⟨("spot_of", none), "spot_of", "spot_of", defArgs s_spot_of, defBody s_spot_of, defScope s_spot_of, [], []⟩
def d_Belt_init : He.DefD := ⟨("Belt", some "__init__"), "__init__", "Belt.__init__", defArgs s_Belt_init, defBody s_Belt_init, defScope s_Belt_init, [], []⟩
def d_Belt_eq : He.DefD := ⟨("Belt", some "__eq__"), "__eq__", "Belt.__eq__", defArgs s_Belt_eq, defBody s_Belt_eq, defScope s_Belt_eq, [], []⟩
def d_Belt_contains : He.DefD := ⟨("Belt", some "__contains__"), "__contains__", "Belt.__contains__", defArgs s_Belt_contains, defBody s_Belt_contains, defScope s_Belt_contains, [], []⟩
def d_far_ends : He.DefD := ⟨("far_ends", none), "far_ends", "far_ends", defArgs s_far_ends, defBody s_far_ends, defScope s_far_ends, [], []⟩
def d_lowest_flat : He.DefD := ⟨("lowest_flat", none), "lowest_flat", "lowest_flat", defArgs s_lowest_flat, defBody s_lowest_flat, defScope s_lowest_flat, [], []⟩
def d_highest_flat : He.DefD := ⟨("highest_flat", none), "highest_flat", "highest_flat", defArgs s_highest_flat, defBody s_highest_flat, defScope s_highest_flat, [], []⟩
def d_below_pose : He.DefD := ⟨("below_pose", none), "below_pose", "below_pose", defArgs s_below_pose, defBody s_below_pose, defScope s_below_pose, [], []⟩
def d_reach_of : He.DefD := ⟨("reach_of", none), "reach_of", "reach_of", defArgs s_reach_of, defBody s_reach_of, defScope s_reach_of, [], []⟩
def d_heights_of : He.DefD := ⟨("heights_of", none), "heights_of", "heights_of", defArgs s_heights_of, defBody s_heights_of, defScope s_heights_of, [], []⟩
def d_height_poses : He.DefD := ⟨("height_poses", none), "height_poses", "height_poses", defArgs s_height_poses, defBody s_height_poses, defScope s_height_poses, [], []⟩
def d_belt_of : He.DefD := ⟨("belt_of", none), "belt_of", "belt_of", defArgs s_belt_of, defBody s_belt_of, defScope s_belt_of, [], []⟩
def d_can_come_to : He.DefD := ⟨("can_come_to", none), "can_come_to", "can_come_to", defArgs s_can_come_to, defBody s_can_come_to, defScope s_can_come_to, [], []⟩
def d_law_hand : He.DefD := ⟨("_law_hand", none), "_law_hand", "_law_hand", defArgs s_law_hand, defBody s_law_hand, defScope s_law_hand, [], []⟩
def d_law_take : He.DefD := ⟨("_law_take", none), "_law_take", "_law_take", defArgs s_law_take, defBody s_law_take, defScope s_law_take, [], []⟩
def d_law_gcd : He.DefD := ⟨("_law_gcd", none), "_law_gcd", "_law_gcd", defArgs s_law_gcd, defBody s_law_gcd, defScope s_law_gcd, [], []⟩
def d_law_ratio : He.DefD := ⟨("_law_ratio", none), "_law_ratio", "_law_ratio", defArgs s_law_ratio, defBody s_law_ratio, defScope s_law_ratio, [], []⟩
def d_law_plus : He.DefD := ⟨("_law_plus", none), "_law_plus", "_law_plus", defArgs s_law_plus, defBody s_law_plus, defScope s_law_plus, [], []⟩
def d_law_less : He.DefD := ⟨("_law_less", none), "_law_less", "_law_less", defArgs s_law_less, defBody s_law_less, defScope s_law_less, [], []⟩
def d_law_times : He.DefD := ⟨("_law_times", none), "_law_times", "_law_times", defArgs s_law_times, defBody s_law_times, defScope s_law_times, [], []⟩
def d_law_over : He.DefD := ⟨("_law_over", none), "_law_over", "_law_over", defArgs s_law_over, defBody s_law_over, defScope s_law_over, [], []⟩
def d_law_below : He.DefD := ⟨("_law_below", none), "_law_below", "_law_below", defArgs s_law_below, defBody s_law_below, defScope s_law_below, [], []⟩
def d_law_size : He.DefD := ⟨("_law_size", none), "_law_size", "_law_size", defArgs s_law_size, defBody s_law_size, defScope s_law_size, [], []⟩
def d_law_sum : He.DefD := ⟨("_law_sum", none), "_law_sum", "_law_sum", defArgs s_law_sum, defBody s_law_sum, defScope s_law_sum, [], []⟩
def d_law_is_ratio : He.DefD := ⟨("_law_is_ratio", none), "_law_is_ratio", "_law_is_ratio", defArgs s_law_is_ratio, defBody s_law_is_ratio, defScope s_law_is_ratio, [], []⟩
def d_law_mark : He.DefD := ⟨("_law_mark", none), "_law_mark", "_law_mark", defArgs s_law_mark, defBody s_law_mark, defScope s_law_mark, [], []⟩
def d_law_strength : He.DefD := ⟨("_law_strength", none), "_law_strength", "_law_strength", defArgs s_law_strength, defBody s_law_strength, defScope s_law_strength, [], []⟩
def d_law_most : He.DefD := ⟨("_law_most", none), "_law_most", "_law_most", defArgs s_law_most, defBody s_law_most, defScope s_law_most, [], []⟩
def d_law_row : He.DefD := ⟨("_law_row", none), "_law_row", "_law_row", defArgs s_law_row, defBody s_law_row, defScope s_law_row, [], []⟩
def d_law_apart : He.DefD := ⟨("_law_apart", none), "_law_apart", "_law_apart", defArgs s_law_apart, defBody s_law_apart, defScope s_law_apart, [], []⟩
def d_law_direction : He.DefD := ⟨("_law_direction", none), "_law_direction", "_law_direction", defArgs s_law_direction, defBody s_law_direction, defScope s_law_direction, [], []⟩
def d_law_half : He.DefD := ⟨("_law_half", none), "_law_half", "_law_half", defArgs s_law_half, defBody s_law_half, defScope s_law_half, [], []⟩
def d_law_wide : He.DefD := ⟨("_law_wide", none), "_law_wide", "_law_wide", defArgs s_law_wide, defBody s_law_wide, defScope s_law_wide, [], []⟩
def d_law_above : He.DefD := ⟨("_law_above", none), "_law_above", "_law_above", defArgs s_law_above, defBody s_law_above, defScope s_law_above, [], []⟩
def d_law_world : He.DefD := ⟨("_law_world", none), "_law_world", "_law_world", defArgs s_law_world, defBody s_law_world, defScope s_law_world, [], []⟩
def d_law_any_place : He.DefD := ⟨("_law_any_place", none), "_law_any_place", "_law_any_place", defArgs s_law_any_place, defBody s_law_any_place, defScope s_law_any_place, [], []⟩
def d_law_any_half : He.DefD := ⟨("_law_any_half", none), "_law_any_half", "_law_any_half", defArgs s_law_any_half, defBody s_law_any_half, defScope s_law_any_half, [], []⟩
def d_law_any_pose : He.DefD := ⟨("_law_any_pose", none), "_law_any_pose", "_law_any_pose", defArgs s_law_any_pose, defBody s_law_any_pose, defScope s_law_any_pose, [], []⟩
def d_law_stand : He.DefD := ⟨("_law_stand", none), "_law_stand", "_law_stand", defArgs s_law_stand, defBody s_law_stand, defScope s_law_stand, [], []⟩
def d_law_square : He.DefD := ⟨("_law_square", none), "_law_square", "_law_square", defArgs s_law_square, defBody s_law_square, defScope s_law_square, [], []⟩
def d_law_same : He.DefD := ⟨("_law_same", none), "_law_same", "_law_same", defArgs s_law_same, defBody s_law_same, defScope s_law_same, [], []⟩
def d_law_same_row : He.DefD := ⟨("_law_same_row", none), "_law_same_row", "_law_same_row", defArgs s_law_same_row, defBody s_law_same_row, defScope s_law_same_row, [], []⟩
def d_law_same_rows : He.DefD := ⟨("_law_same_rows", none), "_law_same_rows", "_law_same_rows", defArgs s_law_same_rows, defBody s_law_same_rows, defScope s_law_same_rows, [], []⟩
def d_law_truth : He.DefD := ⟨("_law_truth", none), "_law_truth", "_law_truth", defArgs s_law_truth, defBody s_law_truth, defScope s_law_truth, [], []⟩
def d_law_form : He.DefD := ⟨("_law_form", none), "_law_form", "_law_form", defArgs s_law_form, defBody s_law_form, defScope s_law_form, [], []⟩
def d_law_is_pose : He.DefD := ⟨("_law_is_pose", none), "_law_is_pose", "_law_is_pose", defArgs s_law_is_pose, defBody s_law_is_pose, defScope s_law_is_pose, [], []⟩
def d_law_is_spot : He.DefD := ⟨("_law_is_spot", none), "_law_is_spot", "_law_is_spot", defArgs s_law_is_spot, defBody s_law_is_spot, defScope s_law_is_spot, [], []⟩
def d_law_odd : He.DefD := ⟨("_law_odd", none), "_law_odd", "_law_odd", defArgs s_law_odd, defBody s_law_odd, defScope s_law_odd, [], []⟩
def d_law_spoilt_direction : He.DefD := ⟨("_law_spoilt_direction", none), "_law_spoilt_direction", "_law_spoilt_direction", defArgs s_law_spoilt_direction, defBody s_law_spoilt_direction, defScope s_law_spoilt_direction, [], []⟩
def d_law_flat : He.DefD := ⟨("_law_flat", none), "_law_flat", "_law_flat", defArgs s_law_flat, defBody s_law_flat, defScope s_law_flat, [], []⟩
def d_law_ends : He.DefD := ⟨("_law_ends", none), "_law_ends", "_law_ends", defArgs s_law_ends, defBody s_law_ends, defScope s_law_ends, [], []⟩
def d_law_high : He.DefD := ⟨("_law_high", none), "_law_high", "_law_high", defArgs s_law_high, defBody s_law_high, defScope s_law_high, [], []⟩
def d_law_above_other : He.DefD := ⟨("_law_above_other", none), "_law_above_other", "_law_above_other", defArgs s_law_above_other, defBody s_law_above_other, defScope s_law_above_other, [], []⟩
def d_law_spots : He.DefD := ⟨("_law_spots", none), "_law_spots", "_law_spots", defArgs s_law_spots, defBody s_law_spots, defScope s_law_spots, [], []⟩
def d_law_called : He.DefD := ⟨("_law_called", none), "_law_called", "_law_called", defArgs s_law_called, defBody s_law_called, defScope s_law_called, [], []⟩
def d_law_belted : He.DefD := ⟨("_law_belted", none), "_law_belted", "_law_belted", defArgs s_law_belted, defBody s_law_belted, defScope s_law_belted, [], []⟩
def d_law_closing : He.DefD := ⟨("_law_closing", none), "_law_closing", "_law_closing", defArgs s_law_closing, defBody s_law_closing, defScope s_law_closing, [], []⟩
def d_law : He.DefD := ⟨("law", none), "law", "law", defArgs s_law, defBody s_law, defScope s_law, [], []⟩
def fn : List He.DefD := [d_is_whole, d_is_ratio, d_lowest_terms, d_plus, d_minus, d_times, d_size_of, d_compare, d_sum_of, d_greatest_of, d_is_spot, d_check_spot, d_square_sum, d_is_row, d_take_row, d_is_place_form, d_check_place, d_bad_bar, d_check_bars, d_Arms_init, d_Arms_len, d_Arms_line_row, d_Arms_row_of, d_Arms_difference_row, d_spot_of, d_Belt_init, d_Belt_eq, d_Belt_contains, d_far_ends, d_lowest_flat, d_highest_flat, d_below_pose, d_reach_of, d_heights_of, d_height_poses, d_belt_of, d_can_come_to, d_law_hand, d_law_take, d_law_gcd, d_law_ratio, d_law_plus, d_law_less, d_law_times, d_law_over, d_law_below, d_law_size, d_law_sum, d_law_is_ratio, d_law_mark, d_law_strength, d_law_most, d_law_row, d_law_apart, d_law_direction, d_law_half, d_law_wide, d_law_above, d_law_world, d_law_any_place, d_law_any_half, d_law_any_pose, d_law_stand, d_law_square, d_law_same, d_law_same_row, d_law_same_rows, d_law_truth, d_law_form, d_law_is_pose, d_law_is_spot, d_law_odd, d_law_spoilt_direction, d_law_flat, d_law_ends, d_law_high, d_law_above_other, d_law_spots, d_law_called, d_law_belted, d_law_closing, d_law]
def fa : List He.Fa := [.glo "is_whole", .glo "is_ratio", .glo "lowest_terms", .glo "plus", .glo "minus", .glo "times", .glo "size_of", .glo "compare", .glo "sum_of", .glo "greatest_of", .glo "is_spot", .glo "check_spot", .glo "square_sum", .glo "is_row", .glo "take_row", .glo "is_place_form", .glo "check_place", .glo "bad_bar", .glo "check_bars", .glo "spot_of", .glo "far_ends", .glo "lowest_flat", .glo "highest_flat", .glo "below_pose", .glo "reach_of", .glo "heights_of", .glo "height_poses", .glo "belt_of", .glo "can_come_to", .glo "_law_hand", .glo "_law_take", .glo "_law_gcd", .glo "_law_ratio", .glo "_law_plus", .glo "_law_less", .glo "_law_times", .glo "_law_over", .glo "_law_below", .glo "_law_size", .glo "_law_sum", .glo "_law_is_ratio", .glo "_law_mark", .glo "_law_strength", .glo "_law_most", .glo "_law_row", .glo "_law_apart", .glo "_law_direction", .glo "_law_half", .glo "_law_wide", .glo "_law_above", .glo "_law_world", .glo "_law_any_place", .glo "_law_any_half", .glo "_law_any_pose", .glo "_law_stand", .glo "_law_square", .glo "_law_same", .glo "_law_same_row", .glo "_law_same_rows", .glo "_law_truth", .glo "_law_form", .glo "_law_is_pose", .glo "_law_is_spot", .glo "_law_odd", .glo "_law_spoilt_direction", .glo "_law_flat", .glo "_law_ends", .glo "_law_high", .glo "_law_above_other", .glo "_law_spots", .glo "_law_called", .glo "_law_belted", .glo "_law_closing", .glo "law", .glo "Arms", .glo "Belt", .glo "BadPlace", .glo "BadSpot", .glo "ZERO", .glo "UP", .glo "DOWN", .free "len", .free "range", .free "isinstance", .free "tuple", .free "list", .free "abs", .free "int", .free "bool", .free "max", .free "min", .free "zip", .free "enumerate", .free "sorted", .free "super", .int "MAST" (-1), .int "MOST_BARS" 6, .int "MOST_LETTERS" 4, .cls "Arms", .cls "Belt", .mkr "Arms", .mkr "Belt", .noat "Arms" "bars", .noat "Arms" "letters", .noat "Belt" "centre", .noat "Belt" "low", .noat "Belt" "high", .meth "Arms" "__len__", .meth "Arms" "line_row", .meth "Arms" "row_of", .meth "Arms" "difference_row", .meth "Belt" "__eq__", .meth "Belt" "__contains__", .keep "BadPlace", .keep "BadSpot", .exm "BadPlace" "BadPlace" true, .exm "BadSpot" "BadPlace" false, .exm "BadSpot" "BadSpot" true]
def tupA (K : PySem.W.Frag) (a : Addr) (vs : List V) : Bool := match K.lookup a with
  | some ⟨.type c, _, .seq its _, _⟩ => decide (c = "tuple") && (decide (its.size ≤ sizeLine) && He.relAll vs its.toList)
  | _ => false
def oexB (K : PySem.W.Frag) (C : Addr) : Bool := match K.lookup C with
  | some ⟨.type t, _, .cls cd, sl⟩ => (match cd.mro, sl.toList with
    | .ref C' :: bm, [_, _, _, _, some (.builtin n), _] => decide (t = "type") && (decide (C' = C) && (decide (n = "ValueError.__new__") && (cd.hasDict && (!cd.hasDel && PySem.HandSPX.refsVE bm))))
    | _, _ => false)
  | _ => false
def iniB (K : PySem.W.Frag) (C fI cda cc : Addr) (q : Str) : Bool :=
  (match K.lookup fI with
  | some ⟨_, _, .func fd, _⟩ => (match fd.defaults, fd.code with
    | .none, .ref c => decide (c = cda)
    | _, _ => false)
  | _ => false) && (PySem.W.codeIn K (.ref cda) q && ((match K.lookup cda with
  | some ⟨_, _, .fields vs, _⟩ => (match (vs[2]? : Option Value) with
    | some (Value.str file _) => ((PySem.Challenge.pw_stillarms_k20_whole_heights_and_belts_fo.main.file : Str) == file)
    | _ => false)
  | _ => false) && (match K.lookup cc with
  | some ⟨_, _, .cell (some (.ref D)), _⟩ => decide (D = C)
  | _ => false)))
def supB (K : PySem.W.Frag) (C fI cda cc : Addr) (q : Str) : Bool :=
  oexB K C && (decide (PySem.W.findIn K (.ref C) "__setattr__" = some (some (.builtin "object.__setattr__"))) && (decide (PySem.W.subIn K (.ref C) (.type "BaseException") = some true) && (decide (PySem.W.typeIn K (.ref C) = some (.type "type")) && (PySem.W.keepIn K (.ref C) &&
  (decide (PySem.W.findIn K (.ref C) "__init__" = some (some (.ref fI))) && (decide (PySem.W.typeIn K (.ref fI) = some (.type "function")) && (iniB K C fI cda cc q && (decide (PySem.W.mroIn K C (.ref C) = some true) &&
  (decide (PySem.W.ks_superIn K C C "__init__" = some (some (.builtin "ValueError.__init__"))) && (decide (PySem.W.subIn K (.ref C) (.type "ValueError") = some true) && (decide (PySem.W.nsIn K PySem.cStatics "thirdparty.any" = some none) && PySem.W.excInitIn K C He.veBase "ValueError.__new__")))))))))))
def ex (K : PySem.W.Frag) : Bool :=
  tupA K 126 [.int 0, .int 1] && (tupA K 198 [.int 0, .int 1] && (tupA K 199 [.int 1, .int 1] && (tupA K 200 [.ref 198, .ref 199] && (tupA K 201 [.int 0, .int 1] && (tupA K 202 [.int (-1), .int 1] && (tupA K 203 [.ref 201, .ref 202] &&
  (decide (He.ga K "ZERO" = 126 ∧ He.ga K "UP" = 200 ∧ He.ga K "DOWN" = 203 ∧ He.ga K "Arms" = 347 ∧ He.ga K "Belt" = 389 ∧ He.ga K "BadPlace" = 81 ∧ He.ga K "BadSpot" = 123) &&
  (decide (PySem.W.nsIn K mainGlobals "gcd" = some (some (.builtin "math.gcd"))) && (decide (PySem.W.findIn K (.ref 389) "__class__" = some (some (.builtin "object.__class__"))) && (decide (PySem.W.specialIn K (.builtin "object.__class__") "__get__" = some (some (.builtin "getset_descriptor.__get__"))) &&
  (decide (PySem.W.takesIn K (.builtin "object.__class__") = some true) && (decide (PySem.W.mroIn K 389 (.type "object") = some true) && (decide (PySem.W.kitOne K (.ref 389) (.ref 389) = some true) &&
  (supB K 81 78 77 66 "BadPlace.__init__" && supB K 123 120 119 108 "BadSpot.__init__"))))))))))))))
def loose0 : List Str := ["_wall", "ArmError", "BadPlace", "BadArms", "BadSpot", "ZERO", "is_whole", "is_ratio", "lowest_terms", "plus", "minus", "times", "size_of", "compare", "sum_of", "greatest_of", "UP", "DOWN", "is_spot", "check_spot", "square_sum", "MAST", "MOST_BARS", "MOST_LETTERS", "is_row", "take_row", "is_place_form", "check_place", "bad_bar"]
def loose1 : List Str := ["check_bars", "Arms", "spot_of", "Belt", "far_ends", "lowest_flat", "highest_flat", "below_pose", "reach_of", "heights_of", "height_poses", "belt_of", "can_come_to", "_law_hand", "_law_take", "_law_gcd", "_law_ratio", "_law_plus", "_law_less", "_law_times", "_law_over", "_law_below", "_law_size", "_law_sum", "_law_is_ratio", "_law_mark", "_law_strength", "_law_most", "_law_row", "_law_apart"]
def loose2 : List Str := ["_law_direction", "_law_half", "_law_wide", "_law_above", "_law_world", "_law_any_place", "_law_any_half", "_law_any_pose", "_law_stand", "_law_square", "_law_same", "_law_same_row", "_law_same_rows", "_law_truth", "_law_form", "_law_is_pose", "_law_is_spot", "_law_odd", "_law_spoilt_direction", "_law_flat", "_law_ends", "_law_high", "_law_above_other", "_law_spots", "_law_called", "_law_belted", "_law_closing"]
def loose : List Str := loose0 ++ loose1 ++ loose2
def as0 : List Addr := [2, 3, 58, 59, 66, 77, 78, 80, 81, 108, 119, 120, 122, 123, 126, 127, 133, 134, 140, 141, 147, 148, 154, 155, 161, 162, 168, 169, 175, 176, 182]
def as1 : List Addr := [183, 189, 190, 196, 197, 198, 199, 200, 201, 202, 203, 209, 210, 216, 217, 223, 224, 230, 231, 235, 236, 242, 243, 249, 250, 256, 257, 261, 262, 273]
def as2 : List Addr := [274, 280, 281, 294, 295, 301, 302, 315, 316, 346, 347, 357, 358, 371, 372, 378, 379, 385, 386, 388, 389, 397, 398, 402, 403, 407, 408, 414, 415, 419]
def as3 : List Addr := [420, 426, 427, 433, 434, 440, 441, 447, 448, 454, 455, 461, 462, 468, 469, 475, 476, 482, 483, 489, 490, 496, 497, 503, 504, 510, 511, 517, 518, 524]
def as4 : List Addr := [525, 531, 532, 538, 539, 545, 546, 550, 551, 555, 556, 560, 561, 567, 568, 574, 575, 581, 582, 588, 589, 593, 594, 600, 601, 607, 608, 612, 613, 619]
def as5 : List Addr := [620, 626, 627, 633, 634, 638, 639, 643, 644, 650, 651, 657, 658, 664, 665, 671, 672, 678, 679, 685, 686, 690, 691, 695, 696, 702, 703, 709, 710, 716]
def as6 : List Addr := [717, 723, 724, 728, 729, 733, 734, 740, 741]
def as_ : List Addr := as0 ++ as1 ++ as2 ++ as3 ++ as4 ++ as5 ++ as6
abbrev R : PySem.W.OpenRow := PySem.W.OpenLaw.row PySem.Challenge.rw_stillarms_k20_whole_heights_and_belts_fo
abbrev AlL : Type := He.AlD × Bool × List He.FnW
def supF (K : PySem.W.Frag) : List He.FnW := [He.fnW K ("BadPlace", some "__init__"), He.fnW K ("BadSpot", some "__init__")]
def supV : List He.FnW := [some ("__init__", "BadPlace.__init__", defArgs s_BadPlace_init, .stmts (defBody s_BadPlace_init), defScope s_BadPlace_init, mainGlobals, [("__class__", 66)], builtinsNs), some ("__init__", "BadSpot.__init__", defArgs s_BadSpot_init, .stmts (defBody s_BadSpot_init), defScope s_BadSpot_init, mainGlobals, [("__class__", 108)], builtinsNs)]
def obsL (fa : List He.Fa) (fn : List He.DefD) (ex : PySem.W.Frag → Bool) (g : Addr → Option Obj) : AlL := (He.obsD fa fn (He.frG g as_), ex (He.frG g as_), supF (He.frG g as_))
def valL (fn : List He.DefD) : AlL := (He.valD fn, true, supV)
def hookL (fa : List He.Fa) (fn : List He.DefD) (ex : PySem.W.Frag → Bool) : PySem.W.Hook where
  α := AlL
  obs := fun s => obsL fa fn ex s.heap.get?
  val := fun _ => valL fn
  says := fun _ h => ∃ K : PySem.W.Frag, K.In h ∧ He.SaysD fa fn K ∧ ex K = true ∧ supF K = supV
  of := fun _ _ e => ⟨_, He.frG_in, congrArg (fun z : AlL => z.1) e, congrArg (fun z : AlL => z.2.1) e, congrArg (fun z : AlL => z.2.2) e⟩
  keeps := fun _ _ _ ⟨K, hK, c⟩ k => ⟨K, PySem.W.Frag.In.keeps hK k, c⟩
theorem obsL_eq {fa : List He.Fa} {fn : List He.DefD} {ex : PySem.W.Frag → Bool} {g : Addr → Option Obj} {s : Shared} (h : ∀ a, g a = s.heap.get? a) : obsL fa fn ex g = (hookL fa fn ex).obs s := by
  have e : g = s.heap.get? := funext h
  rw [e] <;> rfl
abbrev hk : PySem.W.Hook := hookL fa fn ex
def ob (s : PySem.W.SharedT) : AlL := obsL fa fn ex (HandSHeadRun.getT s)
theorem ob_eq (s : PySem.W.SharedT) : ob s = hk.obs s.abs := obsL_eq (HandSHeadRun.getT_eq s)
theorem run (w : World) : HandSHeadRun.RunEqI R (PySem.W.view R.prog [0, 94]) hk ob 6000 loose w := by
  unfold HandSHeadRun.RunEqI
  kernel_rfl
end SA
end

section
set_option Elab.async false
set_option linter.all false
set_option maxRecDepth 100000
set_option maxHeartbeats 4000000
namespace SA
open PySem PySem.Spec PyProof.Rows L2 DL RM
local macro_rules | `(tactic| walk_at "rd") => `(tactic| repeat (first | refine ⟨_, rfl, ?_⟩ | refine ⟨rfl, ?_⟩ | refine ⟨_, _, rfl, ?_⟩ | refine iteT ?_ | refine iteF ?_))
theorem t_BadSpot : PySem.SUX.SupT s_BadSpot_init where
  ar := ⟨_, rfl, rfl⟩
  bind := fun s qual kV doc pm an cdv ct cc v => BindsTo.of_eq (by first | rfl | with_unfolding_all rfl)
  bd := ⟨_, _, _, _, _, _, _, none, rfl, fun env he => ⟨fun _ => rfl, ⟨_, rfl⟩⟩⟩
  cell := by decide +kernel
  co := rfl
  gen := rfl
  kind := rfl
  l1 := by decide +kernel
  l2 := by decide +kernel
  l3 := by decide +kernel
section
variable {P : Program} {w : World} {K : PySem.W.Frag} {mg : Str → Option Value} {base : Heap} {f : Addr} {fd : FuncData} {x qual : Str} {st : Stmt} {N ps : List Str} {k : Nat} {s : DSp} {dvs : List V} {kws : List (Str × V)}
theorem fnPD (F : FunD K x qual (defArgs st) (defBody st) (defScope st) dvs kws f fd) (S : FnScope N ps (defScope st)) (hl : ∀ ds Q E, s ds Q E → ds.length = ps.length)
    (body : ∀ (cdv : Value) (A : Around) (outer : List PySem.Env) (sh : Shared) (H : Hp) (E : XK) (W : Wd), Room k (A.deeper (envOfC qual (defScope st) sh.heap.objs.size f cdv)) → W = ⟨none, H⟩ →
      ∃ t, BD W (cx0 P w K mg base N qual st f cdv A outer sh H E) (defBody st) t ∧ ∀ ds Q EQ, s ds Q EQ → t { nx := fun _ => Q .non, rt := Q } (startD N ds)) : FnOk P w K mg base CX0 (k + 1) f fd ps (spP K s) := by
  refine F.ok S (fun vs H Q E h => ?_) (fun cdv A outer sh H vs Q E hr h => ?_)
  · obtain ⟨ds, Q', EQ, r, h, _⟩ := h
    rw [r.len]
    exact hl ds Q' EQ h
  · obtain ⟨ds, Q', EQ, r, h, kk, _⟩ := h
    obtain ⟨t, ht, q⟩ := body cdv A outer sh H E ⟨none, H⟩ hr rfl
    exact ⟨_, PSs.nox (ht), startD N ds, _, env_start r, q ds Q' EQ h, ⟨fun σ' H' ρ' er _ z => kk _ H' .non er.stp Rep.non' z, fun v H' x st _ r z => kk v H' x st r z, fun _ _ _ _ _ z => z, fun _ _ _ _ _ z => z⟩⟩
theorem okD_is_whole (F : FunD K "is_whole" "is_whole" (defArgs s_is_whole) (defBody s_is_whole) (defScope s_is_whole) dvs kws f fd) (T : Glob mg) : FnOk P w K mg base CX0 4 f fd ["thing", "low", "high"] (spP K S_is_whole) := by
  refine fnPD F sc_is_whole (by intro ds Q E h; unfold S_is_whole at h; repeat (first | (obtain ⟨rfl, _⟩ := h; rfl) | (obtain ⟨_, h⟩ := h))) fun cdv A outer sh H E W hr eW => ⟨_, (bd_cons (sd_if (wd_or (td_not (td_val (ed_isInt (by rfl) T.n_isinstance (by rfl) T.n_int (ed_var 0)))) (wd_or1 (td_val (ed_isBool (by rfl) T.n_isinstance (by rfl) T.n_bool (ed_var 0))))).pt (bd_one (sd_ret ed_bl)) bd_nil)
    (bd_cons (sd_if (wd_and (td_notN (ed_var 1)) (wd_and1 (td_lt (ed_var 0) (ed_var 1)))).pt (bd_one (sd_ret ed_bl)) bd_nil)
    (bd_cons (sd_if (wd_and (td_notN (ed_var 2)) (wd_and1 (td_gt (ed_var 0) (ed_var 2)))).pt (bd_one (sd_ret ed_bl)) bd_nil)
    (bd_one (sd_ret ed_bl))))), ?_⟩
  rintro ds Q EQ ⟨x, lo, hi, rfl, hp, q⟩
  cases x with
  | ins _ _ _ => cases hp
  | int i =>
    cases lo with
    | none =>
      cases hi with
      | none => walk_at "rd"; exact q
      | some h =>
        walk_at "rd"
        refine ifB (fun c => ?_) (fun c => ?_)
        · have e : wholeQ (.int i) none (some h) = false := by simp [wholeQ]; omega
          rw [e] at q; exact q
        · have e : wholeQ (.int i) none (some h) = true := by simp [wholeQ]; omega
          rw [e] at q; exact q
    | some l =>
      walk_at "rd"
      refine ifB (fun c => ?_) (fun c => ?_)
      · have e : wholeQ (.int i) (some l) hi = false := by simp [wholeQ]; omega
        rw [e] at q; exact q
      · cases hi with
        | none =>
          walk_at "rd"
          have e : wholeQ (.int i) (some l) none = true := by simp [wholeQ]; omega
          rw [e] at q; exact q
        | some h =>
          walk_at "rd"
          refine ifB (fun d => ?_) (fun d => ?_)
          · have e : wholeQ (.int i) (some l) (some h) = false := by simp [wholeQ]; omega
            rw [e] at q; exact q
          · have e : wholeQ (.int i) (some l) (some h) = true := by simp [wholeQ]; omega
            rw [e] at q; exact q
  | _ => walk_at "rd"; exact q

end
section
variable {K : PySem.W.Frag} {h : Heap} {mg : Str → Option Value}
theorem tupA_ok {a : Addr} {vs : List V} (h : tupA K a vs = true) (H : Hp) : SqT K H a vs := by
  unfold tupA at h
  cases q : K.lookup a with
  | none =>
    rw [q] at h
    cases h
  | some o =>
    obtain ⟨oc, od, dt, osl⟩ := o
    rw [q] at h
    cases oc with
    | type c =>
      cases dt with
      | seq its n =>
        obtain ⟨h1, h2⟩ := He.ba (show (decide (c = "tuple") && (decide (its.size ≤ sizeLine) && He.relAll vs its.toList)) = true from h)
        obtain ⟨h3, h4⟩ := He.ba h2
        exact .inr ⟨_, its, n, q, congrArg Value.type (of_decide_eq_true h1), rfl, of_decide_eq_true h3, He.relAll_ok h4⟩
      | _ => cases h
    | _ => cases dt <;> cases h
theorem rat_ok {a : Addr} {r : Rat} {i j : Int} (t : tupA K a [.int i, .int j] = true) (e : ratD r = .tup [.int i, .int j]) (H : Hp) : Rep K H (ratD r) (.ref a) := by
  rw [e]
  exact Rep.tup' (tupA_ok t H) (Reps.cons Rep.int' (Reps.one Rep.int'))
theorem glv_int {x : Str} {i : Int} (m : ∃ t, mg x = some (.int i t)) : Glv K mg x (.int i) := by
  obtain ⟨t, m⟩ := m
  exact ⟨.int i, _, m, ⟨t, rfl⟩, fun _ => Rep.int'⟩
theorem glv_ref {x : Str} {a : Addr} {y : D} (m : mg x = some (.ref a)) (r : ∀ H, Rep K H y (.ref a)) : Glv K mg x y := ⟨.ref a, _, m, rfl, r⟩
theorem vec_ok {a b c : Addr} {r r2 : Rat} (t : tupA K a [.ref b, .ref c] = true) (h1 : ∀ H, Rep K H (ratD r) (.ref b)) (h2 : ∀ H, Rep K H (ratD r2) (.ref c)) (H : Hp) : Rep K H (vecD r r2) (.ref a) :=
  Rep.tup' (tupA_ok t H) (Reps.cons (h1 H) (Reps.one (h2 H)))
theorem oex_ok {C : Addr} (h : oexB K C = true) : ∃ nm q N bs bm sn sub ab col dd k0 k1 k2 k3 k5, K.lookup C = some (excClassObj nm q C N bs bm true sn sub ab col dd k0 k1 k2 k3 k5 "ValueError.__new__") ∧ PySem.HandSPX.refsVE bm = true := by
  unfold oexB at h
  cases q : K.lookup C with
  | none =>
    rw [q] at h
    cases h
  | some o =>
    obtain ⟨oc, od, dt, osl⟩ := o
    rw [q] at h
    cases oc with
    | type t =>
      cases dt with
      | cls cd =>
        dsimp only at h
        split at h
        · rename_i C' bm k0 k1 k2 k3 n k5 e1 e2
          simp only [Bool.and_eq_true, decide_eq_true_eq, Bool.not_eq_true'] at h
          obtain ⟨rfl, rfl, rfl, h4, h5, h6⟩ := h
          obtain ⟨c1, c2, c3, c4, c5, c6, c7, c8, c9, c10, c11⟩ := cd
          obtain ⟨sl⟩ := osl
          have e1 : c3 = _ := e1
          have e2 : sl = _ := e2
          have h4 : c6 = true := h4
          have h5 : c11 = false := h5
          subst e1 e2 h4 h5
          exact ⟨_, _, _, _, _, _, _, _, _, _, _, _, _, _, _, rfl, h6⟩
        · cases h
      | _ => cases h
    | _ => cases dt <;> cases h
theorem bad_of {x q : Str} {C fI cda cc : Addr} {st : Stmt} (hg : He.ga K x = C) (hm : mg x = some (.ref C)) (hs : mg "super" = none) (s : supB K C fI cda cc q = true)
    (e : He.fnW K (x, some "__init__") = (some ("__init__", q, defArgs st, FuncBody.stmts (defBody st), defScope st, mainGlobals, [("__class__", cc)], builtinsNs) : He.FnW)) (t : PySem.SUX.SupT st) :
    Bad (PySem.Challenge.rw_stillarms_k20_whole_heights_and_belts_fo).prog K mg C st x := by
  unfold supB at s
  simp only [Bool.and_eq_true, decide_eq_true_eq] at s
  obtain ⟨o, s1, s2, s3, s4, s5, s6, s7, s8, s9, s10, s11, s12⟩ := s
  refine ⟨⟨fI, ⟨⟨oex_ok o, s1, s2, s3, s4⟩, s5, s6, ?_, s8, s9, s10, s11, ⟨_, _, F.excBase_ValueError, s12⟩, hs, by decide +kernel⟩⟩, hm, t⟩
  have ef : He.fAd K (x, some "__init__") = fI := by
    show He.ma K (He.ga K x) "__init__" = fI
    unfold He.ma
    rw [hg, s5]
  unfold He.fnW at e
  rw [ef] at e
  unfold iniB at s7
  simp only [Bool.and_eq_true] at s7
  obtain ⟨i1, i2, i3, i4⟩ := s7
  cases l : K.lookup fI with
  | none =>
    rw [l] at i1
    cases i1
  | some o =>
    obtain ⟨oc, od, dt, osl⟩ := o
    rw [l] at i1 e
    cases dt with
    | func fd =>
      obtain ⟨n1, n2, n3, n4, n5, n6, n7, n8, n9, n10, n11, n12, n13, n14, n15⟩ := fd
      have e2 : (some (n1, n2, n3, n4, n5, n6, n7, n15) : He.FnW) = _ := e
      simp only [Option.some.injEq, Prod.mk.injEq] at e2
      obtain ⟨h1, h2, h3, h4, h5, h6, h7, h8⟩ := e2
      subst h1 h2 h3 h4 h5 h6 h7 h8
      dsimp only at i1
      split at i1
      · rename_i c
        have i1 : c = cda := of_decide_eq_true i1
        subst i1
        cases l2 : K.lookup c with
        | none =>
          rw [l2] at i3
          cases i3
        | some o2 =>
          obtain ⟨oc2, od2, dt2, osl2⟩ := o2
          rw [l2] at i3
          cases dt2 with
          | fields vs =>
            dsimp only at i3
            split at i3
            · rename_i file tf ev
              cases l3 : K.lookup cc with
              | none =>
                rw [l3] at i4
                cases i4
              | some o3 =>
                obtain ⟨oc3, od3, dt3, osl3⟩ := o3
                rw [l3] at i4
                try dsimp only at i4
                split at i4
                · rename_i D sl3 ed
                  have i4 : D = C := of_decide_eq_true i4
                  subst i4
                  cases ed
                  exact ⟨_, _, _, _, _, _, _, _, _, _, _, _, _, _, _, cc, _, file, tf, vs, rfl, i2, l2, ev, i3, l3⟩
                · cases i4
            · cases i3
          | _ => cases i3
      · cases i1
    | _ => cases i1
end
end SA
end

section
set_option Elab.async false
set_option linter.all false
set_option maxRecDepth 100000
set_option maxHeartbeats 4000000
namespace SA
open PySem PySem.Spec PyProof.Rows L2 DL RM
section
variable {P : Program} {w : World} {K : PySem.W.Frag} {h : Heap} {mg : Str → Option Value} {base : Heap}
theorem e_is_ratio (c : He.SaysD fa fn K) : ∃ fd, Fun K "is_ratio" "is_ratio" s_is_ratio (He.ga K "is_ratio") fd := by
  obtain ⟨fd, D⟩ := c.def_ 1 (d := d_is_ratio) rfl
  exact ⟨fd, He5.fun_of D⟩
theorem cal_is_ratio (X : K.In h) (G : h.Ns mainGlobals mg) (c : He.SaysD fa fn K) (D1_is_whole : CalD P w K mg base 4 "is_whole" (spP K S_is_whole) [.non]) (D2_is_whole : CalD P w K mg base 4 "is_whole" (spP K S_is_whole) [.non, .non]) (T : Glob mg) : Cal P w K mg base CX0 5 "is_ratio" (spP K S_is_ratio) := by
  obtain ⟨fd, F⟩ := e_is_ratio c
  exact ⟨_, fd, _, ok_is_ratio F D1_is_whole D2_is_whole T, He.glo_ok X G (c.fact 1 (f := .glo "is_ratio") rfl), F.kp, F.binds fun _ _ _ _ _ _ us hl => match us, hl with | [_], _ => rfl⟩
theorem e_lowest_terms (c : He.SaysD fa fn K) : ∃ fd, Fun K "lowest_terms" "lowest_terms" s_lowest_terms (He.ga K "lowest_terms") fd := by
  obtain ⟨fd, D⟩ := c.def_ 2 (d := d_lowest_terms) rfl
  exact ⟨fd, He5.fun_of D⟩
theorem cal_lowest_terms (X : K.In h) (G : h.Ns mainGlobals mg) (c : He.SaysD fa fn K) (T : Glob mg) : Cal P w K mg base CX0 4 "lowest_terms" (spP K S_lowest_terms) := by
  obtain ⟨fd, F⟩ := e_lowest_terms c
  exact ⟨_, fd, _, ok_lowest_terms F T, He.glo_ok X G (c.fact 2 (f := .glo "lowest_terms") rfl), F.kp, F.binds fun _ _ _ _ _ _ us hl => match us, hl with | [_, _], _ => rfl⟩
theorem e_plus (c : He.SaysD fa fn K) : ∃ fd, Fun K "plus" "plus" s_plus (He.ga K "plus") fd := by
  obtain ⟨fd, D⟩ := c.def_ 3 (d := d_plus) rfl
  exact ⟨fd, He5.fun_of D⟩
theorem cal_plus (X : K.In h) (G : h.Ns mainGlobals mg) (c : He.SaysD fa fn K) (G_lowest_terms : Cal P w K mg base CX0 4 "lowest_terms" (spP K S_lowest_terms)) : Cal P w K mg base CX0 5 "plus" (spP K S_plus) := by
  obtain ⟨fd, F⟩ := e_plus c
  exact ⟨_, fd, _, ok_plus F G_lowest_terms, He.glo_ok X G (c.fact 3 (f := .glo "plus") rfl), F.kp, F.binds fun _ _ _ _ _ _ us hl => match us, hl with | [_, _], _ => rfl⟩
theorem e_minus (c : He.SaysD fa fn K) : ∃ fd, Fun K "minus" "minus" s_minus (He.ga K "minus") fd := by
  obtain ⟨fd, D⟩ := c.def_ 4 (d := d_minus) rfl
  exact ⟨fd, He5.fun_of D⟩
theorem cal_minus (X : K.In h) (G : h.Ns mainGlobals mg) (c : He.SaysD fa fn K) (G_lowest_terms : Cal P w K mg base CX0 4 "lowest_terms" (spP K S_lowest_terms)) : Cal P w K mg base CX0 5 "minus" (spP K S_minus) := by
  obtain ⟨fd, F⟩ := e_minus c
  exact ⟨_, fd, _, ok_minus F G_lowest_terms, He.glo_ok X G (c.fact 4 (f := .glo "minus") rfl), F.kp, F.binds fun _ _ _ _ _ _ us hl => match us, hl with | [_, _], _ => rfl⟩
theorem e_times (c : He.SaysD fa fn K) : ∃ fd, Fun K "times" "times" s_times (He.ga K "times") fd := by
  obtain ⟨fd, D⟩ := c.def_ 5 (d := d_times) rfl
  exact ⟨fd, He5.fun_of D⟩
theorem cal_times (X : K.In h) (G : h.Ns mainGlobals mg) (c : He.SaysD fa fn K) (G_lowest_terms : Cal P w K mg base CX0 4 "lowest_terms" (spP K S_lowest_terms)) : Cal P w K mg base CX0 5 "times" (spP K S_times) := by
  obtain ⟨fd, F⟩ := e_times c
  exact ⟨_, fd, _, ok_times F G_lowest_terms, He.glo_ok X G (c.fact 5 (f := .glo "times") rfl), F.kp, F.binds fun _ _ _ _ _ _ us hl => match us, hl with | [_, _], _ => rfl⟩
theorem e_size_of (c : He.SaysD fa fn K) : ∃ fd, Fun K "size_of" "size_of" s_size_of (He.ga K "size_of") fd := by
  obtain ⟨fd, D⟩ := c.def_ 6 (d := d_size_of) rfl
  exact ⟨fd, He5.fun_of D⟩
theorem cal_size_of (X : K.In h) (G : h.Ns mainGlobals mg) (c : He.SaysD fa fn K) (T : Glob mg) : Cal P w K mg base CX0 4 "size_of" (spP K S_size_of) := by
  obtain ⟨fd, F⟩ := e_size_of c
  exact ⟨_, fd, _, ok_size_of F T, He.glo_ok X G (c.fact 6 (f := .glo "size_of") rfl), F.kp, F.binds fun _ _ _ _ _ _ us hl => match us, hl with | [_], _ => rfl⟩
theorem e_compare (c : He.SaysD fa fn K) : ∃ fd, Fun K "compare" "compare" s_compare (He.ga K "compare") fd := by
  obtain ⟨fd, D⟩ := c.def_ 7 (d := d_compare) rfl
  exact ⟨fd, He5.fun_of D⟩
theorem cal_compare (X : K.In h) (G : h.Ns mainGlobals mg) (c : He.SaysD fa fn K)  : Cal P w K mg base CX0 4 "compare" (spP K S_compare) := by
  obtain ⟨fd, F⟩ := e_compare c
  exact ⟨_, fd, _, ok_compare F , He.glo_ok X G (c.fact 7 (f := .glo "compare") rfl), F.kp, F.binds fun _ _ _ _ _ _ us hl => match us, hl with | [_, _], _ => rfl⟩
theorem e_sum_of (c : He.SaysD fa fn K) : ∃ fd, Fun K "sum_of" "sum_of" s_sum_of (He.ga K "sum_of") fd := by
  obtain ⟨fd, D⟩ := c.def_ 8 (d := d_sum_of) rfl
  exact ⟨fd, He5.fun_of D⟩
theorem cal_sum_of (X : K.In h) (G : h.Ns mainGlobals mg) (c : He.SaysD fa fn K) (G_ZERO : Glv K mg "ZERO" (ratD 0)) (G_plus : Cal P w K mg base CX0 5 "plus" (spP K S_plus)) : Cal P w K mg base CX0 6 "sum_of" (spP K S_sum_of) := by
  obtain ⟨fd, F⟩ := e_sum_of c
  exact ⟨_, fd, _, ok_sum_of F G_ZERO G_plus, He.glo_ok X G (c.fact 8 (f := .glo "sum_of") rfl), F.kp, F.binds fun _ _ _ _ _ _ us hl => match us, hl with | [_], _ => rfl⟩
theorem e_greatest_of (c : He.SaysD fa fn K) : ∃ fd, Fun K "greatest_of" "greatest_of" s_greatest_of (He.ga K "greatest_of") fd := by
  obtain ⟨fd, D⟩ := c.def_ 9 (d := d_greatest_of) rfl
  exact ⟨fd, He5.fun_of D⟩
theorem cal_greatest_of (X : K.In h) (G : h.Ns mainGlobals mg) (c : He.SaysD fa fn K) (G_compare : Cal P w K mg base CX0 4 "compare" (spP K S_compare)) : Cal P w K mg base CX0 5 "greatest_of" (spP K S_greatest_of) := by
  obtain ⟨fd, F⟩ := e_greatest_of c
  exact ⟨_, fd, _, ok_greatest_of F G_compare, He.glo_ok X G (c.fact 9 (f := .glo "greatest_of") rfl), F.kp, F.binds fun _ _ _ _ _ _ us hl => match us, hl with | [_], _ => rfl⟩
theorem e_is_spot (c : He.SaysD fa fn K) : ∃ fd, Fun K "is_spot" "is_spot" s_is_spot (He.ga K "is_spot") fd := by
  obtain ⟨fd, D⟩ := c.def_ 10 (d := d_is_spot) rfl
  exact ⟨fd, He5.fun_of D⟩
theorem cal_is_spot (X : K.In h) (G : h.Ns mainGlobals mg) (c : He.SaysD fa fn K) (G_is_ratio : Cal P w K mg base CX0 5 "is_ratio" (spP K S_is_ratio)) (T : Glob mg) : Cal P w K mg base CX0 6 "is_spot" (spP K S_is_spot) := by
  obtain ⟨fd, F⟩ := e_is_spot c
  exact ⟨_, fd, _, ok_is_spot F G_is_ratio T, He.glo_ok X G (c.fact 10 (f := .glo "is_spot") rfl), F.kp, F.binds fun _ _ _ _ _ _ us hl => match us, hl with | [_], _ => rfl⟩
theorem e_check_spot (c : He.SaysD fa fn K) : ∃ fd, Fun K "check_spot" "check_spot" s_check_spot (He.ga K "check_spot") fd := by
  obtain ⟨fd, D⟩ := c.def_ 11 (d := d_check_spot) rfl
  exact ⟨fd, He5.fun_of D⟩
theorem cal_check_spot (X : K.In h) (G : h.Ns mainGlobals mg) (c : He.SaysD fa fn K) (B_BadSpot : Bad P K mg C_BadSpot s_BadSpot_init "BadSpot") (G_is_spot : Cal P w K mg base CX0 6 "is_spot" (spP K S_is_spot)) (T : Glob mg) : Cal P w K mg base (L2.CX P w) 7 "check_spot" (spP K S_check_spot) := by
  obtain ⟨fd, F⟩ := e_check_spot c
  exact ⟨_, fd, _, ok_check_spot F B_BadSpot G_is_spot T, He.glo_ok X G (c.fact 11 (f := .glo "check_spot") rfl), F.kp, F.binds fun _ _ _ _ _ _ us hl => match us, hl with | [_], _ => rfl⟩
theorem e_square_sum (c : He.SaysD fa fn K) : ∃ fd, Fun K "square_sum" "square_sum" s_square_sum (He.ga K "square_sum") fd := by
  obtain ⟨fd, D⟩ := c.def_ 12 (d := d_square_sum) rfl
  exact ⟨fd, He5.fun_of D⟩
theorem cal_square_sum (X : K.In h) (G : h.Ns mainGlobals mg) (c : He.SaysD fa fn K) (G_plus : Cal P w K mg base CX0 5 "plus" (spP K S_plus)) (G_times : Cal P w K mg base CX0 5 "times" (spP K S_times)) : Cal P w K mg base CX0 6 "square_sum" (spP K S_square_sum) := by
  obtain ⟨fd, F⟩ := e_square_sum c
  exact ⟨_, fd, _, ok_square_sum F G_plus G_times, He.glo_ok X G (c.fact 12 (f := .glo "square_sum") rfl), F.kp, F.binds fun _ _ _ _ _ _ us hl => match us, hl with | [_], _ => rfl⟩
theorem e_is_row (c : He.SaysD fa fn K) : ∃ fd, Fun K "is_row" "is_row" s_is_row (He.ga K "is_row") fd := by
  obtain ⟨fd, D⟩ := c.def_ 13 (d := d_is_row) rfl
  exact ⟨fd, He5.fun_of D⟩
theorem cal_is_row (X : K.In h) (G : h.Ns mainGlobals mg) (c : He.SaysD fa fn K) (T : Glob mg) : Cal P w K mg base CX0 4 "is_row" (spP K S_is_row) := by
  obtain ⟨fd, F⟩ := e_is_row c
  exact ⟨_, fd, _, ok_is_row F T, He.glo_ok X G (c.fact 13 (f := .glo "is_row") rfl), F.kp, F.binds fun _ _ _ _ _ _ us hl => match us, hl with | [_, _, _], _ => rfl⟩
theorem e_take_row (c : He.SaysD fa fn K) : ∃ fd, Fun K "take_row" "take_row" s_take_row (He.ga K "take_row") fd := by
  obtain ⟨fd, D⟩ := c.def_ 14 (d := d_take_row) rfl
  exact ⟨fd, He5.fun_of D⟩
theorem cal_take_row (X : K.In h) (G : h.Ns mainGlobals mg) (c : He.SaysD fa fn K) (G_minus : Cal P w K mg base CX0 5 "minus" (spP K S_minus)) (T : Glob mg) : Cal P w K mg base CX0 6 "take_row" (spP K S_take_row) := by
  obtain ⟨fd, F⟩ := e_take_row c
  exact ⟨_, fd, _, ok_take_row F G_minus T, He.glo_ok X G (c.fact 14 (f := .glo "take_row") rfl), F.kp, F.binds fun _ _ _ _ _ _ us hl => match us, hl with | [_, _], _ => rfl⟩
theorem e_is_place_form (c : He.SaysD fa fn K) : ∃ fd, Fun K "is_place_form" "is_place_form" s_is_place_form (He.ga K "is_place_form") fd := by
  obtain ⟨fd, D⟩ := c.def_ 15 (d := d_is_place_form) rfl
  exact ⟨fd, He5.fun_of D⟩
theorem cal_is_place_form (X : K.In h) (G : h.Ns mainGlobals mg) (c : He.SaysD fa fn K) (G_MAST : Glv K mg "MAST" (.int (-1))) (G_is_ratio : Cal P w K mg base CX0 5 "is_ratio" (spP K S_is_ratio)) (G_is_row : Cal P w K mg base CX0 4 "is_row" (spP K S_is_row)) (G_is_whole : Cal P w K mg base CX0 4 "is_whole" (spP K S_is_whole)) : Cal P w K mg base CX0 6 "is_place_form" (spP K S_is_place_form) := by
  obtain ⟨fd, F⟩ := e_is_place_form c
  exact ⟨_, fd, _, ok_is_place_form F G_MAST G_is_ratio G_is_row G_is_whole, He.glo_ok X G (c.fact 15 (f := .glo "is_place_form") rfl), F.kp, F.binds fun _ _ _ _ _ _ us hl => match us, hl with | [_, _], _ => rfl⟩
theorem e_check_place (c : He.SaysD fa fn K) : ∃ fd, Fun K "check_place" "check_place" s_check_place (He.ga K "check_place") fd := by
  obtain ⟨fd, D⟩ := c.def_ 16 (d := d_check_place) rfl
  exact ⟨fd, He5.fun_of D⟩
theorem cal_check_place (X : K.In h) (G : h.Ns mainGlobals mg) (c : He.SaysD fa fn K) (B_BadPlace : Bad P K mg C_BadPlace s_BadPlace_init "BadPlace") (G_Arms_len : Met P w K mg base CX0 4 C_Arms "__len__" (spP K S_Arms_len)) (G_is_place_form : Cal P w K mg base CX0 6 "is_place_form" (spP K S_is_place_form)) (T : Glob mg) : Cal P w K mg base (L2.CX P w) 7 "check_place" (spP K S_check_place) := by
  obtain ⟨fd, F⟩ := e_check_place c
  exact ⟨_, fd, _, ok_check_place F B_BadPlace G_Arms_len G_is_place_form T, He.glo_ok X G (c.fact 16 (f := .glo "check_place") rfl), F.kp, F.binds fun _ _ _ _ _ _ us hl => match us, hl with | [_, _], _ => rfl⟩
theorem e_bad_bar (c : He.SaysD fa fn K) : ∃ fd, Fun K "bad_bar" "bad_bar" s_bad_bar (He.ga K "bad_bar") fd := by
  obtain ⟨fd, D⟩ := c.def_ 17 (d := d_bad_bar) rfl
  exact ⟨fd, He5.fun_of D⟩
theorem cal_bad_bar (X : K.In h) (G : h.Ns mainGlobals mg) (c : He.SaysD fa fn K) (G_MAST : Glv K mg "MAST" (.int (-1))) (G_MOST_LETTERS : Glv K mg "MOST_LETTERS" (.int 4)) (G_is_ratio : Cal P w K mg base CX0 5 "is_ratio" (spP K S_is_ratio)) (G_is_row : Cal P w K mg base CX0 4 "is_row" (spP K S_is_row)) (G_is_whole : Cal P w K mg base CX0 4 "is_whole" (spP K S_is_whole)) : Cal P w K mg base CX0 6 "bad_bar" (spP K S_bad_bar) := by
  obtain ⟨fd, F⟩ := e_bad_bar c
  exact ⟨_, fd, _, ok_bad_bar F G_MAST G_MOST_LETTERS G_is_ratio G_is_row G_is_whole, He.glo_ok X G (c.fact 17 (f := .glo "bad_bar") rfl), F.kp, F.binds fun _ _ _ _ _ _ us hl => match us, hl with | [_, _], _ => rfl⟩
theorem e_check_bars (c : He.SaysD fa fn K) : ∃ fd, Fun K "check_bars" "check_bars" s_check_bars (He.ga K "check_bars") fd := by
  obtain ⟨fd, D⟩ := c.def_ 18 (d := d_check_bars) rfl
  exact ⟨fd, He5.fun_of D⟩
theorem cal_check_bars (X : K.In h) (G : h.Ns mainGlobals mg) (c : He.SaysD fa fn K) (G_MOST_BARS : Glv K mg "MOST_BARS" (.int 6)) (G_bad_bar : Cal P w K mg base CX0 6 "bad_bar" (spP K S_bad_bar)) (G_is_row : Cal P w K mg base CX0 4 "is_row" (spP K S_is_row)) (T : Glob mg) : Cal P w K mg base CX0 7 "check_bars" (spP K S_check_bars) := by
  obtain ⟨fd, F⟩ := e_check_bars c
  exact ⟨_, fd, _, ok_check_bars F G_MOST_BARS G_bad_bar G_is_row T, He.glo_ok X G (c.fact 18 (f := .glo "check_bars") rfl), F.kp, F.binds fun _ _ _ _ _ _ us hl => match us, hl with | [_], _ => rfl⟩
theorem e_Arms_init (c : He.SaysD fa fn K) : ∃ fd, Fun K "__init__" "Arms.__init__" s_Arms_init (He.ma K (He.ga K "Arms") "__init__") fd := by
  obtain ⟨fd, D⟩ := c.def_ 19 (d := d_Arms_init) rfl
  exact ⟨fd, He5.fun_of D⟩
theorem cal_Arms_init (X : K.In h) (G : h.Ns mainGlobals mg) (c : He.SaysD fa fn K) (eA : He.ga K "Arms" = C_Arms) (G_check_bars : Cal P w K mg base CX0 7 "check_bars" (spP K S_check_bars)) (T : Glob mg) (c_Arms : Cls K C_Arms) (na_bars : NoAttr K C_Arms "bars") (na_letters : NoAttr K C_Arms "letters") : Mks P w K mg base 8 "Arms" C_Arms (spI K C_Arms S_Arms_init) := by
  obtain ⟨fd, F⟩ := e_Arms_init c
  have M := He.mkr_ok (c.fact 100 (f := .mkr "Arms") rfl)
  have m := He.glo_ok X G (c.fact 74 (f := .glo "Arms") rfl)
  rw [eA] at M m F
  exact ⟨_, fd, _, ok_Arms_init F G_check_bars T c_Arms na_bars na_letters, M, m, F.binds fun _ _ _ _ _ _ us hl => match us, hl with | [_, _], _ => rfl⟩
theorem e_Arms_len (c : He.SaysD fa fn K) : ∃ fd, Fun K "__len__" "Arms.__len__" s_Arms_len (He.ma K (He.ga K "Arms") "__len__") fd := by
  obtain ⟨fd, D⟩ := c.def_ 20 (d := d_Arms_len) rfl
  exact ⟨fd, He5.fun_of D⟩
theorem cal_Arms_len (c : He.SaysD fa fn K) (eA : He.ga K "Arms" = C_Arms) (T : Glob mg) (c_Arms : Cls K C_Arms) (na_bars : NoAttr K C_Arms "bars") : Met P w K mg base CX0 4 C_Arms "__len__" (spP K S_Arms_len) := by
  obtain ⟨fd, F⟩ := e_Arms_len c
  have M := He.meth_ok (c.fact 107 (f := .meth "Arms" "__len__") rfl)
  rw [eA] at M F
  exact ⟨_, fd, _, ok_Arms_len F T c_Arms na_bars, M, F.binds fun _ _ _ _ _ _ us hl => match us, hl with | [_], _ => rfl⟩
theorem e_Arms_line_row (c : He.SaysD fa fn K) : ∃ fd, Fun K "line_row" "Arms.line_row" s_Arms_line_row (He.ma K (He.ga K "Arms") "line_row") fd := by
  obtain ⟨fd, D⟩ := c.def_ 21 (d := d_Arms_line_row) rfl
  exact ⟨fd, He5.fun_of D⟩
theorem cal_Arms_line_row (c : He.SaysD fa fn K) (eA : He.ga K "Arms" = C_Arms) (G_ZERO : Glv K mg "ZERO" (ratD 0)) (G_plus : Cal P w K mg base CX0 5 "plus" (spP K S_plus)) (T : Glob mg) (c_Arms : Cls K C_Arms) (na_bars : NoAttr K C_Arms "bars") (na_letters : NoAttr K C_Arms "letters") : Met P w K mg base CX0 6 C_Arms "line_row" (spP K S_Arms_line_row) := by
  obtain ⟨fd, F⟩ := e_Arms_line_row c
  have M := He.meth_ok (c.fact 108 (f := .meth "Arms" "line_row") rfl)
  rw [eA] at M F
  exact ⟨_, fd, _, ok_Arms_line_row F G_ZERO G_plus T c_Arms na_bars na_letters, M, F.binds fun _ _ _ _ _ _ us hl => match us, hl with | [_, _, _], _ => rfl⟩
theorem e_Arms_row_of (c : He.SaysD fa fn K) : ∃ fd, Fun K "row_of" "Arms.row_of" s_Arms_row_of (He.ma K (He.ga K "Arms") "row_of") fd := by
  obtain ⟨fd, D⟩ := c.def_ 22 (d := d_Arms_row_of) rfl
  exact ⟨fd, He5.fun_of D⟩
theorem cal_Arms_row_of (c : He.SaysD fa fn K) (eA : He.ga K "Arms" = C_Arms) (G_check_place : Cal P w K mg base (L2.CX P w) 7 "check_place" (spP K S_check_place)) (M_Arms_line_row : Met P w K mg base CX0 6 C_Arms "line_row" (spP K S_Arms_line_row)) (c_Arms : Cls K C_Arms) : Met P w K mg base (L2.CX P w) 8 C_Arms "row_of" (spP K S_Arms_row_of) := by
  obtain ⟨fd, F⟩ := e_Arms_row_of c
  have M := He.meth_ok (c.fact 109 (f := .meth "Arms" "row_of") rfl)
  rw [eA] at M F
  exact ⟨_, fd, _, ok_Arms_row_of F G_check_place M_Arms_line_row c_Arms, M, F.binds fun _ _ _ _ _ _ us hl => match us, hl with | [_, _], _ => rfl⟩
theorem e_Arms_difference_row (c : He.SaysD fa fn K) : ∃ fd, Fun K "difference_row" "Arms.difference_row" s_Arms_difference_row (He.ma K (He.ga K "Arms") "difference_row") fd := by
  obtain ⟨fd, D⟩ := c.def_ 23 (d := d_Arms_difference_row) rfl
  exact ⟨fd, He5.fun_of D⟩
theorem cal_Arms_difference_row (c : He.SaysD fa fn K) (eA : He.ga K "Arms" = C_Arms) (G_take_row : Cal P w K mg base CX0 6 "take_row" (spP K S_take_row)) (M_Arms_row_of : Met P w K mg base (L2.CX P w) 8 C_Arms "row_of" (spP K S_Arms_row_of)) (c_Arms : Cls K C_Arms) : Met P w K mg base (L2.CX P w) 9 C_Arms "difference_row" (spP K S_Arms_difference_row) := by
  obtain ⟨fd, F⟩ := e_Arms_difference_row c
  have M := He.meth_ok (c.fact 110 (f := .meth "Arms" "difference_row") rfl)
  rw [eA] at M F
  exact ⟨_, fd, _, ok_Arms_difference_row F G_take_row M_Arms_row_of c_Arms, M, F.binds fun _ _ _ _ _ _ us hl => match us, hl with | [_, _, _], _ => rfl⟩
theorem e_spot_of (c : He.SaysD fa fn K) : ∃ fd, Fun K "spot_of" "spot_of" s_spot_of (He.ga K "spot_of") fd := by
  obtain ⟨fd, D⟩ := c.def_ 24 (d := d_spot_of) rfl
  exact ⟨fd, He5.fun_of D⟩
theorem cal_spot_of (X : K.In h) (G : h.Ns mainGlobals mg) (c : He.SaysD fa fn K) (G_ZERO : Glv K mg "ZERO" (ratD 0)) (G_plus : Cal P w K mg base CX0 5 "plus" (spP K S_plus)) (G_times : Cal P w K mg base CX0 5 "times" (spP K S_times)) (T : Glob mg) : Cal P w K mg base CX0 6 "spot_of" (spP K S_spot_of) := by
  obtain ⟨fd, F⟩ := e_spot_of c
  exact ⟨_, fd, _, ok_spot_of F G_ZERO G_plus G_times T, He.glo_ok X G (c.fact 19 (f := .glo "spot_of") rfl), F.kp, F.binds fun _ _ _ _ _ _ us hl => match us, hl with | [_, _], _ => rfl⟩
theorem e_Belt_init (c : He.SaysD fa fn K) : ∃ fd, Fun K "__init__" "Belt.__init__" s_Belt_init (He.ma K (He.ga K "Belt") "__init__") fd := by
  obtain ⟨fd, D⟩ := c.def_ 25 (d := d_Belt_init) rfl
  exact ⟨fd, He5.fun_of D⟩
theorem cal_Belt_init (X : K.In h) (G : h.Ns mainGlobals mg) (c : He.SaysD fa fn K) (eA : He.ga K "Belt" = C_Belt) (c_Belt : Cls K C_Belt) (na_centre : NoAttr K C_Belt "centre") (na_low : NoAttr K C_Belt "low") (na_high : NoAttr K C_Belt "high") : Mks P w K mg base 4 "Belt" C_Belt (spI K C_Belt S_Belt_init) := by
  obtain ⟨fd, F⟩ := e_Belt_init c
  have M := He.mkr_ok (c.fact 101 (f := .mkr "Belt") rfl)
  have m := He.glo_ok X G (c.fact 75 (f := .glo "Belt") rfl)
  rw [eA] at M m F
  exact ⟨_, fd, _, ok_Belt_init F c_Belt na_centre na_low na_high, M, m, F.binds fun _ _ _ _ _ _ us hl => match us, hl with | [_, _, _, _], _ => rfl⟩
theorem e_Belt_eq (c : He.SaysD fa fn K) : ∃ fd, Fun K "__eq__" "Belt.__eq__" s_Belt_eq (He.ma K (He.ga K "Belt") "__eq__") fd := by
  obtain ⟨fd, D⟩ := c.def_ 26 (d := d_Belt_eq) rfl
  exact ⟨fd, He5.fun_of D⟩
theorem cal_Belt_eq (c : He.SaysD fa fn K) (eA : He.ga K "Belt" = C_Belt) (T : Glob mg) (c_Belt : Cls K C_Belt) (isc_Belt : IsiC K C_Belt) (m_Belt : mg "Belt" = some (.ref C_Belt)) (na_centre : NoAttr K C_Belt "centre") (na_high : NoAttr K C_Belt "high") (na_low : NoAttr K C_Belt "low") : Met P w K mg base CX0 4 C_Belt "__eq__" (spP K S_Belt_eq) := by
  obtain ⟨fd, F⟩ := e_Belt_eq c
  have M := He.meth_ok (c.fact 111 (f := .meth "Belt" "__eq__") rfl)
  rw [eA] at M F
  exact ⟨_, fd, _, ok_Belt_eq F T c_Belt isc_Belt m_Belt na_centre na_high na_low, M, F.binds fun _ _ _ _ _ _ us hl => match us, hl with | [_, _], _ => rfl⟩
theorem e_Belt_contains (c : He.SaysD fa fn K) : ∃ fd, Fun K "__contains__" "Belt.__contains__" s_Belt_contains (He.ma K (He.ga K "Belt") "__contains__") fd := by
  obtain ⟨fd, D⟩ := c.def_ 27 (d := d_Belt_contains) rfl
  exact ⟨fd, He5.fun_of D⟩
theorem cal_Belt_contains (c : He.SaysD fa fn K) (eA : He.ga K "Belt" = C_Belt) (G_compare : Cal P w K mg base CX0 4 "compare" (spP K S_compare)) (G_is_spot : Cal P w K mg base CX0 6 "is_spot" (spP K S_is_spot)) (G_minus : Cal P w K mg base CX0 5 "minus" (spP K S_minus)) (G_square_sum : Cal P w K mg base CX0 6 "square_sum" (spP K S_square_sum)) (G_times : Cal P w K mg base CX0 5 "times" (spP K S_times)) (c_Belt : Cls K C_Belt) (na_centre : NoAttr K C_Belt "centre") (na_high : NoAttr K C_Belt "high") (na_low : NoAttr K C_Belt "low") : Met P w K mg base CX0 7 C_Belt "__contains__" (spP K S_Belt_contains) := by
  obtain ⟨fd, F⟩ := e_Belt_contains c
  have M := He.meth_ok (c.fact 112 (f := .meth "Belt" "__contains__") rfl)
  rw [eA] at M F
  exact ⟨_, fd, _, ok_Belt_contains F G_compare G_is_spot G_minus G_square_sum G_times c_Belt na_centre na_high na_low, M, F.binds fun _ _ _ _ _ _ us hl => match us, hl with | [_, _], _ => rfl⟩
theorem e_far_ends (c : He.SaysD fa fn K) : ∃ fd, Fun K "far_ends" "far_ends" s_far_ends (He.ga K "far_ends") fd := by
  obtain ⟨fd, D⟩ := c.def_ 28 (d := d_far_ends) rfl
  exact ⟨fd, He5.fun_of D⟩
theorem cal_far_ends (X : K.In h) (G : h.Ns mainGlobals mg) (c : He.SaysD fa fn K) (G_ZERO : Glv K mg "ZERO" (ratD 0)) (G_greatest_of : Cal P w K mg base CX0 5 "greatest_of" (spP K S_greatest_of)) (G_minus : Cal P w K mg base CX0 5 "minus" (spP K S_minus)) (G_plus : Cal P w K mg base CX0 5 "plus" (spP K S_plus)) (G_size_of : Cal P w K mg base CX0 4 "size_of" (spP K S_size_of)) (G_sum_of : Cal P w K mg base CX0 6 "sum_of" (spP K S_sum_of)) : Cal P w K mg base CX0 7 "far_ends" (spP K S_far_ends) := by
  obtain ⟨fd, F⟩ := e_far_ends c
  exact ⟨_, fd, _, ok_far_ends F G_ZERO G_greatest_of G_minus G_plus G_size_of G_sum_of, He.glo_ok X G (c.fact 20 (f := .glo "far_ends") rfl), F.kp, F.binds fun _ _ _ _ _ _ us hl => match us, hl with | [_], _ => rfl⟩
theorem e_lowest_flat (c : He.SaysD fa fn K) : ∃ fd, Fun K "lowest_flat" "lowest_flat" s_lowest_flat (He.ga K "lowest_flat") fd := by
  obtain ⟨fd, D⟩ := c.def_ 29 (d := d_lowest_flat) rfl
  exact ⟨fd, He5.fun_of D⟩
theorem cal_lowest_flat (X : K.In h) (G : h.Ns mainGlobals mg) (c : He.SaysD fa fn K) (G_DOWN : Glv K mg "DOWN" (downD)) (G_UP : Glv K mg "UP" (upD)) (T : Glob mg) : Cal P w K mg base CX0 4 "lowest_flat" (spP K S_lowest_flat) := by
  obtain ⟨fd, F⟩ := e_lowest_flat c
  exact ⟨_, fd, _, ok_lowest_flat F G_DOWN G_UP T, He.glo_ok X G (c.fact 21 (f := .glo "lowest_flat") rfl), F.kp, F.binds fun _ _ _ _ _ _ us hl => match us, hl with | [_], _ => rfl⟩
theorem e_highest_flat (c : He.SaysD fa fn K) : ∃ fd, Fun K "highest_flat" "highest_flat" s_highest_flat (He.ga K "highest_flat") fd := by
  obtain ⟨fd, D⟩ := c.def_ 30 (d := d_highest_flat) rfl
  exact ⟨fd, He5.fun_of D⟩
theorem cal_highest_flat (X : K.In h) (G : h.Ns mainGlobals mg) (c : He.SaysD fa fn K) (G_DOWN : Glv K mg "DOWN" (downD)) (G_UP : Glv K mg "UP" (upD)) (T : Glob mg) : Cal P w K mg base CX0 4 "highest_flat" (spP K S_highest_flat) := by
  obtain ⟨fd, F⟩ := e_highest_flat c
  exact ⟨_, fd, _, ok_highest_flat F G_DOWN G_UP T, He.glo_ok X G (c.fact 22 (f := .glo "highest_flat") rfl), F.kp, F.binds fun _ _ _ _ _ _ us hl => match us, hl with | [_], _ => rfl⟩
theorem e_below_pose (c : He.SaysD fa fn K) : ∃ fd, Fun K "below_pose" "below_pose" s_below_pose (He.ga K "below_pose") fd := by
  obtain ⟨fd, D⟩ := c.def_ 31 (d := d_below_pose) rfl
  exact ⟨fd, He5.fun_of D⟩
theorem cal_below_pose (X : K.In h) (G : h.Ns mainGlobals mg) (c : He.SaysD fa fn K) (G_UP : Glv K mg "UP" (upD)) (G_lowest_flat : Cal P w K mg base CX0 4 "lowest_flat" (spP K S_lowest_flat)) (G_spot_of : Cal P w K mg base CX0 6 "spot_of" (spP K S_spot_of)) (M_Arms_difference_row : Met P w K mg base (L2.CX P w) 9 C_Arms "difference_row" (spP K S_Arms_difference_row)) (c_Arms : Cls K C_Arms) : Cal P w K mg base (L2.CX P w) 10 "below_pose" (spP K S_below_pose) := by
  obtain ⟨fd, F⟩ := e_below_pose c
  exact ⟨_, fd, _, ok_below_pose F G_UP G_lowest_flat G_spot_of M_Arms_difference_row c_Arms, He.glo_ok X G (c.fact 23 (f := .glo "below_pose") rfl), F.kp, F.binds fun _ _ _ _ _ _ us hl => match us, hl with | [_, _, _], _ => rfl⟩
theorem e_reach_of (c : He.SaysD fa fn K) : ∃ fd, Fun K "reach_of" "reach_of" s_reach_of (He.ga K "reach_of") fd := by
  obtain ⟨fd, D⟩ := c.def_ 32 (d := d_reach_of) rfl
  exact ⟨fd, He5.fun_of D⟩
theorem cal_reach_of (X : K.In h) (G : h.Ns mainGlobals mg) (c : He.SaysD fa fn K) (G_size_of : Cal P w K mg base CX0 4 "size_of" (spP K S_size_of)) (G_sum_of : Cal P w K mg base CX0 6 "sum_of" (spP K S_sum_of)) : Cal P w K mg base CX0 7 "reach_of" (spP K S_reach_of) := by
  obtain ⟨fd, F⟩ := e_reach_of c
  exact ⟨_, fd, _, ok_reach_of F G_size_of G_sum_of, He.glo_ok X G (c.fact 24 (f := .glo "reach_of") rfl), F.kp, F.binds fun _ _ _ _ _ _ us hl => match us, hl with | [_], _ => rfl⟩
theorem e_heights_of (c : He.SaysD fa fn K) : ∃ fd, Fun K "heights_of" "heights_of" s_heights_of (He.ga K "heights_of") fd := by
  obtain ⟨fd, D⟩ := c.def_ 33 (d := d_heights_of) rfl
  exact ⟨fd, He5.fun_of D⟩
theorem cal_heights_of (X : K.In h) (G : h.Ns mainGlobals mg) (c : He.SaysD fa fn K) (G_minus : Cal P w K mg base CX0 5 "minus" (spP K S_minus)) (G_plus : Cal P w K mg base CX0 5 "plus" (spP K S_plus)) (G_reach_of : Cal P w K mg base CX0 7 "reach_of" (spP K S_reach_of)) (M_Arms_row_of : Met P w K mg base (L2.CX P w) 8 C_Arms "row_of" (spP K S_Arms_row_of)) (c_Arms : Cls K C_Arms) : Cal P w K mg base (L2.CX P w) 9 "heights_of" (spP K S_heights_of) := by
  obtain ⟨fd, F⟩ := e_heights_of c
  exact ⟨_, fd, _, ok_heights_of F G_minus G_plus G_reach_of M_Arms_row_of c_Arms, He.glo_ok X G (c.fact 25 (f := .glo "heights_of") rfl), F.kp, F.binds fun _ _ _ _ _ _ us hl => match us, hl with | [_, _], _ => rfl⟩
theorem e_height_poses (c : He.SaysD fa fn K) : ∃ fd, Fun K "height_poses" "height_poses" s_height_poses (He.ga K "height_poses") fd := by
  obtain ⟨fd, D⟩ := c.def_ 34 (d := d_height_poses) rfl
  exact ⟨fd, He5.fun_of D⟩
theorem cal_height_poses (X : K.In h) (G : h.Ns mainGlobals mg) (c : He.SaysD fa fn K) (G_highest_flat : Cal P w K mg base CX0 4 "highest_flat" (spP K S_highest_flat)) (G_lowest_flat : Cal P w K mg base CX0 4 "lowest_flat" (spP K S_lowest_flat)) (M_Arms_row_of : Met P w K mg base (L2.CX P w) 8 C_Arms "row_of" (spP K S_Arms_row_of)) (c_Arms : Cls K C_Arms) : Cal P w K mg base (L2.CX P w) 9 "height_poses" (spP K S_height_poses) := by
  obtain ⟨fd, F⟩ := e_height_poses c
  exact ⟨_, fd, _, ok_height_poses F G_highest_flat G_lowest_flat M_Arms_row_of c_Arms, He.glo_ok X G (c.fact 26 (f := .glo "height_poses") rfl), F.kp, F.binds fun _ _ _ _ _ _ us hl => match us, hl with | [_, _], _ => rfl⟩
theorem e_belt_of (c : He.SaysD fa fn K) : ∃ fd, Fun K "belt_of" "belt_of" s_belt_of (He.ga K "belt_of") fd := by
  obtain ⟨fd, D⟩ := c.def_ 35 (d := d_belt_of) rfl
  exact ⟨fd, He5.fun_of D⟩
theorem cal_belt_of (X : K.In h) (G : h.Ns mainGlobals mg) (c : He.SaysD fa fn K) (G_far_ends : Cal P w K mg base CX0 7 "far_ends" (spP K S_far_ends)) (K_Belt : Mks P w K mg base 4 "Belt" C_Belt (spI K C_Belt S_Belt_init)) (M_Arms_row_of : Met P w K mg base (L2.CX P w) 8 C_Arms "row_of" (spP K S_Arms_row_of)) (c_Arms : Cls K C_Arms) : Cal P w K mg base (L2.CX P w) 9 "belt_of" (spP K S_belt_of) := by
  obtain ⟨fd, F⟩ := e_belt_of c
  exact ⟨_, fd, _, ok_belt_of F G_far_ends K_Belt M_Arms_row_of c_Arms, He.glo_ok X G (c.fact 27 (f := .glo "belt_of") rfl), F.kp, F.binds fun _ _ _ _ _ _ us hl => match us, hl with | [_, _], _ => rfl⟩
theorem e_can_come_to (c : He.SaysD fa fn K) : ∃ fd, Fun K "can_come_to" "can_come_to" s_can_come_to (He.ga K "can_come_to") fd := by
  obtain ⟨fd, D⟩ := c.def_ 36 (d := d_can_come_to) rfl
  exact ⟨fd, He5.fun_of D⟩
theorem cal_can_come_to (X : K.In h) (G : h.Ns mainGlobals mg) (c : He.SaysD fa fn K) (G_Belt_contains : Met P w K mg base CX0 7 C_Belt "__contains__" (spP K S_Belt_contains)) (G_belt_of : Cal P w K mg base (L2.CX P w) 9 "belt_of" (spP K S_belt_of)) (G_check_spot : Cal P w K mg base (L2.CX P w) 7 "check_spot" (spP K S_check_spot)) : Cal P w K mg base (L2.CX P w) 10 "can_come_to" (spP K S_can_come_to) := by
  obtain ⟨fd, F⟩ := e_can_come_to c
  exact ⟨_, fd, _, ok_can_come_to F G_Belt_contains G_belt_of G_check_spot, He.glo_ok X G (c.fact 28 (f := .glo "can_come_to") rfl), F.kp, F.binds fun _ _ _ _ _ _ us hl => match us, hl with | [_, _, _], _ => rfl⟩
theorem e_law_hand (c : He.SaysD fa fn K) : ∃ fd, Fun K "_law_hand" "_law_hand" s_law_hand (He.ga K "_law_hand") fd := by
  obtain ⟨fd, D⟩ := c.def_ 37 (d := d_law_hand) rfl
  exact ⟨fd, He5.fun_of D⟩
theorem cal_law_hand (X : K.In h) (G : h.Ns mainGlobals mg) (c : He.SaysD fa fn K) (T : Glob mg) : Cal P w K mg base CX0 4 "_law_hand" (sp_hand K) := by
  obtain ⟨fd, F⟩ := e_law_hand c
  exact ⟨_, fd, _, ok_law_hand F T, He.glo_ok X G (c.fact 29 (f := .glo "_law_hand") rfl), F.kp, F.binds fun _ _ _ _ _ _ us hl => match us, hl with | [_], _ => rfl⟩
theorem e_law_take (c : He.SaysD fa fn K) : ∃ fd, Fun K "_law_take" "_law_take" s_law_take (He.ga K "_law_take") fd := by
  obtain ⟨fd, D⟩ := c.def_ 38 (d := d_law_take) rfl
  exact ⟨fd, He5.fun_of D⟩
theorem cal_law_take (X : K.In h) (G : h.Ns mainGlobals mg) (c : He.SaysD fa fn K) (T : Glob mg) : Cal P w K mg base CX0 4 "_law_take" (spH K S_law_take) := by
  obtain ⟨fd, F⟩ := e_law_take c
  exact ⟨_, fd, _, ok_law_take F T, He.glo_ok X G (c.fact 30 (f := .glo "_law_take") rfl), F.kp, F.binds fun _ _ _ _ _ _ us hl => match us, hl with | [_, _], _ => rfl⟩
theorem e_law_gcd (c : He.SaysD fa fn K) : ∃ fd, Fun K "_law_gcd" "_law_gcd" s_law_gcd (He.ga K "_law_gcd") fd := by
  obtain ⟨fd, D⟩ := c.def_ 39 (d := d_law_gcd) rfl
  exact ⟨fd, He5.fun_of D⟩
theorem cal_law_gcd (X : K.In h) (G : h.Ns mainGlobals mg) (c : He.SaysD fa fn K) (T : Glob mg) : Cal P w K mg base CX0 4 "_law_gcd" (spP K S_law_gcd) := by
  obtain ⟨fd, F⟩ := e_law_gcd c
  exact ⟨_, fd, _, ok_law_gcd F T, He.glo_ok X G (c.fact 31 (f := .glo "_law_gcd") rfl), F.kp, F.binds fun _ _ _ _ _ _ us hl => match us, hl with | [_, _], _ => rfl⟩
theorem e_law_ratio (c : He.SaysD fa fn K) : ∃ fd, Fun K "_law_ratio" "_law_ratio" s_law_ratio (He.ga K "_law_ratio") fd := by
  obtain ⟨fd, D⟩ := c.def_ 40 (d := d_law_ratio) rfl
  exact ⟨fd, He5.fun_of D⟩
theorem cal_law_ratio (X : K.In h) (G : h.Ns mainGlobals mg) (c : He.SaysD fa fn K) (G_law_gcd : Cal P w K mg base CX0 4 "_law_gcd" (spP K S_law_gcd)) : Cal P w K mg base CX0 5 "_law_ratio" (spP K S_law_ratio) := by
  obtain ⟨fd, F⟩ := e_law_ratio c
  exact ⟨_, fd, _, ok_law_ratio F G_law_gcd, He.glo_ok X G (c.fact 32 (f := .glo "_law_ratio") rfl), F.kp, F.binds fun _ _ _ _ _ _ us hl => match us, hl with | [_, _], _ => rfl⟩
theorem e_law_plus (c : He.SaysD fa fn K) : ∃ fd, Fun K "_law_plus" "_law_plus" s_law_plus (He.ga K "_law_plus") fd := by
  obtain ⟨fd, D⟩ := c.def_ 41 (d := d_law_plus) rfl
  exact ⟨fd, He5.fun_of D⟩
theorem cal_law_plus (X : K.In h) (G : h.Ns mainGlobals mg) (c : He.SaysD fa fn K) (G_law_ratio : Cal P w K mg base CX0 5 "_law_ratio" (spP K S_law_ratio)) : Cal P w K mg base CX0 6 "_law_plus" (spP K S_law_plus) := by
  obtain ⟨fd, F⟩ := e_law_plus c
  exact ⟨_, fd, _, ok_law_plus F G_law_ratio, He.glo_ok X G (c.fact 33 (f := .glo "_law_plus") rfl), F.kp, F.binds fun _ _ _ _ _ _ us hl => match us, hl with | [_, _], _ => rfl⟩
theorem e_law_less (c : He.SaysD fa fn K) : ∃ fd, Fun K "_law_less" "_law_less" s_law_less (He.ga K "_law_less") fd := by
  obtain ⟨fd, D⟩ := c.def_ 42 (d := d_law_less) rfl
  exact ⟨fd, He5.fun_of D⟩
theorem cal_law_less (X : K.In h) (G : h.Ns mainGlobals mg) (c : He.SaysD fa fn K) (G_law_ratio : Cal P w K mg base CX0 5 "_law_ratio" (spP K S_law_ratio)) : Cal P w K mg base CX0 6 "_law_less" (spP K S_law_less) := by
  obtain ⟨fd, F⟩ := e_law_less c
  exact ⟨_, fd, _, ok_law_less F G_law_ratio, He.glo_ok X G (c.fact 34 (f := .glo "_law_less") rfl), F.kp, F.binds fun _ _ _ _ _ _ us hl => match us, hl with | [_, _], _ => rfl⟩
theorem e_law_times (c : He.SaysD fa fn K) : ∃ fd, Fun K "_law_times" "_law_times" s_law_times (He.ga K "_law_times") fd := by
  obtain ⟨fd, D⟩ := c.def_ 43 (d := d_law_times) rfl
  exact ⟨fd, He5.fun_of D⟩
theorem cal_law_times (X : K.In h) (G : h.Ns mainGlobals mg) (c : He.SaysD fa fn K) (G_law_ratio : Cal P w K mg base CX0 5 "_law_ratio" (spP K S_law_ratio)) : Cal P w K mg base CX0 6 "_law_times" (spP K S_law_times) := by
  obtain ⟨fd, F⟩ := e_law_times c
  exact ⟨_, fd, _, ok_law_times F G_law_ratio, He.glo_ok X G (c.fact 35 (f := .glo "_law_times") rfl), F.kp, F.binds fun _ _ _ _ _ _ us hl => match us, hl with | [_, _], _ => rfl⟩
theorem e_law_over (c : He.SaysD fa fn K) : ∃ fd, Fun K "_law_over" "_law_over" s_law_over (He.ga K "_law_over") fd := by
  obtain ⟨fd, D⟩ := c.def_ 44 (d := d_law_over) rfl
  exact ⟨fd, He5.fun_of D⟩
theorem cal_law_over (X : K.In h) (G : h.Ns mainGlobals mg) (c : He.SaysD fa fn K) (G_law_ratio : Cal P w K mg base CX0 5 "_law_ratio" (spP K S_law_ratio)) : Cal P w K mg base CX0 6 "_law_over" (spP K S_law_over) := by
  obtain ⟨fd, F⟩ := e_law_over c
  exact ⟨_, fd, _, ok_law_over F G_law_ratio, He.glo_ok X G (c.fact 36 (f := .glo "_law_over") rfl), F.kp, F.binds fun _ _ _ _ _ _ us hl => match us, hl with | [_, _], _ => rfl⟩
theorem e_law_below (c : He.SaysD fa fn K) : ∃ fd, Fun K "_law_below" "_law_below" s_law_below (He.ga K "_law_below") fd := by
  obtain ⟨fd, D⟩ := c.def_ 45 (d := d_law_below) rfl
  exact ⟨fd, He5.fun_of D⟩
theorem cal_law_below (X : K.In h) (G : h.Ns mainGlobals mg) (c : He.SaysD fa fn K)  : Cal P w K mg base CX0 4 "_law_below" (spP K S_law_below) := by
  obtain ⟨fd, F⟩ := e_law_below c
  exact ⟨_, fd, _, ok_law_below F , He.glo_ok X G (c.fact 37 (f := .glo "_law_below") rfl), F.kp, F.binds fun _ _ _ _ _ _ us hl => match us, hl with | [_, _], _ => rfl⟩
theorem e_law_size (c : He.SaysD fa fn K) : ∃ fd, Fun K "_law_size" "_law_size" s_law_size (He.ga K "_law_size") fd := by
  obtain ⟨fd, D⟩ := c.def_ 46 (d := d_law_size) rfl
  exact ⟨fd, He5.fun_of D⟩
theorem cal_law_size (X : K.In h) (G : h.Ns mainGlobals mg) (c : He.SaysD fa fn K) (T : Glob mg) : Cal P w K mg base CX0 4 "_law_size" (spP K S_law_size) := by
  obtain ⟨fd, F⟩ := e_law_size c
  exact ⟨_, fd, _, ok_law_size F T, He.glo_ok X G (c.fact 38 (f := .glo "_law_size") rfl), F.kp, F.binds fun _ _ _ _ _ _ us hl => match us, hl with | [_], _ => rfl⟩
theorem e_law_sum (c : He.SaysD fa fn K) : ∃ fd, Fun K "_law_sum" "_law_sum" s_law_sum (He.ga K "_law_sum") fd := by
  obtain ⟨fd, D⟩ := c.def_ 47 (d := d_law_sum) rfl
  exact ⟨fd, He5.fun_of D⟩
theorem cal_law_sum (X : K.In h) (G : h.Ns mainGlobals mg) (c : He.SaysD fa fn K) (G_law_plus : Cal P w K mg base CX0 6 "_law_plus" (spP K S_law_plus)) : Cal P w K mg base CX0 7 "_law_sum" (spP K S_law_sum) := by
  obtain ⟨fd, F⟩ := e_law_sum c
  exact ⟨_, fd, _, ok_law_sum F G_law_plus, He.glo_ok X G (c.fact 39 (f := .glo "_law_sum") rfl), F.kp, F.binds fun _ _ _ _ _ _ us hl => match us, hl with | [_], _ => rfl⟩
theorem e_law_is_ratio (c : He.SaysD fa fn K) : ∃ fd, Fun K "_law_is_ratio" "_law_is_ratio" s_law_is_ratio (He.ga K "_law_is_ratio") fd := by
  obtain ⟨fd, D⟩ := c.def_ 48 (d := d_law_is_ratio) rfl
  exact ⟨fd, He5.fun_of D⟩
theorem cal_law_is_ratio (X : K.In h) (G : h.Ns mainGlobals mg) (c : He.SaysD fa fn K) (G_law_gcd : Cal P w K mg base CX0 4 "_law_gcd" (spP K S_law_gcd)) (T : Glob mg) : Cal P w K mg base CX0 5 "_law_is_ratio" (spP K S_law_is_ratio) := by
  obtain ⟨fd, F⟩ := e_law_is_ratio c
  exact ⟨_, fd, _, ok_law_is_ratio F G_law_gcd T, He.glo_ok X G (c.fact 40 (f := .glo "_law_is_ratio") rfl), F.kp, F.binds fun _ _ _ _ _ _ us hl => match us, hl with | [_], _ => rfl⟩
theorem e_law_mark (c : He.SaysD fa fn K) : ∃ fd, Fun K "_law_mark" "_law_mark" s_law_mark (He.ga K "_law_mark") fd := by
  obtain ⟨fd, D⟩ := c.def_ 49 (d := d_law_mark) rfl
  exact ⟨fd, He5.fun_of D⟩
theorem cal_law_mark (X : K.In h) (G : h.Ns mainGlobals mg) (c : He.SaysD fa fn K) (G_law_ratio : Cal P w K mg base CX0 5 "_law_ratio" (spP K S_law_ratio)) (G_law_take : Cal P w K mg base CX0 4 "_law_take" (spH K S_law_take)) : Cal P w K mg base CX0 6 "_law_mark" (spH K S_law_mark) := by
  obtain ⟨fd, F⟩ := e_law_mark c
  exact ⟨_, fd, _, ok_law_mark F G_law_ratio G_law_take, He.glo_ok X G (c.fact 41 (f := .glo "_law_mark") rfl), F.kp, F.binds fun _ _ _ _ _ _ us hl => match us, hl with | [_], _ => rfl⟩
theorem e_law_strength (c : He.SaysD fa fn K) : ∃ fd, Fun K "_law_strength" "_law_strength" s_law_strength (He.ga K "_law_strength") fd := by
  obtain ⟨fd, D⟩ := c.def_ 50 (d := d_law_strength) rfl
  exact ⟨fd, He5.fun_of D⟩
theorem cal_law_strength (X : K.In h) (G : h.Ns mainGlobals mg) (c : He.SaysD fa fn K) (G_law_ratio : Cal P w K mg base CX0 5 "_law_ratio" (spP K S_law_ratio)) (G_law_take : Cal P w K mg base CX0 4 "_law_take" (spH K S_law_take)) : Cal P w K mg base CX0 6 "_law_strength" (spH K S_law_strength) := by
  obtain ⟨fd, F⟩ := e_law_strength c
  exact ⟨_, fd, _, ok_law_strength F G_law_ratio G_law_take, He.glo_ok X G (c.fact 42 (f := .glo "_law_strength") rfl), F.kp, F.binds fun _ _ _ _ _ _ us hl => match us, hl with | [_], _ => rfl⟩
theorem e_law_most (c : He.SaysD fa fn K) : ∃ fd, Fun K "_law_most" "_law_most" s_law_most (He.ga K "_law_most") fd := by
  obtain ⟨fd, D⟩ := c.def_ 51 (d := d_law_most) rfl
  exact ⟨fd, He5.fun_of D⟩
theorem cal_law_most (X : K.In h) (G : h.Ns mainGlobals mg) (c : He.SaysD fa fn K) (T : Glob mg) : Cal P w K mg base CX0 4 "_law_most" (spP K S_law_most) := by
  obtain ⟨fd, F⟩ := e_law_most c
  exact ⟨_, fd, _, ok_law_most F T, He.glo_ok X G (c.fact 43 (f := .glo "_law_most") rfl), F.kp, F.binds fun _ _ _ _ _ _ us hl => match us, hl with | [_], _ => rfl⟩
theorem e_law_row (c : He.SaysD fa fn K) : ∃ fd, Fun K "_law_row" "_law_row" s_law_row (He.ga K "_law_row") fd := by
  obtain ⟨fd, D⟩ := c.def_ 52 (d := d_law_row) rfl
  exact ⟨fd, He5.fun_of D⟩
theorem cal_law_row (X : K.In h) (G : h.Ns mainGlobals mg) (c : He.SaysD fa fn K) (G_law_most : Cal P w K mg base CX0 4 "_law_most" (spP K S_law_most)) (G_law_plus : Cal P w K mg base CX0 6 "_law_plus" (spP K S_law_plus)) (T : Glob mg) : Cal P w K mg base CX0 7 "_law_row" (spP K S_law_row) := by
  obtain ⟨fd, F⟩ := e_law_row c
  exact ⟨_, fd, _, ok_law_row F G_law_most G_law_plus T, He.glo_ok X G (c.fact 44 (f := .glo "_law_row") rfl), F.kp, F.binds fun _ _ _ _ _ _ us hl => match us, hl with | [_, _], _ => rfl⟩
theorem e_law_apart (c : He.SaysD fa fn K) : ∃ fd, Fun K "_law_apart" "_law_apart" s_law_apart (He.ga K "_law_apart") fd := by
  obtain ⟨fd, D⟩ := c.def_ 53 (d := d_law_apart) rfl
  exact ⟨fd, He5.fun_of D⟩
theorem cal_law_apart (X : K.In h) (G : h.Ns mainGlobals mg) (c : He.SaysD fa fn K) (G_law_less : Cal P w K mg base CX0 6 "_law_less" (spP K S_law_less)) (G_law_row : Cal P w K mg base CX0 7 "_law_row" (spP K S_law_row)) (T : Glob mg) : Cal P w K mg base CX0 8 "_law_apart" (spP K S_law_apart) := by
  obtain ⟨fd, F⟩ := e_law_apart c
  exact ⟨_, fd, _, ok_law_apart F G_law_less G_law_row T, He.glo_ok X G (c.fact 45 (f := .glo "_law_apart") rfl), F.kp, F.binds fun _ _ _ _ _ _ us hl => match us, hl with | [_, _, _], _ => rfl⟩
theorem e_law_direction (c : He.SaysD fa fn K) : ∃ fd, Fun K "_law_direction" "_law_direction" s_law_direction (He.ga K "_law_direction") fd := by
  obtain ⟨fd, D⟩ := c.def_ 54 (d := d_law_direction) rfl
  exact ⟨fd, He5.fun_of D⟩
theorem cal_law_direction (X : K.In h) (G : h.Ns mainGlobals mg) (c : He.SaysD fa fn K) (G_law_less : Cal P w K mg base CX0 6 "_law_less" (spP K S_law_less)) (G_law_over : Cal P w K mg base CX0 6 "_law_over" (spP K S_law_over)) (G_law_plus : Cal P w K mg base CX0 6 "_law_plus" (spP K S_law_plus)) (G_law_times : Cal P w K mg base CX0 6 "_law_times" (spP K S_law_times)) : Cal P w K mg base CX0 7 "_law_direction" (spP K S_law_direction) := by
  obtain ⟨fd, F⟩ := e_law_direction c
  exact ⟨_, fd, _, ok_law_direction F G_law_less G_law_over G_law_plus G_law_times, He.glo_ok X G (c.fact 46 (f := .glo "_law_direction") rfl), F.kp, F.binds fun _ _ _ _ _ _ us hl => match us, hl with | [_], _ => rfl⟩
theorem e_law_half (c : He.SaysD fa fn K) : ∃ fd, Fun K "_law_half" "_law_half" s_law_half (He.ga K "_law_half") fd := by
  obtain ⟨fd, D⟩ := c.def_ 55 (d := d_law_half) rfl
  exact ⟨fd, He5.fun_of D⟩
theorem cal_law_half (X : K.In h) (G : h.Ns mainGlobals mg) (c : He.SaysD fa fn K) (G_law_ratio : Cal P w K mg base CX0 5 "_law_ratio" (spP K S_law_ratio)) (G_law_take : Cal P w K mg base CX0 4 "_law_take" (spH K S_law_take)) : Cal P w K mg base CX0 6 "_law_half" (spH K S_law_half) := by
  obtain ⟨fd, F⟩ := e_law_half c
  exact ⟨_, fd, _, ok_law_half F G_law_ratio G_law_take, He.glo_ok X G (c.fact 47 (f := .glo "_law_half") rfl), F.kp, F.binds fun _ _ _ _ _ _ us hl => match us, hl with | [_], _ => rfl⟩
theorem e_law_wide (c : He.SaysD fa fn K) : ∃ fd, Fun K "_law_wide" "_law_wide" s_law_wide (He.ga K "_law_wide") fd := by
  obtain ⟨fd, D⟩ := c.def_ 56 (d := d_law_wide) rfl
  exact ⟨fd, He5.fun_of D⟩
theorem cal_law_wide (X : K.In h) (G : h.Ns mainGlobals mg) (c : He.SaysD fa fn K) (G_law_mark : Cal P w K mg base CX0 6 "_law_mark" (spH K S_law_mark)) (G_law_ratio : Cal P w K mg base CX0 5 "_law_ratio" (spP K S_law_ratio)) (G_law_take : Cal P w K mg base CX0 4 "_law_take" (spH K S_law_take)) : Cal P w K mg base CX0 7 "_law_wide" (spH K S_law_wide) := by
  obtain ⟨fd, F⟩ := e_law_wide c
  exact ⟨_, fd, _, ok_law_wide F G_law_mark G_law_ratio G_law_take, He.glo_ok X G (c.fact 48 (f := .glo "_law_wide") rfl), F.kp, F.binds fun _ _ _ _ _ _ us hl => match us, hl with | [_], _ => rfl⟩
theorem e_law_above (c : He.SaysD fa fn K) : ∃ fd, Fun K "_law_above" "_law_above" s_law_above (He.ga K "_law_above") fd := by
  obtain ⟨fd, D⟩ := c.def_ 57 (d := d_law_above) rfl
  exact ⟨fd, He5.fun_of D⟩
theorem cal_law_above (X : K.In h) (G : h.Ns mainGlobals mg) (c : He.SaysD fa fn K) (G_law_ratio : Cal P w K mg base CX0 5 "_law_ratio" (spP K S_law_ratio)) (G_law_strength : Cal P w K mg base CX0 6 "_law_strength" (spH K S_law_strength)) (G_law_take : Cal P w K mg base CX0 4 "_law_take" (spH K S_law_take)) : Cal P w K mg base CX0 7 "_law_above" (spH K S_law_above) := by
  obtain ⟨fd, F⟩ := e_law_above c
  exact ⟨_, fd, _, ok_law_above F G_law_ratio G_law_strength G_law_take, He.glo_ok X G (c.fact 49 (f := .glo "_law_above") rfl), F.kp, F.binds fun _ _ _ _ _ _ us hl => match us, hl with | [_], _ => rfl⟩
theorem e_law_world (c : He.SaysD fa fn K) : ∃ fd, Fun K "_law_world" "_law_world" s_law_world (He.ga K "_law_world") fd := by
  obtain ⟨fd, D⟩ := c.def_ 58 (d := d_law_world) rfl
  exact ⟨fd, He5.fun_of D⟩
theorem cal_law_world (X : K.In h) (G : h.Ns mainGlobals mg) (c : He.SaysD fa fn K) (G_law_take : Cal P w K mg base CX0 4 "_law_take" (spH K S_law_take)) (G_law_wide : Cal P w K mg base CX0 7 "_law_wide" (spH K S_law_wide)) (T : Glob mg) : Cal P w K mg base CX0 8 "_law_world" (spH K S_law_world) := by
  obtain ⟨fd, F⟩ := e_law_world c
  exact ⟨_, fd, _, ok_law_world F G_law_take G_law_wide T, He.glo_ok X G (c.fact 50 (f := .glo "_law_world") rfl), F.kp, F.binds fun _ _ _ _ _ _ us hl => match us, hl with | [_], _ => rfl⟩
theorem e_law_any_place (c : He.SaysD fa fn K) : ∃ fd, Fun K "_law_any_place" "_law_any_place" s_law_any_place (He.ga K "_law_any_place") fd := by
  obtain ⟨fd, D⟩ := c.def_ 59 (d := d_law_any_place) rfl
  exact ⟨fd, He5.fun_of D⟩
theorem cal_law_any_place (X : K.In h) (G : h.Ns mainGlobals mg) (c : He.SaysD fa fn K) (G_law_take : Cal P w K mg base CX0 4 "_law_take" (spH K S_law_take)) (G_law_wide : Cal P w K mg base CX0 7 "_law_wide" (spH K S_law_wide)) (T : Glob mg) : Cal P w K mg base CX0 8 "_law_any_place" (spH K S_law_any_place) := by
  obtain ⟨fd, F⟩ := e_law_any_place c
  exact ⟨_, fd, _, ok_law_any_place F G_law_take G_law_wide T, He.glo_ok X G (c.fact 51 (f := .glo "_law_any_place") rfl), F.kp, F.binds fun _ _ _ _ _ _ us hl => match us, hl with | [_, _], _ => rfl⟩
theorem e_law_any_half (c : He.SaysD fa fn K) : ∃ fd, Fun K "_law_any_half" "_law_any_half" s_law_any_half (He.ga K "_law_any_half") fd := by
  obtain ⟨fd, D⟩ := c.def_ 60 (d := d_law_any_half) rfl
  exact ⟨fd, He5.fun_of D⟩
theorem cal_law_any_half (X : K.In h) (G : h.Ns mainGlobals mg) (c : He.SaysD fa fn K) (G_law_half : Cal P w K mg base CX0 6 "_law_half" (spH K S_law_half)) (G_law_ratio : Cal P w K mg base CX0 5 "_law_ratio" (spP K S_law_ratio)) (G_law_take : Cal P w K mg base CX0 4 "_law_take" (spH K S_law_take)) : Cal P w K mg base CX0 7 "_law_any_half" (spH K S_law_any_half) := by
  obtain ⟨fd, F⟩ := e_law_any_half c
  exact ⟨_, fd, _, ok_law_any_half F G_law_half G_law_ratio G_law_take, He.glo_ok X G (c.fact 52 (f := .glo "_law_any_half") rfl), F.kp, F.binds fun _ _ _ _ _ _ us hl => match us, hl with | [_], _ => rfl⟩
theorem e_law_any_pose (c : He.SaysD fa fn K) : ∃ fd, Fun K "_law_any_pose" "_law_any_pose" s_law_any_pose (He.ga K "_law_any_pose") fd := by
  obtain ⟨fd, D⟩ := c.def_ 61 (d := d_law_any_pose) rfl
  exact ⟨fd, He5.fun_of D⟩
theorem cal_law_any_pose (X : K.In h) (G : h.Ns mainGlobals mg) (c : He.SaysD fa fn K) (G_law_any_half : Cal P w K mg base CX0 7 "_law_any_half" (spH K S_law_any_half)) (G_law_direction : Cal P w K mg base CX0 7 "_law_direction" (spP K S_law_direction)) (T : Glob mg) : Cal P w K mg base CX0 8 "_law_any_pose" (spH K S_law_any_pose) := by
  obtain ⟨fd, F⟩ := e_law_any_pose c
  exact ⟨_, fd, _, ok_law_any_pose F G_law_any_half G_law_direction T, He.glo_ok X G (c.fact 53 (f := .glo "_law_any_pose") rfl), F.kp, F.binds fun _ _ _ _ _ _ us hl => match us, hl with | [_, _], _ => rfl⟩
theorem e_law_stand (c : He.SaysD fa fn K) : ∃ fd, Fun K "_law_stand" "_law_stand" s_law_stand (He.ga K "_law_stand") fd := by
  obtain ⟨fd, D⟩ := c.def_ 62 (d := d_law_stand) rfl
  exact ⟨fd, He5.fun_of D⟩
theorem cal_law_stand (X : K.In h) (G : h.Ns mainGlobals mg) (c : He.SaysD fa fn K) (G_law_plus : Cal P w K mg base CX0 6 "_law_plus" (spP K S_law_plus)) (G_law_times : Cal P w K mg base CX0 6 "_law_times" (spP K S_law_times)) (T : Glob mg) : Cal P w K mg base CX0 7 "_law_stand" (spP K S_law_stand) := by
  obtain ⟨fd, F⟩ := e_law_stand c
  exact ⟨_, fd, _, ok_law_stand F G_law_plus G_law_times T, He.glo_ok X G (c.fact 54 (f := .glo "_law_stand") rfl), F.kp, F.binds fun _ _ _ _ _ _ us hl => match us, hl with | [_, _, _], _ => rfl⟩
theorem e_law_square (c : He.SaysD fa fn K) : ∃ fd, Fun K "_law_square" "_law_square" s_law_square (He.ga K "_law_square") fd := by
  obtain ⟨fd, D⟩ := c.def_ 63 (d := d_law_square) rfl
  exact ⟨fd, He5.fun_of D⟩
theorem cal_law_square (X : K.In h) (G : h.Ns mainGlobals mg) (c : He.SaysD fa fn K) (G_law_plus : Cal P w K mg base CX0 6 "_law_plus" (spP K S_law_plus)) (G_law_times : Cal P w K mg base CX0 6 "_law_times" (spP K S_law_times)) : Cal P w K mg base CX0 7 "_law_square" (spP K S_law_square) := by
  obtain ⟨fd, F⟩ := e_law_square c
  exact ⟨_, fd, _, ok_law_square F G_law_plus G_law_times, He.glo_ok X G (c.fact 55 (f := .glo "_law_square") rfl), F.kp, F.binds fun _ _ _ _ _ _ us hl => match us, hl with | [_], _ => rfl⟩
theorem e_law_same (c : He.SaysD fa fn K) : ∃ fd, Fun K "_law_same" "_law_same" s_law_same (He.ga K "_law_same") fd := by
  obtain ⟨fd, D⟩ := c.def_ 64 (d := d_law_same) rfl
  exact ⟨fd, He5.fun_of D⟩
theorem cal_law_same (X : K.In h) (G : h.Ns mainGlobals mg) (c : He.SaysD fa fn K) (T : Glob mg) : Cal P w K mg base CX0 4 "_law_same" (spP K S_law_same) := by
  obtain ⟨fd, F⟩ := e_law_same c
  exact ⟨_, fd, _, ok_law_same F T, He.glo_ok X G (c.fact 56 (f := .glo "_law_same") rfl), F.kp, F.binds fun _ _ _ _ _ _ us hl => match us, hl with | [_, _], _ => rfl⟩
theorem e_law_same_row (c : He.SaysD fa fn K) : ∃ fd, Fun K "_law_same_row" "_law_same_row" s_law_same_row (He.ga K "_law_same_row") fd := by
  obtain ⟨fd, D⟩ := c.def_ 65 (d := d_law_same_row) rfl
  exact ⟨fd, He5.fun_of D⟩
theorem cal_law_same_row (X : K.In h) (G : h.Ns mainGlobals mg) (c : He.SaysD fa fn K) (G_law_same : Cal P w K mg base CX0 4 "_law_same" (spP K S_law_same)) (T : Glob mg) : Cal P w K mg base CX0 5 "_law_same_row" (spP K S_law_same_row) := by
  obtain ⟨fd, F⟩ := e_law_same_row c
  exact ⟨_, fd, _, ok_law_same_row F G_law_same T, He.glo_ok X G (c.fact 57 (f := .glo "_law_same_row") rfl), F.kp, F.binds fun _ _ _ _ _ _ us hl => match us, hl with | [_, _], _ => rfl⟩
theorem e_law_same_rows (c : He.SaysD fa fn K) : ∃ fd, Fun K "_law_same_rows" "_law_same_rows" s_law_same_rows (He.ga K "_law_same_rows") fd := by
  obtain ⟨fd, D⟩ := c.def_ 66 (d := d_law_same_rows) rfl
  exact ⟨fd, He5.fun_of D⟩
theorem cal_law_same_rows (X : K.In h) (G : h.Ns mainGlobals mg) (c : He.SaysD fa fn K) (G_law_same_row : Cal P w K mg base CX0 5 "_law_same_row" (spP K S_law_same_row)) (T : Glob mg) : Cal P w K mg base CX0 6 "_law_same_rows" (spP K S_law_same_rows) := by
  obtain ⟨fd, F⟩ := e_law_same_rows c
  exact ⟨_, fd, _, ok_law_same_rows F G_law_same_row T, He.glo_ok X G (c.fact 58 (f := .glo "_law_same_rows") rfl), F.kp, F.binds fun _ _ _ _ _ _ us hl => match us, hl with | [_, _], _ => rfl⟩
theorem e_law_truth (c : He.SaysD fa fn K) : ∃ fd, Fun K "_law_truth" "_law_truth" s_law_truth (He.ga K "_law_truth") fd := by
  obtain ⟨fd, D⟩ := c.def_ 67 (d := d_law_truth) rfl
  exact ⟨fd, He5.fun_of D⟩
theorem cal_law_truth (X : K.In h) (G : h.Ns mainGlobals mg) (c : He.SaysD fa fn K)  : Cal P w K mg base CX0 4 "_law_truth" (spP K S_law_truth) := by
  obtain ⟨fd, F⟩ := e_law_truth c
  exact ⟨_, fd, _, ok_law_truth F , He.glo_ok X G (c.fact 59 (f := .glo "_law_truth") rfl), F.kp, F.binds fun _ _ _ _ _ _ us hl => match us, hl with | [_, _], _ => rfl⟩
theorem e_law_form (c : He.SaysD fa fn K) : ∃ fd, Fun K "_law_form" "_law_form" s_law_form (He.ga K "_law_form") fd := by
  obtain ⟨fd, D⟩ := c.def_ 68 (d := d_law_form) rfl
  exact ⟨fd, He5.fun_of D⟩
theorem cal_law_form (X : K.In h) (G : h.Ns mainGlobals mg) (c : He.SaysD fa fn K) (G_law_take : Cal P w K mg base CX0 4 "_law_take" (spH K S_law_take)) (T : Glob mg) : Cal P w K mg base CX0 5 "_law_form" (spH K S_law_form) := by
  obtain ⟨fd, F⟩ := e_law_form c
  exact ⟨_, fd, _, ok_law_form F G_law_take T, He.glo_ok X G (c.fact 60 (f := .glo "_law_form") rfl), F.kp, F.binds fun _ _ _ _ _ _ us hl => match us, hl with | [_, _], _ => rfl⟩
theorem e_law_is_pose (c : He.SaysD fa fn K) : ∃ fd, Fun K "_law_is_pose" "_law_is_pose" s_law_is_pose (He.ga K "_law_is_pose") fd := by
  obtain ⟨fd, D⟩ := c.def_ 69 (d := d_law_is_pose) rfl
  exact ⟨fd, He5.fun_of D⟩
theorem cal_law_is_pose (X : K.In h) (G : h.Ns mainGlobals mg) (c : He.SaysD fa fn K) (G_law_is_ratio : Cal P w K mg base CX0 5 "_law_is_ratio" (spP K S_law_is_ratio)) (G_law_square : Cal P w K mg base CX0 7 "_law_square" (spP K S_law_square)) (T : Glob mg) : Cal P w K mg base CX0 8 "_law_is_pose" (spP K S_law_is_pose) := by
  obtain ⟨fd, F⟩ := e_law_is_pose c
  exact ⟨_, fd, _, ok_law_is_pose F G_law_is_ratio G_law_square T, He.glo_ok X G (c.fact 61 (f := .glo "_law_is_pose") rfl), F.kp, F.binds fun _ _ _ _ _ _ us hl => match us, hl with | [_, _], _ => rfl⟩
theorem e_law_is_spot (c : He.SaysD fa fn K) : ∃ fd, Fun K "_law_is_spot" "_law_is_spot" s_law_is_spot (He.ga K "_law_is_spot") fd := by
  obtain ⟨fd, D⟩ := c.def_ 70 (d := d_law_is_spot) rfl
  exact ⟨fd, He5.fun_of D⟩
theorem cal_law_is_spot (X : K.In h) (G : h.Ns mainGlobals mg) (c : He.SaysD fa fn K) (G_law_is_ratio : Cal P w K mg base CX0 5 "_law_is_ratio" (spP K S_law_is_ratio)) (T : Glob mg) : Cal P w K mg base CX0 6 "_law_is_spot" (spP K S_law_is_spot) := by
  obtain ⟨fd, F⟩ := e_law_is_spot c
  exact ⟨_, fd, _, ok_law_is_spot F G_law_is_ratio T, He.glo_ok X G (c.fact 62 (f := .glo "_law_is_spot") rfl), F.kp, F.binds fun _ _ _ _ _ _ us hl => match us, hl with | [_], _ => rfl⟩
theorem e_law_odd (c : He.SaysD fa fn K) : ∃ fd, Fun K "_law_odd" "_law_odd" s_law_odd (He.ga K "_law_odd") fd := by
  obtain ⟨fd, D⟩ := c.def_ 71 (d := d_law_odd) rfl
  exact ⟨fd, He5.fun_of D⟩
theorem cal_law_odd (X : K.In h) (G : h.Ns mainGlobals mg) (c : He.SaysD fa fn K) (G_law_take : Cal P w K mg base CX0 4 "_law_take" (spH K S_law_take)) (T : Glob mg) : Cal P w K mg base CX0 5 "_law_odd" (spH K S_law_odd) := by
  obtain ⟨fd, F⟩ := e_law_odd c
  exact ⟨_, fd, _, ok_law_odd F G_law_take T, He.glo_ok X G (c.fact 63 (f := .glo "_law_odd") rfl), F.kp, F.binds fun _ _ _ _ _ _ us hl => match us, hl with | [_], _ => rfl⟩
theorem e_law_spoilt_direction (c : He.SaysD fa fn K) : ∃ fd, Fun K "_law_spoilt_direction" "_law_spoilt_direction" s_law_spoilt_direction (He.ga K "_law_spoilt_direction") fd := by
  obtain ⟨fd, D⟩ := c.def_ 72 (d := d_law_spoilt_direction) rfl
  exact ⟨fd, He5.fun_of D⟩
theorem cal_law_spoilt_direction (X : K.In h) (G : h.Ns mainGlobals mg) (c : He.SaysD fa fn K) (G_law_any_half : Cal P w K mg base CX0 7 "_law_any_half" (spH K S_law_any_half)) (G_law_direction : Cal P w K mg base CX0 7 "_law_direction" (spP K S_law_direction)) (G_law_form : Cal P w K mg base CX0 5 "_law_form" (spH K S_law_form)) (G_law_odd : Cal P w K mg base CX0 5 "_law_odd" (spH K S_law_odd)) (G_law_plus : Cal P w K mg base CX0 6 "_law_plus" (spP K S_law_plus)) (G_law_take : Cal P w K mg base CX0 4 "_law_take" (spH K S_law_take)) (G_law_wide : Cal P w K mg base CX0 7 "_law_wide" (spH K S_law_wide)) : Cal P w K mg base CX0 8 "_law_spoilt_direction" (spH K S_law_spoilt_direction) := by
  obtain ⟨fd, F⟩ := e_law_spoilt_direction c
  exact ⟨_, fd, _, ok_law_spoilt_direction F G_law_any_half G_law_direction G_law_form G_law_odd G_law_plus G_law_take G_law_wide, He.glo_ok X G (c.fact 64 (f := .glo "_law_spoilt_direction") rfl), F.kp, F.binds fun _ _ _ _ _ _ us hl => match us, hl with | [_], _ => rfl⟩
theorem e_law_flat (c : He.SaysD fa fn K) : ∃ fd, Fun K "_law_flat" "_law_flat" s_law_flat (He.ga K "_law_flat") fd := by
  obtain ⟨fd, D⟩ := c.def_ 73 (d := d_law_flat) rfl
  exact ⟨fd, He5.fun_of D⟩
theorem cal_law_flat (X : K.In h) (G : h.Ns mainGlobals mg) (c : He.SaysD fa fn K) (T : Glob mg) : Cal P w K mg base CX0 4 "_law_flat" (spP K S_law_flat) := by
  obtain ⟨fd, F⟩ := e_law_flat c
  exact ⟨_, fd, _, ok_law_flat F T, He.glo_ok X G (c.fact 65 (f := .glo "_law_flat") rfl), F.kp, F.binds fun _ _ _ _ _ _ us hl => match us, hl with | [_], _ => rfl⟩
theorem e_law_ends (c : He.SaysD fa fn K) : ∃ fd, Fun K "_law_ends" "_law_ends" s_law_ends (He.ga K "_law_ends") fd := by
  obtain ⟨fd, D⟩ := c.def_ 74 (d := d_law_ends) rfl
  exact ⟨fd, He5.fun_of D⟩
theorem cal_law_ends (X : K.In h) (G : h.Ns mainGlobals mg) (c : He.SaysD fa fn K) (G_law_below : Cal P w K mg base CX0 4 "_law_below" (spP K S_law_below)) (G_law_less : Cal P w K mg base CX0 6 "_law_less" (spP K S_law_less)) (G_law_size : Cal P w K mg base CX0 4 "_law_size" (spP K S_law_size)) (G_law_sum : Cal P w K mg base CX0 7 "_law_sum" (spP K S_law_sum)) (G_law_times : Cal P w K mg base CX0 6 "_law_times" (spP K S_law_times)) : Cal P w K mg base CX0 8 "_law_ends" (spP K S_law_ends) := by
  obtain ⟨fd, F⟩ := e_law_ends c
  exact ⟨_, fd, _, ok_law_ends F G_law_below G_law_less G_law_size G_law_sum G_law_times, He.glo_ok X G (c.fact 66 (f := .glo "_law_ends") rfl), F.kp, F.binds fun _ _ _ _ _ _ us hl => match us, hl with | [_], _ => rfl⟩
theorem e_law_high (c : He.SaysD fa fn K) : ∃ fd, Fun K "_law_high" "_law_high" s_law_high (He.ga K "_law_high") fd := by
  obtain ⟨fd, D⟩ := c.def_ 75 (d := d_law_high) rfl
  exact ⟨fd, He5.fun_of D⟩
theorem cal_law_high (X : K.In h) (G : h.Ns mainGlobals mg) (c : He.SaysD fa fn K) (G_height_poses : Cal P w K mg base (L2.CX P w) 9 "height_poses" (spP K S_height_poses)) (G_heights_of : Cal P w K mg base (L2.CX P w) 9 "heights_of" (spP K S_heights_of)) (G_law_ends : Cal P w K mg base CX0 8 "_law_ends" (spP K S_law_ends)) (G_law_flat : Cal P w K mg base CX0 4 "_law_flat" (spP K S_law_flat)) (G_law_form : Cal P w K mg base CX0 5 "_law_form" (spH K S_law_form)) (G_law_less : Cal P w K mg base CX0 6 "_law_less" (spP K S_law_less)) (G_law_plus : Cal P w K mg base CX0 6 "_law_plus" (spP K S_law_plus)) (G_law_row : Cal P w K mg base CX0 7 "_law_row" (spP K S_law_row)) (G_law_same_row : Cal P w K mg base CX0 5 "_law_same_row" (spP K S_law_same_row)) (G_law_same_rows : Cal P w K mg base CX0 6 "_law_same_rows" (spP K S_law_same_rows)) (G_law_stand : Cal P w K mg base CX0 7 "_law_stand" (spP K S_law_stand)) (T : Glob mg) : Cal P w K mg base CX0 10 "_law_high" (spH K S_law_high) := by
  obtain ⟨fd, F⟩ := e_law_high c
  exact ⟨_, fd, _, ok_law_high F G_height_poses G_heights_of G_law_ends G_law_flat G_law_form G_law_less G_law_plus G_law_row G_law_same_row G_law_same_rows G_law_stand T, He.glo_ok X G (c.fact 67 (f := .glo "_law_high") rfl), F.kp, F.binds fun _ _ _ _ _ _ us hl => match us, hl with | [_, _, _, _], _ => rfl⟩
theorem e_law_above_other (c : He.SaysD fa fn K) : ∃ fd, Fun K "_law_above_other" "_law_above_other" s_law_above_other (He.ga K "_law_above_other") fd := by
  obtain ⟨fd, D⟩ := c.def_ 76 (d := d_law_above_other) rfl
  exact ⟨fd, He5.fun_of D⟩
theorem cal_law_above_other (X : K.In h) (G : h.Ns mainGlobals mg) (c : He.SaysD fa fn K) (G_below_pose : Cal P w K mg base (L2.CX P w) 10 "below_pose" (spP K S_below_pose)) (G_law_apart : Cal P w K mg base CX0 8 "_law_apart" (spP K S_law_apart)) (G_law_below : Cal P w K mg base CX0 4 "_law_below" (spP K S_law_below)) (G_law_ends : Cal P w K mg base CX0 8 "_law_ends" (spP K S_law_ends)) (G_law_form : Cal P w K mg base CX0 5 "_law_form" (spH K S_law_form)) (G_law_is_pose : Cal P w K mg base CX0 8 "_law_is_pose" (spP K S_law_is_pose)) (G_law_most : Cal P w K mg base CX0 4 "_law_most" (spP K S_law_most)) (G_law_stand : Cal P w K mg base CX0 7 "_law_stand" (spP K S_law_stand)) : Cal P w K mg base CX0 11 "_law_above_other" (spH K S_law_above_other) := by
  obtain ⟨fd, F⟩ := e_law_above_other c
  exact ⟨_, fd, _, ok_law_above_other F G_below_pose G_law_apart G_law_below G_law_ends G_law_form G_law_is_pose G_law_most G_law_stand, He.glo_ok X G (c.fact 68 (f := .glo "_law_above_other") rfl), F.kp, F.binds fun _ _ _ _ _ _ us hl => match us, hl with | [_, _, _, _, _], _ => rfl⟩
theorem e_law_spots (c : He.SaysD fa fn K) : ∃ fd, Fun K "_law_spots" "_law_spots" s_law_spots (He.ga K "_law_spots") fd := by
  obtain ⟨fd, D⟩ := c.def_ 77 (d := d_law_spots) rfl
  exact ⟨fd, He5.fun_of D⟩
theorem cal_law_spots (X : K.In h) (G : h.Ns mainGlobals mg) (c : He.SaysD fa fn K) (G_law_any_half : Cal P w K mg base CX0 7 "_law_any_half" (spH K S_law_any_half)) (G_law_any_pose : Cal P w K mg base CX0 8 "_law_any_pose" (spH K S_law_any_pose)) (G_law_below : Cal P w K mg base CX0 4 "_law_below" (spP K S_law_below)) (G_law_direction : Cal P w K mg base CX0 7 "_law_direction" (spP K S_law_direction)) (G_law_ends : Cal P w K mg base CX0 8 "_law_ends" (spP K S_law_ends)) (G_law_less : Cal P w K mg base CX0 6 "_law_less" (spP K S_law_less)) (G_law_most : Cal P w K mg base CX0 4 "_law_most" (spP K S_law_most)) (G_law_plus : Cal P w K mg base CX0 6 "_law_plus" (spP K S_law_plus)) (G_law_ratio : Cal P w K mg base CX0 5 "_law_ratio" (spP K S_law_ratio)) (G_law_row : Cal P w K mg base CX0 7 "_law_row" (spP K S_law_row)) (G_law_square : Cal P w K mg base CX0 7 "_law_square" (spP K S_law_square)) (G_law_stand : Cal P w K mg base CX0 7 "_law_stand" (spP K S_law_stand)) (G_law_take : Cal P w K mg base CX0 4 "_law_take" (spH K S_law_take)) (G_law_times : Cal P w K mg base CX0 6 "_law_times" (spP K S_law_times)) (G_law_wide : Cal P w K mg base CX0 7 "_law_wide" (spH K S_law_wide)) (T : Glob mg) : Cal P w K mg base CX0 9 "_law_spots" (spH K S_law_spots) := by
  obtain ⟨fd, F⟩ := e_law_spots c
  exact ⟨_, fd, _, ok_law_spots F G_law_any_half G_law_any_pose G_law_below G_law_direction G_law_ends G_law_less G_law_most G_law_plus G_law_ratio G_law_row G_law_square G_law_stand G_law_take G_law_times G_law_wide T, He.glo_ok X G (c.fact 69 (f := .glo "_law_spots") rfl), F.kp, F.binds fun _ _ _ _ _ _ us hl => match us, hl with | [_, _, _], _ => rfl⟩
theorem e_law_called (c : He.SaysD fa fn K) : ∃ fd, Fun K "_law_called" "_law_called" s_law_called (He.ga K "_law_called") fd := by
  obtain ⟨fd, D⟩ := c.def_ 78 (d := d_law_called) rfl
  exact ⟨fd, He5.fun_of D⟩
theorem cal_law_called (X : K.In h) (G : h.Ns mainGlobals mg) (c : He.SaysD fa fn K) (G_can_come_to : Cal P w K mg base (L2.CX P w) 10 "can_come_to" (spP K S_can_come_to)) (G_belt_of : Cal P w K mg base (L2.CX P w) 9 "belt_of" (spP K S_belt_of)) (G_heights_of : Cal P w K mg base (L2.CX P w) 9 "heights_of" (spP K S_heights_of)) (G_height_poses : Cal P w K mg base (L2.CX P w) 9 "height_poses" (spP K S_height_poses)) (G_below_pose : Cal P w K mg base (L2.CX P w) 10 "below_pose" (spP K S_below_pose)) (B_BadPlace : Bad P K mg C_BadPlace s_BadPlace_init "BadPlace") (B_BadSpot : Bad P K mg C_BadSpot s_BadSpot_init "BadSpot") (e11 : PySem.W.exmOne K (.ref C_BadPlace) (.ref C_BadPlace) = some true) (e21 : PySem.W.exmOne K (.ref C_BadSpot) (.ref C_BadPlace) = some false) (e22 : PySem.W.exmOne K (.ref C_BadSpot) (.ref C_BadSpot) = some true) : Cal P w K mg base CX0 11 "_law_called" (spP K S_law_called) := by
  obtain ⟨fd, F⟩ := e_law_called c
  exact ⟨_, fd, _, ok_law_called F G_can_come_to G_belt_of G_heights_of G_height_poses G_below_pose B_BadPlace B_BadSpot e11 e21 e22, He.glo_ok X G (c.fact 70 (f := .glo "_law_called") rfl), F.kp, F.binds fun _ _ _ _ _ _ us hl => match us, hl with | [_, _, _, _], _ => rfl⟩
theorem e_law_belted (c : He.SaysD fa fn K) : ∃ fd, Fun K "_law_belted" "_law_belted" s_law_belted (He.ga K "_law_belted") fd := by
  obtain ⟨fd, D⟩ := c.def_ 79 (d := d_law_belted) rfl
  exact ⟨fd, He5.fun_of D⟩
theorem cal_law_belted (X : K.In h) (G : h.Ns mainGlobals mg) (c : He.SaysD fa fn K) (G_Belt_contains : Met P w K mg base CX0 7 C_Belt "__contains__" (spP K S_Belt_contains)) (G_Belt_eq : Met P w K mg base CX0 4 C_Belt "__eq__" (spP K S_Belt_eq)) (G_belt_of : Cal P w K mg base (L2.CX P w) 9 "belt_of" (spP K S_belt_of)) (G_can_come_to : Cal P w K mg base (L2.CX P w) 10 "can_come_to" (spP K S_can_come_to)) (G_law_called : Cal P w K mg base CX0 11 "_law_called" (spP K S_law_called)) (G_law_ends : Cal P w K mg base CX0 8 "_law_ends" (spP K S_law_ends)) (G_law_form : Cal P w K mg base CX0 5 "_law_form" (spH K S_law_form)) (G_law_is_spot : Cal P w K mg base CX0 6 "_law_is_spot" (spP K S_law_is_spot)) (G_law_plus : Cal P w K mg base CX0 6 "_law_plus" (spP K S_law_plus)) (G_law_row : Cal P w K mg base CX0 7 "_law_row" (spP K S_law_row)) (G_law_same_row : Cal P w K mg base CX0 5 "_law_same_row" (spP K S_law_same_row)) (G_law_spoilt_direction : Cal P w K mg base CX0 8 "_law_spoilt_direction" (spH K S_law_spoilt_direction)) (G_law_spots : Cal P w K mg base CX0 9 "_law_spots" (spH K S_law_spots)) (G_law_take : Cal P w K mg base CX0 4 "_law_take" (spH K S_law_take)) (G_law_truth : Cal P w K mg base CX0 4 "_law_truth" (spP K S_law_truth)) (K_Belt : Mks P w K mg base 4 "Belt" C_Belt (spI K C_Belt S_Belt_init)) (T : Glob mg) (c_Belt : Cls K C_Belt) (isc_Belt : IsiC K C_Belt) (m_Belt : mg "Belt" = some (.ref C_Belt)) (na_centre : NoAttr K C_Belt "centre") (na_high : NoAttr K C_Belt "high") (na_low : NoAttr K C_Belt "low") : Cal P w K mg base CX0 12 "_law_belted" (spH K S_law_belted) := by
  obtain ⟨fd, F⟩ := e_law_belted c
  exact ⟨_, fd, _, ok_law_belted F G_Belt_contains G_Belt_eq G_belt_of G_can_come_to G_law_called G_law_ends G_law_form G_law_is_spot G_law_plus G_law_row G_law_same_row G_law_spoilt_direction G_law_spots G_law_take G_law_truth K_Belt T c_Belt isc_Belt m_Belt na_centre na_high na_low, He.glo_ok X G (c.fact 71 (f := .glo "_law_belted") rfl), F.kp, F.binds fun _ _ _ _ _ _ us hl => match us, hl with | [_, _, _, _], _ => rfl⟩
theorem e_law_closing (c : He.SaysD fa fn K) : ∃ fd, Fun K "_law_closing" "_law_closing" s_law_closing (He.ga K "_law_closing") fd := by
  obtain ⟨fd, D⟩ := c.def_ 80 (d := d_law_closing) rfl
  exact ⟨fd, He5.fun_of D⟩
theorem cal_law_closing (X : K.In h) (G : h.Ns mainGlobals mg) (c : He.SaysD fa fn K) (G_law_above : Cal P w K mg base CX0 7 "_law_above" (spH K S_law_above)) (G_law_plus : Cal P w K mg base CX0 6 "_law_plus" (spP K S_law_plus)) (G_law_take : Cal P w K mg base CX0 4 "_law_take" (spH K S_law_take)) (G_law_times : Cal P w K mg base CX0 6 "_law_times" (spP K S_law_times)) (G_law_wide : Cal P w K mg base CX0 7 "_law_wide" (spH K S_law_wide)) (T : Glob mg) : Cal P w K mg base CX0 8 "_law_closing" (spH K S_law_closing) := by
  obtain ⟨fd, F⟩ := e_law_closing c
  exact ⟨_, fd, _, ok_law_closing F G_law_above G_law_plus G_law_take G_law_times G_law_wide T, He.glo_ok X G (c.fact 72 (f := .glo "_law_closing") rfl), F.kp, F.binds fun _ _ _ _ _ _ us hl => match us, hl with | [_], _ => rfl⟩
theorem e_law (c : He.SaysD fa fn K) : ∃ fd, Fun K "law" "law" s_law (He.ga K "law") fd := by
  obtain ⟨fd, D⟩ := c.def_ 81 (d := d_law) rfl
  exact ⟨fd, He5.fun_of D⟩
theorem is_whole_all (X : K.In h) (G : h.Ns mainGlobals mg) (c : He.SaysD fa fn K) (T : Glob mg) : Cal P w K mg base CX0 4 "is_whole" (spP K S_is_whole) ∧ CalD P w K mg base 4 "is_whole" (spP K S_is_whole) [.non] ∧ CalD P w K mg base 4 "is_whole" (spP K S_is_whole) [.non, .non] := by
  obtain ⟨fd, D⟩ := c.def_ 0 (d := d_is_whole) rfl
  have D : FunD K "is_whole" "is_whole" (defArgs s_is_whole) (defBody s_is_whole) (defScope s_is_whole) [.non, .non] [] (He.ga K "is_whole") fd := D
  have m := He.glo_ok X G (c.fact 0 (f := .glo "is_whole") rfl)
  have O := okD_is_whole (P := P) (w := w) (mg := mg) (base := base) D T
  obtain ⟨d0, v0, b0⟩ := D.binds1 (ps := ["thing", "low", "high"]) 3 2 (by simp) rfl fun T kV doc pm an cdv ct us its hu hi => match us, its, hu, hi with | [_, _, _], [_, _], _, _ => ⟨_, rfl, rfl⟩
  obtain ⟨d1, v1, b1⟩ := D.binds1 (ps := ["thing", "low", "high"]) 2 1 (by simp) rfl fun T kV doc pm an cdv ct us its hu hi => match us, its, hu, hi with | [_, _], [_, _], _, _ => ⟨_, rfl, rfl⟩
  obtain ⟨d2, v2, b2⟩ := D.binds1 (ps := ["thing", "low", "high"]) 1 0 (by simp) rfl fun T kV doc pm an cdv ct us its hu hi => match us, its, hu, hi with | [_], [_, _], _, _ => ⟨_, rfl, rfl⟩
  refine ⟨⟨_, fd, _, O, m, D.kp, ?_⟩, ⟨_, fd, _, d1, O, m, D.kp, b1, v1⟩, ⟨_, fd, _, d2, O, m, D.kp, b2, v2⟩⟩
  have v0 : Vals [] d0 := v0
  cases v0
  exact b0
end
section
variable {w : World} {K : PySem.W.Frag} {h : Heap} {mg : Str → Option Value} {f : Addr}
abbrev PR : Program := (PySem.Challenge.rw_stillarms_k20_whole_heights_and_belts_fo).prog
theorem fun_same {x q x2 q2 : Str} {st : Stmt} {a : Addr} {fd fd2 : FuncData} {dvs : List V} {kws : List (Str × V)} {pa : Arguments} {bo : List Stmt} {sc : Scope} (F : Fun K x q st a fd) (D : FunD K x2 q2 pa bo sc dvs kws a fd2) : fd = fd2 := by
  obtain ⟨oc, od, kV, doc, pm, an, cdv, ct, osl, e, l, _⟩ := F.ex
  obtain ⟨oc2, od2, dV2, kV2, doc2, pm2, an2, cdv2, ct2, osl2, e2, l2, _⟩ := D.ex
  have z := l.symm.trans l2
  simp only [Option.some.injEq, Obj.mk.injEq, Data.func.injEq] at z
  exact z.2.2.1
theorem facts (X : K.In h) (G : h.Ns mainGlobals mg) (hfa : mg ("law" : Str) = some (.ref f)) (c : He.SaysD fa fn K) (xe : ex K = true) (xs : supF K = supV) :
    ∃ fd : FuncData, (∀ (s : Shared) (v : Value), BindsTo s fd ⟨[v], []⟩ [("_law_script", v)]) ∧ ∀ base : Heap, K.In base → base.Ns mainGlobals mg → FnOk PR w K mg base CX0 13 f fd ["_law_script"] (spLaw K) := by
  unfold ex at xe
  simp only [Bool.and_eq_true, decide_eq_true_eq] at xe
  obtain ⟨t1, t2, t3, t4, t5, t6, t7, ⟨e_ZERO, e_UP, e_DOWN, e_Arms, e_Belt, e_BadPlace, e_BadSpot⟩, g1, x1, x2, x3, x4, x5, sb1, sb2⟩ := xe
  have T : Glob mg := ⟨PySem.W.mg_of X G g1, He.free_ok X G (c.fact 86 (f := .free "abs") rfl), He.free_ok X G (c.fact 87 (f := .free "int") rfl), He.free_ok X G (c.fact 88 (f := .free "bool") rfl), He.free_ok X G (c.fact 90 (f := .free "min") rfl), He.free_ok X G (c.fact 89 (f := .free "max") rfl), He.free_ok X G (c.fact 81 (f := .free "len") rfl), He.free_ok X G (c.fact 85 (f := .free "list") rfl), He.free_ok X G (c.fact 84 (f := .free "tuple") rfl), He.free_ok X G (c.fact 82 (f := .free "range") rfl), He.free_ok X G (c.fact 91 (f := .free "zip") rfl), He.free_ok X G (c.fact 92 (f := .free "enumerate") rfl), He.free_ok X G (c.fact 93 (f := .free "sorted") rfl), He.free_ok X G (c.fact 83 (f := .free "isinstance") rfl)⟩
  have m_ZERO := He.glo_ok X G (c.fact 78 (f := .glo "ZERO") rfl)
  rw [e_ZERO] at m_ZERO
  have m_UP := He.glo_ok X G (c.fact 79 (f := .glo "UP") rfl)
  rw [e_UP] at m_UP
  have m_DOWN := He.glo_ok X G (c.fact 80 (f := .glo "DOWN") rfl)
  rw [e_DOWN] at m_DOWN
  have m_Arms := He.glo_ok X G (c.fact 74 (f := .glo "Arms") rfl)
  rw [e_Arms] at m_Arms
  have m_Belt := He.glo_ok X G (c.fact 75 (f := .glo "Belt") rfl)
  rw [e_Belt] at m_Belt
  have m_BadPlace := He.glo_ok X G (c.fact 76 (f := .glo "BadPlace") rfl)
  rw [e_BadPlace] at m_BadPlace
  have m_BadSpot := He.glo_ok X G (c.fact 77 (f := .glo "BadSpot") rfl)
  rw [e_BadSpot] at m_BadSpot
  have r0 := rat_ok (r := 0) t1 (by first | rfl | decide)
  have G_ZERO : Glv K mg "ZERO" (ratD 0) := glv_ref m_ZERO r0
  have G_UP : Glv K mg "UP" (upD) := glv_ref m_UP (vec_ok t4 (rat_ok t2 (by first | rfl | decide)) (rat_ok t3 (by first | rfl | decide)))
  have G_DOWN : Glv K mg "DOWN" (downD) := glv_ref m_DOWN (vec_ok t7 (rat_ok t5 (by first | rfl | decide)) (rat_ok t6 (by first | rfl | decide)))
  have G_MAST : Glv K mg "MAST" (.int (-1)) := glv_int (He.int_ok X G (c.fact 95 (f := .int "MAST" (-1)) rfl))
  have G_MOST_BARS : Glv K mg "MOST_BARS" (.int 6) := glv_int (He.int_ok X G (c.fact 96 (f := .int "MOST_BARS" 6) rfl))
  have G_MOST_LETTERS : Glv K mg "MOST_LETTERS" (.int 4) := glv_int (He.int_ok X G (c.fact 97 (f := .int "MOST_LETTERS" 4) rfl))
  have c_Arms := He.cls_ok (c.fact 98 (f := .cls "Arms") rfl)
  rw [e_Arms] at c_Arms
  have c_Belt := He.cls_ok (c.fact 99 (f := .cls "Belt") rfl)
  rw [e_Belt] at c_Belt
  have na_bars := He.noat_ok (c.fact 102 (f := .noat "Arms" "bars") rfl)
  rw [e_Arms] at na_bars
  have na_letters := He.noat_ok (c.fact 103 (f := .noat "Arms" "letters") rfl)
  rw [e_Arms] at na_letters
  have na_centre := He.noat_ok (c.fact 104 (f := .noat "Belt" "centre") rfl)
  rw [e_Belt] at na_centre
  have na_low := He.noat_ok (c.fact 105 (f := .noat "Belt" "low") rfl)
  rw [e_Belt] at na_low
  have na_high := He.noat_ok (c.fact 106 (f := .noat "Belt" "high") rfl)
  rw [e_Belt] at na_high
  have isc_Belt : IsiC K C_Belt := ⟨c_Belt, x1, x2, x3, x4, x5⟩
  have hsu := He.free_ok X G (c.fact 94 (f := .free "super") rfl)
  have xs1 : He.fnW K ("BadPlace", some "__init__") = _ := (List.cons.inj xs).1
  have xs2 : He.fnW K ("BadSpot", some "__init__") = _ := (List.cons.inj (List.cons.inj xs).2).1
  have B_BadPlace : Bad PR K mg C_BadPlace s_BadPlace_init "BadPlace" := bad_of e_BadPlace m_BadPlace hsu sb1 xs1 t_BadPlace
  have B_BadSpot : Bad PR K mg C_BadSpot s_BadSpot_init "BadSpot" := bad_of e_BadSpot m_BadSpot hsu sb2 xs2 t_BadSpot
  have e11 := He.exm_ok (c.fact 115 (f := .exm "BadPlace" "BadPlace" true) rfl)
  rw [e_BadPlace] at e11
  have e21 := He.exm_ok (c.fact 116 (f := .exm "BadSpot" "BadPlace" false) rfl)
  rw [e_BadSpot, e_BadPlace] at e21
  have e22 := He.exm_ok (c.fact 117 (f := .exm "BadSpot" "BadSpot" true) rfl)
  rw [e_BadSpot] at e22
  obtain ⟨fd, F⟩ := e_law c
  have e := hfa.symm.trans (He.glo_ok X G (c.fact 73 (f := .glo "law") rfl))
  cases e
  refine ⟨fd, fun s v => ?_, fun base _ _ => ?_⟩
  · obtain ⟨fd2, D⟩ := c.def_ 81 (d := d_law) rfl
    have b := FunD.bindsA (ps := ["_law_script"]) D fun _ _ _ _ _ _ us hl => match us, hl with | [_], _ => rfl
    have e1 : fd = fd2 := fun_same F D
    rw [e1]
    exact b s [v] rfl
  obtain ⟨G_is_whole, D1_is_whole, D2_is_whole⟩ := is_whole_all (P := PR) (w := w) (base := base) X G c T
  have G_is_ratio := cal_is_ratio (P := PR) (w := w) (base := base) X G c D1_is_whole D2_is_whole T
  have G_lowest_terms := cal_lowest_terms (P := PR) (w := w) (base := base) X G c T
  have G_size_of := cal_size_of (P := PR) (w := w) (base := base) X G c T
  have G_compare := cal_compare (P := PR) (w := w) (base := base) X G c 
  have G_is_row := cal_is_row (P := PR) (w := w) (base := base) X G c T
  have G_Arms_len := cal_Arms_len (P := PR) (w := w) (base := base) c e_Arms T c_Arms na_bars
  have K_Belt := cal_Belt_init (P := PR) (w := w) (base := base) X G c e_Belt c_Belt na_centre na_low na_high
  have G_Belt_eq := cal_Belt_eq (P := PR) (w := w) (base := base) c e_Belt T c_Belt isc_Belt m_Belt na_centre na_high na_low
  have G_lowest_flat := cal_lowest_flat (P := PR) (w := w) (base := base) X G c G_DOWN G_UP T
  have G_highest_flat := cal_highest_flat (P := PR) (w := w) (base := base) X G c G_DOWN G_UP T
  have G_law_hand := cal_law_hand (P := PR) (w := w) (base := base) X G c T
  have G_law_take := cal_law_take (P := PR) (w := w) (base := base) X G c T
  have G_law_gcd := cal_law_gcd (P := PR) (w := w) (base := base) X G c T
  have G_law_below := cal_law_below (P := PR) (w := w) (base := base) X G c 
  have G_law_size := cal_law_size (P := PR) (w := w) (base := base) X G c T
  have G_law_most := cal_law_most (P := PR) (w := w) (base := base) X G c T
  have G_law_same := cal_law_same (P := PR) (w := w) (base := base) X G c T
  have G_law_truth := cal_law_truth (P := PR) (w := w) (base := base) X G c 
  have G_law_flat := cal_law_flat (P := PR) (w := w) (base := base) X G c T
  have G_plus := cal_plus (P := PR) (w := w) (base := base) X G c G_lowest_terms
  have G_minus := cal_minus (P := PR) (w := w) (base := base) X G c G_lowest_terms
  have G_times := cal_times (P := PR) (w := w) (base := base) X G c G_lowest_terms
  have G_greatest_of := cal_greatest_of (P := PR) (w := w) (base := base) X G c G_compare
  have G_is_spot := cal_is_spot (P := PR) (w := w) (base := base) X G c G_is_ratio T
  have G_is_place_form := cal_is_place_form (P := PR) (w := w) (base := base) X G c G_MAST G_is_ratio G_is_row G_is_whole
  have G_bad_bar := cal_bad_bar (P := PR) (w := w) (base := base) X G c G_MAST G_MOST_LETTERS G_is_ratio G_is_row G_is_whole
  have G_law_ratio := cal_law_ratio (P := PR) (w := w) (base := base) X G c G_law_gcd
  have G_law_is_ratio := cal_law_is_ratio (P := PR) (w := w) (base := base) X G c G_law_gcd T
  have G_law_same_row := cal_law_same_row (P := PR) (w := w) (base := base) X G c G_law_same T
  have G_law_form := cal_law_form (P := PR) (w := w) (base := base) X G c G_law_take T
  have G_law_odd := cal_law_odd (P := PR) (w := w) (base := base) X G c G_law_take T
  have G_sum_of := cal_sum_of (P := PR) (w := w) (base := base) X G c G_ZERO G_plus
  have G_check_spot := cal_check_spot (P := PR) (w := w) (base := base) X G c B_BadSpot G_is_spot T
  have G_square_sum := cal_square_sum (P := PR) (w := w) (base := base) X G c G_plus G_times
  have G_take_row := cal_take_row (P := PR) (w := w) (base := base) X G c G_minus T
  have G_check_place := cal_check_place (P := PR) (w := w) (base := base) X G c B_BadPlace G_Arms_len G_is_place_form T
  have G_check_bars := cal_check_bars (P := PR) (w := w) (base := base) X G c G_MOST_BARS G_bad_bar G_is_row T
  have M_Arms_line_row := cal_Arms_line_row (P := PR) (w := w) (base := base) c e_Arms G_ZERO G_plus T c_Arms na_bars na_letters
  have G_spot_of := cal_spot_of (P := PR) (w := w) (base := base) X G c G_ZERO G_plus G_times T
  have G_law_plus := cal_law_plus (P := PR) (w := w) (base := base) X G c G_law_ratio
  have G_law_less := cal_law_less (P := PR) (w := w) (base := base) X G c G_law_ratio
  have G_law_times := cal_law_times (P := PR) (w := w) (base := base) X G c G_law_ratio
  have G_law_over := cal_law_over (P := PR) (w := w) (base := base) X G c G_law_ratio
  have G_law_mark := cal_law_mark (P := PR) (w := w) (base := base) X G c G_law_ratio G_law_take
  have G_law_strength := cal_law_strength (P := PR) (w := w) (base := base) X G c G_law_ratio G_law_take
  have G_law_half := cal_law_half (P := PR) (w := w) (base := base) X G c G_law_ratio G_law_take
  have G_law_same_rows := cal_law_same_rows (P := PR) (w := w) (base := base) X G c G_law_same_row T
  have G_law_is_spot := cal_law_is_spot (P := PR) (w := w) (base := base) X G c G_law_is_ratio T
  have K_Arms := cal_Arms_init (P := PR) (w := w) (base := base) X G c e_Arms G_check_bars T c_Arms na_bars na_letters
  have M_Arms_row_of := cal_Arms_row_of (P := PR) (w := w) (base := base) c e_Arms G_check_place M_Arms_line_row c_Arms
  have G_Belt_contains := cal_Belt_contains (P := PR) (w := w) (base := base) c e_Belt G_compare G_is_spot G_minus G_square_sum G_times c_Belt na_centre na_high na_low
  have G_far_ends := cal_far_ends (P := PR) (w := w) (base := base) X G c G_ZERO G_greatest_of G_minus G_plus G_size_of G_sum_of
  have G_reach_of := cal_reach_of (P := PR) (w := w) (base := base) X G c G_size_of G_sum_of
  have G_law_sum := cal_law_sum (P := PR) (w := w) (base := base) X G c G_law_plus
  have G_law_row := cal_law_row (P := PR) (w := w) (base := base) X G c G_law_most G_law_plus T
  have G_law_direction := cal_law_direction (P := PR) (w := w) (base := base) X G c G_law_less G_law_over G_law_plus G_law_times
  have G_law_wide := cal_law_wide (P := PR) (w := w) (base := base) X G c G_law_mark G_law_ratio G_law_take
  have G_law_above := cal_law_above (P := PR) (w := w) (base := base) X G c G_law_ratio G_law_strength G_law_take
  have G_law_any_half := cal_law_any_half (P := PR) (w := w) (base := base) X G c G_law_half G_law_ratio G_law_take
  have G_law_stand := cal_law_stand (P := PR) (w := w) (base := base) X G c G_law_plus G_law_times T
  have G_law_square := cal_law_square (P := PR) (w := w) (base := base) X G c G_law_plus G_law_times
  have M_Arms_difference_row := cal_Arms_difference_row (P := PR) (w := w) (base := base) c e_Arms G_take_row M_Arms_row_of c_Arms
  have G_heights_of := cal_heights_of (P := PR) (w := w) (base := base) X G c G_minus G_plus G_reach_of M_Arms_row_of c_Arms
  have G_height_poses := cal_height_poses (P := PR) (w := w) (base := base) X G c G_highest_flat G_lowest_flat M_Arms_row_of c_Arms
  have G_belt_of := cal_belt_of (P := PR) (w := w) (base := base) X G c G_far_ends K_Belt M_Arms_row_of c_Arms
  have G_law_apart := cal_law_apart (P := PR) (w := w) (base := base) X G c G_law_less G_law_row T
  have G_law_world := cal_law_world (P := PR) (w := w) (base := base) X G c G_law_take G_law_wide T
  have G_law_any_place := cal_law_any_place (P := PR) (w := w) (base := base) X G c G_law_take G_law_wide T
  have G_law_any_pose := cal_law_any_pose (P := PR) (w := w) (base := base) X G c G_law_any_half G_law_direction T
  have G_law_is_pose := cal_law_is_pose (P := PR) (w := w) (base := base) X G c G_law_is_ratio G_law_square T
  have G_law_spoilt_direction := cal_law_spoilt_direction (P := PR) (w := w) (base := base) X G c G_law_any_half G_law_direction G_law_form G_law_odd G_law_plus G_law_take G_law_wide
  have G_law_ends := cal_law_ends (P := PR) (w := w) (base := base) X G c G_law_below G_law_less G_law_size G_law_sum G_law_times
  have G_law_closing := cal_law_closing (P := PR) (w := w) (base := base) X G c G_law_above G_law_plus G_law_take G_law_times G_law_wide T
  have G_below_pose := cal_below_pose (P := PR) (w := w) (base := base) X G c G_UP G_lowest_flat G_spot_of M_Arms_difference_row c_Arms
  have G_can_come_to := cal_can_come_to (P := PR) (w := w) (base := base) X G c G_Belt_contains G_belt_of G_check_spot
  have G_law_high := cal_law_high (P := PR) (w := w) (base := base) X G c G_height_poses G_heights_of G_law_ends G_law_flat G_law_form G_law_less G_law_plus G_law_row G_law_same_row G_law_same_rows G_law_stand T
  have G_law_spots := cal_law_spots (P := PR) (w := w) (base := base) X G c G_law_any_half G_law_any_pose G_law_below G_law_direction G_law_ends G_law_less G_law_most G_law_plus G_law_ratio G_law_row G_law_square G_law_stand G_law_take G_law_times G_law_wide T
  have G_law_above_other := cal_law_above_other (P := PR) (w := w) (base := base) X G c G_below_pose G_law_apart G_law_below G_law_ends G_law_form G_law_is_pose G_law_most G_law_stand
  have G_law_called := cal_law_called (P := PR) (w := w) (base := base) X G c G_can_come_to G_belt_of G_heights_of G_height_poses G_below_pose B_BadPlace B_BadSpot e11 e21 e22
  have G_law_belted := cal_law_belted (P := PR) (w := w) (base := base) X G c G_Belt_contains G_Belt_eq G_belt_of G_can_come_to G_law_called G_law_ends G_law_form G_law_is_spot G_law_plus G_law_row G_law_same_row G_law_spoilt_direction G_law_spots G_law_take G_law_truth K_Belt T c_Belt isc_Belt m_Belt na_centre na_high na_low
  exact ok_law F G_law_above_other G_law_any_place G_law_belted G_law_closing G_law_ends G_law_hand G_law_high G_law_less G_law_plus G_law_ratio G_law_row G_law_take G_law_world K_Arms T
end
end SA
end

section
set_option Elab.async false
set_option linter.all false
set_option maxRecDepth 100000
set_option maxHeartbeats 4000000
open PySem PySem.W PySem.Calls PyProof.Rows
theorem PySem.Challenge.cw_stillarms_k20_whole_heights_and_belts_fo_holds : PySem.Challenge.rw_stillarms_k20_whole_heights_and_belts_fo.Holds := by
  w_on; o_law
  refine HandSHeadRun.head_imp (r := OpenLaw.row PySem.Challenge.rw_stillarms_k20_whole_heights_and_belts_fo) (q := view (OpenLaw.row PySem.Challenge.rw_stillarms_k20_whole_heights_and_belts_fo).prog [0, 94]) (H := SA.hk) (ob := SA.ob) (M := 6000) (loose := SA.loose) (d := HandSHeadRun.topDef (OpenLaw.row PySem.Challenge.rw_stillarms_k20_whole_heights_and_belts_fo).prog 94) (kwd := []) SA.ob_eq
    SA.run (by kernel_rfl) (by kernel_rfl) (by kernel_rfl) (by rfl) (by first | assumption | decide +kernel) (by decide +kernel) ⟨rfl, rfl, rfl, rfl, rfl, by decide +kernel⟩ ?hw ?hc
  case hw => w_witness2
  case hc =>
    refine L2.walk_ofE (l := PySem.Challenge.rw_stillarms_k20_whole_heights_and_belts_fo) (n := 63) (k := 13) (x := "_law_script") (CX := L2.CX0) rfl (by decide) (by kernel_rfl) ⟨rfl, by decide, by decide⟩ ?F (fun _ _ _ _ z => z)
    intro w mg fa h Y G hmg0
    obtain ⟨K, KX, c, xe, xs⟩ := Y
    have hmg : mg ("law" : PySem.Str) = some (.ref fa) := by
      have e : (HandSHeadRun.topDef (OpenLaw.row PySem.Challenge.rw_stillarms_k20_whole_heights_and_belts_fo).prog 94).name = ("law" : PySem.Str) := by kernel_rfl
      rw [← e]
      exact hmg0
    obtain ⟨fd, hb, hF⟩ := SA.facts (w := w) KX G hmg c xe xs
    exact ⟨K, fd, SA.spLaw K, KX, hb, fun H a ns hl _ hS => ⟨a, ns, rfl, hS, hl, fun _ => rfl⟩, hF⟩
end
