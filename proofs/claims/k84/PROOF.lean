import PyProof.Rows.All
import Wide.All
import OpenK.AllK
import Wide.FinOn
import HandS.ForExc
import HandS.Comp
import HandS.Dict
import HandS.Iter
import HandS.Wide
import HandS.TupAny
import HandS.TupMul
import HandS.Deep
import HandS.IsInst
import HandS.Style
import HandS.SetFor
import HandS.Star
import HandS.SortInts
import HandS.Zip
import HandS.Walk
import HandS.Conv
import KE.KSortedM
import KE.GoesMore
import KE.GoesEnum
import HandS.Strs
import HandS.Codes
import HandS.RaiseMore
import HandS.ExcInit
import HandS.Nested
import KE.KExcSuper
import HandS.ExcField
import PySem.Challenge.RW_morelistpicks_k84_whole_conditions_over
section
set_option Elab.async false
set_option linter.all false
set_option maxRecDepth 100000
/-! Core of the layer: pure data over the tracked heap, who owns what, steps, judgements. -/
namespace Ip
open PySem L2

abbrev Da := PyData

/-! ### what a value stands for, by a heap of things that never change -/
mutual
inductive Rp (F : Hp) : V → Da → Prop
  | non : Rp F .non .none
  | bl (b : Bool) : Rp F (.bl b) (.bool b)
  | int (i : Int) : Rp F (.int i) (.int i)
  | str (x : Str) : Rp F (.str x) (.str x)
  | lst {a : Addr} {vs : List V} {ds : List Da} : F a = some (.lst vs) → RpL F vs ds → Rp F (.ref a) (.list ds)
  | tup {a : Addr} {vs : List V} {ds : List Da} : F a = some (.tup vs) → RpL F vs ds → Rp F (.ref a) (.tuple ds)
inductive RpL (F : Hp) : List V → List Da → Prop
  | nil : RpL F [] []
  | cons {v : V} {vs : List V} {d : Da} {ds : List Da} : Rp F v d → RpL F vs ds → RpL F (v :: vs) (d :: ds)
end

mutual
theorem Rp.mono {F F' : Hp} (e : ∀ a o, F a = some o → F' a = some o) : ∀ (d : Da) (v : V), Rp F v d → Rp F' v d
  | .none, _, h => by cases h; exact .non
  | .bool b, _, h => by cases h; exact .bl b
  | .int i, _, h => by cases h; exact .int i
  | .str x, _, h => by cases h; exact .str x
  | .list ds, _, h => by
    cases h with
    | lst ha hs => exact .lst (e _ _ ha) (RpL.mono e ds _ hs)
  | .tuple ds, _, h => by
    cases h with
    | tup ha hs => exact .tup (e _ _ ha) (RpL.mono e ds _ hs)
  | .dict _, _, h => by cases h
theorem RpL.mono {F F' : Hp} (e : ∀ a o, F a = some o → F' a = some o) : ∀ (ds : List Da) (vs : List V), RpL F vs ds → RpL F' vs ds
  | [], _, h => by cases h; exact .nil
  | d :: ds, _, h => by
    cases h with
    | cons h1 h2 => exact .cons (Rp.mono e d _ h1) (RpL.mono e ds _ h2)
end
mutual
theorem Rp.dp {K : PySem.W.Frag} {F : Hp} : ∀ (d : Da) (v : V), Rp F v d → Dp K F v d
  | .none, _, h => by cases h; exact .non
  | .bool b, _, h => by cases h; exact .bl b
  | .int i, _, h => by cases h; exact .int i
  | .str x, _, h => by cases h; exact .str x
  | .list ds, _, h => by
    cases h with
    | lst ha hs => exact .lst (.inl (.inl ha)) (RpL.dp ds _ hs)
  | .tuple ds, _, h => by
    cases h with
    | tup ha hs => exact .tup (.inl (.inl ha)) (RpL.dp ds _ hs)
  | .dict _, _, h => by cases h
theorem RpL.dp {K : PySem.W.Frag} {F : Hp} : ∀ (ds : List Da) (vs : List V), RpL F vs ds → DpAll K F vs ds
  | [], _, h => by cases h; exact .nil
  | d :: ds, _, h => by
    cases h with
    | cons h1 h2 => exact .cons (Rp.dp d _ h1) (RpL.dp ds _ h2)
end
theorem RpL.len {F : Hp} : ∀ {ds : List Da} {vs : List V}, RpL F vs ds → vs.length = ds.length
  | [], _, h => by cases h; rfl
  | d :: ds, _, h => by
    cases h with
    | cons h1 h2 => rw [List.length_cons, List.length_cons, RpL.len h2]
theorem RpL.get {F : Hp} : ∀ {ds : List Da} {vs : List V} {i : Nat} {d : Da}, RpL F vs ds → ds[i]? = some d → ∃ v, vs[i]? = some v ∧ Rp F v d
  | [], _, _, _, _, e => by simp at e
  | d :: ds, _, 0, _, h, e => by
    cases h with
    | cons h1 h2 => simp at e; subst e; exact ⟨_, rfl, h1⟩
  | d :: ds, _, i + 1, _, h, e => by
    cases h with
    | cons h1 h2 =>
      obtain ⟨v, q1, q2⟩ := RpL.get (i := i) h2 (by simpa using e)
      exact ⟨v, by simpa using q1, q2⟩
theorem RpL.app {F : Hp} : ∀ {ds es : List Da} {vs ws : List V}, RpL F vs ds → RpL F ws es → RpL F (vs ++ ws) (ds ++ es)
  | [], _, _, _, h, g => by cases h; exact g
  | d :: ds, _, _, _, h, g => by
    cases h with
    | cons h1 h2 => exact .cons h1 (RpL.app h2 g)
theorem RpL.set {F : Hp} {d : Da} {v : V} (r : Rp F v d) : ∀ {ds : List Da} {vs : List V} (i : Nat), RpL F vs ds → RpL F (vs.set i v) (ds.set i d)
  | [], _, _, h => by cases h; exact .nil
  | _ :: ds, _, 0, h => by
    cases h with
    | cons h1 h2 => exact .cons r h2
  | _ :: ds, _, i + 1, h => by
    cases h with
    | cons h1 h2 => exact .cons h1 (RpL.set r i h2)
theorem RpL.take {F : Hp} : ∀ {ds : List Da} {vs : List V} (i : Nat), RpL F vs ds → RpL F (vs.take i) (ds.take i)
  | [], _, i, h => by cases h; simp; exact .nil
  | _ :: ds, _, 0, h => .nil
  | _ :: ds, _, i + 1, h => by
    cases h with
    | cons h1 h2 => exact .cons h1 (RpL.take i h2)
theorem RpL.drop {F : Hp} : ∀ {ds : List Da} {vs : List V} (i : Nat), RpL F vs ds → RpL F (vs.drop i) (ds.drop i)
  | [], _, i, h => by cases h; simp; exact .nil
  | _ :: ds, _, 0, h => h
  | _ :: ds, _, i + 1, h => by
    cases h with
    | cons h1 h2 => exact RpL.drop i h2
theorem RpL.erase {F : Hp} : ∀ {ds : List Da} {vs : List V} (i : Nat), RpL F vs ds → RpL F (vs.eraseIdx i) (ds.eraseIdx i)
  | [], _, i, h => by cases h; simp; exact .nil
  | _ :: ds, _, 0, h => by
    cases h with
    | cons h1 h2 => exact h2
  | _ :: ds, _, i + 1, h => by
    cases h with
    | cons h1 h2 => exact .cons h1 (RpL.erase i h2)
theorem RpL.rev {F : Hp} : ∀ {ds : List Da} {vs : List V}, RpL F vs ds → RpL F vs.reverse ds.reverse
  | [], _, h => by cases h; exact .nil
  | _ :: ds, _, h => by
    cases h with
    | cons h1 h2 =>
      rw [List.reverse_cons, List.reverse_cons]
      exact RpL.app (RpL.rev h2) (.cons h1 .nil)
theorem RpL.rep {F : Hp} {ds : List Da} {vs : List V} (h : RpL F vs ds) : ∀ k : Nat, RpL F (List.replicate k vs).flatten (List.replicate k ds).flatten
  | 0 => .nil
  | k + 1 => by
    rw [List.replicate_succ, List.replicate_succ, List.flatten_cons, List.flatten_cons]
    exact RpL.app h (RpL.rep h k)
theorem RpL.ints {F : Hp} : ∀ (ns : List Int), RpL F (ns.map V.int) (ns.map PyData.int)
  | [] => .nil
  | n :: ns => .cons (.int n) (RpL.ints ns)
theorem RpL.ints_inv {F : Hp} : ∀ {ns : List Int} {vs : List V}, RpL F vs (ns.map PyData.int) → vs = ns.map V.int
  | [], _, h => by cases h; rfl
  | n :: ns, _, h => by
    cases h with
    | cons h1 h2 => cases h1; rw [RpL.ints_inv h2]; rfl
theorem RpL.bools_inv {F : Hp} : ∀ {ns : List Bool} {vs : List V}, RpL F vs (ns.map PyData.bool) → vs = ns.map V.bl
  | [], _, h => by cases h; rfl
  | n :: ns, _, h => by
    cases h with
    | cons h1 h2 => cases h1; rw [RpL.bools_inv h2]; rfl

/-! ### slots -/
inductive Sl where
  | un
  | fz (d : Da)
  | ol (ds : List Da)
  | odK (kvs : List (Key × Da))
  | odT (kvs : List (List Key × Da))
  | dl (cs : List Int) (b : Int)
  /-- a list of ints that stands for good, wherever it lies -/
  | scr (K : PySem.W.Frag) (ns : List Int)
  /-- a caught error -/
  | xs (a dx : Addr) (d : Da)
abbrev En := List Sl
abbrev Ow := Addr → Option Nat
def own (O : Ow) (a : Addr) (i : Option Nat) : Ow := fun b => if b = a then i else O b
theorem own_same {O : Ow} {a : Addr} {i : Option Nat} : own O a i a = i := by unfold own; rw [if_pos rfl]
theorem own_ne {O : Ow} {a b : Addr} {i : Option Nat} (h : b ≠ a) : own O a i b = O b := by unfold own; rw [if_neg h]

/-- an error: the number of its class, what it keeps -/
structure Ex where
  cls : Nat
  at_ : Da

structure Cf where
  K : PySem.W.Frag
  ca : Addr
  pins : List Nat
  E : L2.St → XK
  xc : Nat → Addr

theorem SqL.on {K : PySem.W.Frag} {F F' : Hp} {a : Addr} {xs : List V} (e : ∀ a o, F a = some o → F' a = some o) (h : SqL K F a xs) : SqL K F' a xs := by
  rcases h with (h | ⟨o, h⟩) | h
  · exact .inl (.inl (e _ _ h))
  · exact .inl (.inr ⟨o, e _ _ h⟩)
  · exact .inr h
inductive RpKV (F : Hp) {κ : Type} : List (κ × V) → List (κ × Da) → Prop
  | nil : RpKV F [] []
  | cons {k : κ} {v : V} {d : Da} {kvs : List (κ × V)} {kds : List (κ × Da)} : Rp F v d → RpKV F kvs kds → RpKV F ((k, v) :: kvs) ((k, d) :: kds)
theorem RpKV.mono {F F' : Hp} (e : ∀ a o, F a = some o → F' a = some o) {κ : Type} : ∀ {kvs : List (κ × V)} {kds : List (κ × Da)}, RpKV F kvs kds → RpKV F' kvs kds
  | _, _, .nil => .nil
  | _, _, .cons h t => .cons (Rp.mono e _ _ h) (RpKV.mono e t)

def SR (ca : Addr) (F : Hp) (O : Ow) (H : Hp) (i : Nat) (o : Option V) : Sl → Prop
  | .un => True
  | .fz d => ∃ v, o = some v ∧ Rp F v d
  | .ol ds => ∃ a vs, o = some (.ref a) ∧ H a = some (.lst vs) ∧ RpL F vs ds ∧ O a = some i
  | .odK kds => ∃ a kvs, o = some (.ref a) ∧ H a = some (.dK kvs) ∧ RpKV F kvs kds ∧ O a = some i
  | .odT kds => ∃ a kvs, o = some (.ref a) ∧ H a = some (.dT kvs) ∧ RpKV F kvs kds ∧ O a = some i
  | .dl cs b => ∃ a, o = some (.ref a) ∧ H a = some (.lst [.ref ca, .int b]) ∧ H ca = some (.lst (cs.map V.int)) ∧ O a = some i ∧ O ca = some i ∧ a ≠ ca
  | .scr K ns => ∃ a, o = some (.ref a) ∧ SqL K F a (ns.map V.int)
  | .xs a dx d => ∃ v, o = some (.ref a) ∧ F dx = some (.xd [("at", v)]) ∧ Rp F v d

/-- how slots, frozen things, owners and the heap go together -/
structure W (ca : Addr) (F : Hp) (O : Ow) (ρ : En) (σ : L2.St) (H : Hp) : Prop where
  sub : ∀ a o, F a = some o → H a = some o
  ow : ∀ b, O b ≠ none → F b = none
  len : ρ.length = σ.length
  sl : ∀ i s, ρ[i]? = some s → ∃ o, σ[i]? = some o ∧ SR ca F O H i o s

/-- what a step leaves: what nobody owned stands as it stood -/
structure Stp (F : Hp) (O : Ow) (H F' : Hp) (O' : Ow) (H' : Hp) : Prop where
  keep : ∀ b o, H b = some o → O b = none → H' b = some o
  nf : ∀ b, H b ≠ none → O b = none → F' b = F b
  no : ∀ b, H b ≠ none → O b = none → O' b = none

theorem Stp.refl (F : Hp) (O : Ow) (H : Hp) : Stp F O H F O H := ⟨fun _ _ h _ => h, fun _ _ _ => rfl, fun _ _ h => h⟩
theorem Stp.trans {F F1 F2 H H1 H2 : Hp} {O O1 O2 : Ow} (a : Stp F O H F1 O1 H1) (b : Stp F1 O1 H1 F2 O2 H2) : Stp F O H F2 O2 H2 where
  keep := fun x o h n => b.keep x o (a.keep x o h n) (a.no x (by rw [h]; exact fun z => nomatch z) n)
  nf := fun x h n => by
    obtain ⟨o, e⟩ := Option.ne_none_iff_exists'.mp h
    have e1 := a.keep x o e n
    rw [b.nf x (by rw [e1]; exact fun z => nomatch z) (a.no x h n), a.nf x h n]
  no := fun x h n => by
    obtain ⟨o, e⟩ := Option.ne_none_iff_exists'.mp h
    have e1 := a.keep x o e n
    exact b.no x (by rw [e1]; exact fun z => nomatch z) (a.no x h n)
theorem W.free {ca : Addr} {F : Hp} {O : Ow} {ρ : En} {σ : L2.St} {H : Hp} (w : W ca F O ρ σ H) {a : Addr} {o : HO} (h : F a = some o) : O a = none := by
  cases e : O a with
  | none => rfl
  | some i =>
    have q := w.ow a (by rw [e]; exact fun z => nomatch z)
    rw [h] at q; cases q
theorem W.ext {ca : Addr} {F F' H H' : Hp} {O O' : Ow} {ρ : En} {σ : L2.St} (w : W ca F O ρ σ H) (s : Stp F O H F' O' H') : ∀ a o, F a = some o → F' a = some o := fun a o h => by
  rw [s.nf a (by rw [w.sub a o h]; exact fun z => nomatch z) (w.free h)]
  exact h
theorem W.fnone {ca : Addr} {F H : Hp} {O : Ow} {ρ : En} {σ : L2.St} (w : W ca F O ρ σ H) {a : Addr} (h : H a = none) : F a = none := by
  cases e : F a with
  | none => rfl
  | some o => rw [w.sub a o e] at h; cases h

section
variable {ca : Addr} {F F' H H' : Hp} {O O' : Ow} {ρ : En} {σ : L2.St}

/-- slots stand on, where what they lean on stands -/
theorem SR.on {i : Nat} {o : Option V} {s : Sl} (h : SR ca F O H i o s) (e : ∀ a o, F a = some o → F' a = some o)
    (k : ∀ a u, O a = some i → H a = some u → H' a = some u ∧ O' a = some i) : SR ca F' O' H' i o s := by
  cases s with
  | un => trivial
  | fz d => obtain ⟨v, e1, r⟩ := h; exact ⟨v, e1, Rp.mono e _ _ r⟩
  | ol ds =>
    obtain ⟨a, vs, e1, h1, r, q⟩ := h
    exact ⟨a, vs, e1, (k a _ q h1).1, RpL.mono e _ _ r, (k a _ q h1).2⟩
  | odK ds =>
    obtain ⟨a, vs, e1, h1, r, q⟩ := h
    exact ⟨a, vs, e1, (k a _ q h1).1, RpKV.mono e r, (k a _ q h1).2⟩
  | odT ds =>
    obtain ⟨a, vs, e1, h1, r, q⟩ := h
    exact ⟨a, vs, e1, (k a _ q h1).1, RpKV.mono e r, (k a _ q h1).2⟩
  | scr K ns =>
    obtain ⟨a, e1, h1⟩ := h
    exact ⟨a, e1, SqL.on e h1⟩
  | xs a dx d =>
    obtain ⟨v, e1, h1, r⟩ := h
    exact ⟨v, e1, e _ _ h1, Rp.mono e _ _ r⟩
  | dl cs b =>
    obtain ⟨a, e1, h1, h2, q1, q2, ne⟩ := h
    exact ⟨a, e1, (k a _ q1 h1).1, (k _ _ q2 h2).1, (k a _ q1 h1).2, (k _ _ q2 h2).2, ne⟩

/-- a new thing is laid, and is frozen -/
theorem W.newF (w : W ca F O ρ σ H) {p : Addr} (hp : H p = none) (u : HO) : W ca (upd F p u) (own O p none) ρ σ (upd H p u) ∧ Stp F O H (upd F p u) (own O p none) (upd H p u) := by
  have ext : ∀ a o, F a = some o → upd F p u a = some o := fun a o h => by
    rw [upd_ne (fun z => by rw [z, w.fnone hp] at h; cases h)]; exact h
  refine ⟨⟨fun a o h => ?_, fun b hb => ?_, w.len, fun i s hs => ?_⟩, ⟨fun b o h _ => ?_, fun b h _ => ?_, fun b h n => ?_⟩⟩
  · by_cases z : a = p
    · subst z; rw [upd_same] at h ⊢; exact h
    · rw [upd_ne z] at h ⊢; exact w.sub a o h
  · by_cases z : b = p
    · subst z; rw [own_same] at hb; exact absurd rfl hb
    · rw [own_ne z] at hb; rw [upd_ne z]; exact w.ow b hb
  · obtain ⟨o, e, r⟩ := w.sl i s hs
    refine ⟨o, e, r.on ext fun a v q h => ?_⟩
    have z : a ≠ p := fun z => by rw [z, hp] at h; cases h
    exact ⟨by rw [upd_ne z]; exact h, by rw [own_ne z]; exact q⟩
  · rw [upd_ne (fun z => by rw [z, hp] at h; cases h)]; exact h
  · exact upd_ne (fun z => h (by rw [z]; exact hp))
  · rw [own_ne (fun z => h (by rw [z]; exact hp))]; exact n
/-- a new thing is laid, nobody's -/
theorem W.newT (w : W ca F O ρ σ H) {p : Addr} (hp : H p = none) (u : HO) : W ca F (own O p none) ρ σ (upd H p u) ∧ Stp F O H F (own O p none) (upd H p u) := by
  refine ⟨⟨fun a o h => ?_, fun b hb => ?_, w.len, fun i s hs => ?_⟩, ⟨fun b o h _ => ?_, fun b h _ => rfl, fun b h n => ?_⟩⟩
  · rw [upd_ne (fun z => by rw [z, w.fnone hp] at h; cases h)]; exact w.sub a o h
  · by_cases z : b = p
    · subst z; exact w.fnone hp
    · rw [own_ne z] at hb; exact w.ow b hb
  · obtain ⟨o, e, r⟩ := w.sl i s hs
    refine ⟨o, e, r.on (fun _ _ h => h) fun a v q h => ?_⟩
    have z : a ≠ p := fun z => by rw [z, hp] at h; cases h
    exact ⟨by rw [upd_ne z]; exact h, by rw [own_ne z]; exact q⟩
  · rw [upd_ne (fun z => by rw [z, hp] at h; cases h)]; exact h
  · rw [own_ne (fun z => h (by rw [z]; exact hp))]; exact n
/-- what nobody owns is frozen -/
theorem W.freeze (w : W ca F O ρ σ H) {a : Addr} {u : HO} (ha : H a = some u) (hf : F a = none) (ho : O a = none) : W ca (upd F a u) O ρ σ H := by
  have ext : ∀ b o, F b = some o → upd F a u b = some o := fun b o h => by
    rw [upd_ne (fun z => by rw [z, hf] at h; cases h)]; exact h
  refine ⟨fun b o h => ?_, fun b hb => ?_, w.len, fun i s hs => ?_⟩
  · by_cases z : b = a
    · subst z; rw [upd_same] at h; rw [ha]; exact h
    · rw [upd_ne z] at h; exact w.sub b o h
  · by_cases z : b = a
    · subst z; exact absurd ho hb
    · rw [upd_ne z]; exact w.ow b hb
  · obtain ⟨o, e, r⟩ := w.sl i s hs
    exact ⟨o, e, r.on ext fun _ _ q h => ⟨h, q⟩⟩
end
end Ip
end
section
set_option Elab.async false
set_option linter.all false
set_option maxRecDepth 100000
/-! Expressions: what a reading asks, from a transformer over pure slots. -/
namespace Ip
open PySem L2

abbrev WT (α : Type) := En → (α → En → Prop) → (Ex → En → Prop) → Prop

def XR (c : Cf) (F' H' : Hp) (x : Ex) (cls : Value) (d : Option Addr) : Prop :=
  cls = .ref (c.xc x.cls) ∧ ∃ dx v, d = some dx ∧ F' dx = some (.xd [("at", v)]) ∧ Rp F' v x.at_
def PXp (c : Cf) (F : Hp) (O : Ow) (σ : L2.St) (H : Hp) : Ex → En → Prop := fun x ρ' => ∀ F' O' cls d H', Stp F O H F' O' H' → W c.ca F' O' ρ' σ H' → XR c F' H' x cls d → c.E σ cls d H'
def PEp (c : Cf) (F : Hp) (O : Ow) (σ : L2.St) (H : Hp) (Q : VK) : Da → En → Prop := fun d ρ' => ∀ F' O' v H', Stp F O H F' O' H' → W c.ca F' O' ρ' σ H' → Rp F' v d → Q v H'

/-- te gives what T tells, frozen -/
structure IE (c : Cf) (te : TE) (T : WT Da) : Prop where
  run : ∀ F O ρ σ H Q (P : Da → En → Prop) (Px : Ex → En → Prop), W c.ca F O ρ σ H → T ρ P Px → (∀ d ρ', P d ρ' → PEp c F O σ H Q d ρ') → (∀ x ρ', Px x ρ' → PXp c F O σ H x ρ') → te σ H Q

/-- an operand: a frozen thing, or what stands in a slot -/
inductive Ar where
  | v (d : Da)
  | l (i : Nat)
def slv : Option Sl → Option Da
  | some (.fz d) => some d
  | some (.ol ds) => some (.list ds)
  | _ => none
def res : Ar → En → Option Da
  | .v d, _ => some d
  | .l i, ρ => slv ρ[i]?
def AR (F' : Hp) (σ : L2.St) (v : V) : Ar → Prop
  | .v d => Rp F' v d
  | .l i => σ[i]? = some (some v)
def POp (c : Cf) (F : Hp) (O : Ow) (σ : L2.St) (H : Hp) (Q : VK) : Ar → En → Prop := fun a ρ' => ∀ F' O' v H', Stp F O H F' O' H' → W c.ca F' O' ρ' σ H' → AR F' σ v a → Q v H'
structure IO (c : Cf) (te : TE) (T : WT Ar) : Prop where
  run : ∀ F O ρ σ H Q (P : Ar → En → Prop) (Px : Ex → En → Prop), W c.ca F O ρ σ H → T ρ P Px → (∀ d ρ', P d ρ' → POp c F O σ H Q d ρ') → (∀ x ρ', Px x ρ' → PXp c F O σ H x ρ') → te σ H Q

/-- a thing as it stands now: frozen, or a list of frozen things -/
def PD (F H : Hp) (v : V) (d : Da) : Prop := Rp F v d ∨ ∃ a vs ds, v = .ref a ∧ d = .list ds ∧ H a = some (.lst vs) ∧ RpL F vs ds
section
variable {c : Cf} {ca : Addr} {F F' F1 H H' H1 : Hp} {O O' O1 : Ow} {ρ ρ' : En} {σ : L2.St}
theorem W.res (w : W ca F O ρ σ H) {a : Ar} {v : V} {d : Da} (h : AR F σ v a) (e : res a ρ = some d) : PD F H v d := by
  cases a with
  | v d' => cases e; exact .inl h
  | l i =>
    have e : slv ρ[i]? = some d := e
    cases hs : ρ[i]? with
    | none => rw [hs] at e; cases e
    | some s =>
      rw [hs] at e
      obtain ⟨o, eo, r⟩ := w.sl i s hs
      have h' : σ[i]? = some (some v) := h
      rw [h'] at eo; cases eo
      cases s with
      | fz d' =>
        cases e
        obtain ⟨v', ev, r⟩ := r
        cases ev
        exact .inl r
      | ol ds =>
        cases e
        obtain ⟨a, vs, ev, h1, r, q⟩ := r
        cases ev
        exact .inr ⟨a, vs, ds, rfl, rfl, h1, r⟩
      | un => cases e
      | odK _ => cases e
      | odT _ => cases e
      | dl _ _ => cases e
      | scr _ _ => cases e
      | xs _ _ _ => cases e
theorem AR.on (w : W ca F O ρ σ H) (s : Stp F O H F' O' H') {a : Ar} {v : V} (h : AR F σ v a) : AR F' σ v a := by
  cases a with
  | v d => exact Rp.mono (w.ext s) _ _ h
  | l i => exact h
theorem PD.list (w : W ca F O ρ σ H) {v : V} {ds : List Da} (h : PD F H v (.list ds)) : ∃ a vs, v = .ref a ∧ H a = some (.lst vs) ∧ RpL F vs ds := by
  rcases h with h | ⟨a, vs, ds', e, e2, h1, r⟩
  · cases h with
    | lst ha hs => exact ⟨_, _, rfl, w.sub _ _ ha, hs⟩
  · cases e2; exact ⟨a, vs, e, h1, r⟩
theorem PD.tup (w : W ca F O ρ σ H) {v : V} {ds : List Da} (h : PD F H v (.tuple ds)) : ∃ a vs, v = .ref a ∧ H a = some (.tup vs) ∧ RpL F vs ds := by
  rcases h with h | ⟨a, vs, ds', e, e2, h1, r⟩
  · cases h with
    | tup ha hs => exact ⟨_, _, rfl, w.sub _ _ ha, hs⟩
  · cases e2
theorem PD.int {v : V} {i : Int} (h : PD F H v (.int i)) : v = .int i := by
  rcases h with h | ⟨a, vs, ds', e, e2, h1, r⟩
  · cases h; rfl
  · cases e2
theorem PD.bl {v : V} {i : Bool} (h : PD F H v (.bool i)) : v = .bl i := by
  rcases h with h | ⟨a, vs, ds', e, e2, h1, r⟩
  · cases h; rfl
  · cases e2
theorem PD.str {v : V} {i : Str} (h : PD F H v (.str i)) : v = .str i := by
  rcases h with h | ⟨a, vs, ds', e, e2, h1, r⟩
  · cases h; rfl
  · cases e2
theorem PD.non {v : V} (h : PD F H v .none) : v = .non := by
  rcases h with h | ⟨a, vs, ds', e, e2, h1, r⟩
  · cases h; rfl
  · cases e2
theorem PD.dp {K : PySem.W.Frag} (w : W ca F O ρ σ H) {v : V} {d : Da} (h : PD F H v d) : Dp K H v d := by
  rcases h with h | ⟨a, vs, ds', e, e2, h1, r⟩
  · exact Rp.dp _ _ (Rp.mono w.sub _ _ h)
  · subst e e2
    exact .lst (.inl (.inl h1)) (RpL.dp _ _ (RpL.mono w.sub _ _ r))
end

/-! ### parts of expressions -/
def tE (A : WT Da) : WT Ar := fun ρ P Px => A ρ (fun d ρ' => P (.v d) ρ') Px
def notUn : Sl → Prop
  | .un => False
  | _ => True
def tLu (i : Nat) : WT Ar := fun ρ P _ => (∃ s, ρ[i]? = some s ∧ notUn s) ∧ P (.l i) ρ
def tVs (i : Nat) (ρ : En) (P : Da → En → Prop) : Option Sl → Prop
  | some (.fz d) => P d ρ
  | some (.ol ds) => P (.list ds) (ρ.set i (.fz (.list ds)))
  | _ => False
def tV (i : Nat) : WT Da := fun ρ P _ => tVs i ρ P ρ[i]?
def tK (d : Da) : WT Da := fun ρ P _ => P d ρ
def tB2 (f : Da → Da → Option Da) (A B : WT Ar) : WT Da := fun ρ P Px => A ρ (fun x ρ1 => B ρ1 (fun y ρ2 => ∃ d e g, res x ρ2 = some d ∧ res y ρ2 = some e ∧ f d e = some g ∧ P g ρ2) Px) Px
def tB1 (f : Da → Option Da) (A : WT Ar) : WT Da := fun ρ P Px => A ρ (fun x ρ1 => ∃ d g, res x ρ1 = some d ∧ f d = some g ∧ P g ρ1) Px
def tAnd2 (A B : WT Da) : WT Da := fun ρ P Px => A ρ (fun x ρ1 => (x = .bool true ∧ B ρ1 P Px) ∨ (x = .bool false ∧ P (.bool false) ρ1)) Px
def tOr2 (A B : WT Da) : WT Da := fun ρ P Px => A ρ (fun x ρ1 => (x = .bool true ∧ P (.bool true) ρ1) ∨ (x = .bool false ∧ B ρ1 P Px)) Px
def tNot1 (A : WT Da) : WT Da := fun ρ P Px => A ρ (fun x ρ1 => ∃ b, x = .bool b ∧ P (.bool (!b)) ρ1) Px
def tIte (C : WT Bool) (A B : WT Da) : WT Da := fun ρ P Px => C ρ (fun b ρ1 => (b = true ∧ A ρ1 P Px) ∨ (b = false ∧ B ρ1 P Px)) Px

structure IB (c : Cf) (tt : TT) (T : WT Bool) : Prop where
  run : ∀ F O ρ σ H (Q : Bool → Hp → Prop) (P : Bool → En → Prop) (Px : Ex → En → Prop), W c.ca F O ρ σ H → T ρ P Px →
    (∀ b ρ', P b ρ' → ∀ F' O' H', Stp F O H F' O' H' → W c.ca F' O' ρ' σ H' → Q b H') → (∀ x ρ', Px x ρ' → PXp c F O σ H x ρ') → tt σ H Q

theorem PXp.back {c : Cf} {F F1 H H1 : Hp} {O O1 : Ow} {σ : L2.St} {x : Ex} {ρ' : En} (s : Stp F O H F1 O1 H1) (h : PXp c F O σ H x ρ') : PXp c F1 O1 σ H1 x ρ' :=
  fun F' O' cls d H' s' w r => h F' O' cls d H' (s.trans s') w r

section
variable {c : Cf} {te ta tb : TE} {A B : WT Da} {a b : WT Ar} {C : WT Bool}

theorem ie_e (h : IE c te A) : IO c te (tE A) := ⟨fun F O ρ σ H Q P Px w ht hP hX => h.run F O ρ σ H Q _ Px w ht (fun d ρ' p F' O' v H' s w' r => hP _ _ p F' O' v H' s w' r) hX⟩
theorem io_l {i : Nat} : IO c (tVar i) (tLu i) := ⟨fun F O ρ σ H Q P Px w ht hP hX => by
  obtain ⟨⟨s, hs, hu⟩, ht⟩ := ht
  obtain ⟨o, eo, r⟩ := w.sl i s hs
  have : ∃ v, o = some v := by
    cases s with
    | un => exact hu.elim
    | fz d => obtain ⟨v, e, _⟩ := r; exact ⟨v, e⟩
    | ol ds => obtain ⟨a, _, e, _⟩ := r; exact ⟨_, e⟩
    | odK ds => obtain ⟨a, _, e, _⟩ := r; exact ⟨_, e⟩
    | odT ds => obtain ⟨a, _, e, _⟩ := r; exact ⟨_, e⟩
    | dl cs b => obtain ⟨a, e, _⟩ := r; exact ⟨_, e⟩
    | scr _ _ => obtain ⟨a, e, _⟩ := r; exact ⟨_, e⟩
    | xs _ _ _ => obtain ⟨v, e, _⟩ := r; exact ⟨_, e⟩
  obtain ⟨v, rfl⟩ := this
  exact ⟨v, eo, hP _ _ ht F O v H (Stp.refl _ _ _) w eo⟩⟩
theorem ie_v {i : Nat} : IE c (tVar i) (tV i) := ⟨fun F O ρ σ H Q P Px w ht hP hX => by
  unfold tV at ht
  cases hs : ρ[i]? with
  | none => rw [hs] at ht; exact ht.elim
  | some s =>
    rw [hs] at ht
    obtain ⟨o, eo, r⟩ := w.sl i s hs
    cases s with
    | un => exact ht.elim
    | odK _ => exact ht.elim
    | odT _ => exact ht.elim
    | dl _ _ => exact ht.elim
    | scr _ _ => exact ht.elim
    | xs _ _ _ => exact ht.elim
    | fz d =>
      obtain ⟨v, rfl, r⟩ := r
      exact ⟨v, eo, hP _ _ ht F O v H (Stp.refl _ _ _) w r⟩
    | ol ds =>
      obtain ⟨a, vs, rfl, h1, r, q⟩ := r
      have hf : F a = none := w.ow a (by rw [q]; exact fun z => nomatch z)
      have ext : ∀ b o, F b = some o → upd F a (.lst vs) b = some o := fun b o h => by
        rw [upd_ne (fun z => by rw [z, hf] at h; cases h)]; exact h
      refine ⟨.ref a, eo, hP _ _ ht (upd F a (.lst vs)) (own O a none) (.ref a) H ⟨fun b o h _ => h, fun b h n => ?_, fun b h n => ?_⟩ ⟨fun b o h => ?_, fun b hb => ?_, ?_, fun j s' hj => ?_⟩ (.lst upd_same (RpL.mono ext _ _ r))⟩
      · exact upd_ne (fun z => by rw [z, q] at n; cases n)
      · by_cases z : b = a
        · subst z; exact own_same
        · rw [own_ne z]; exact n
      · by_cases z : b = a
        · subst z; rw [upd_same] at h; rw [h1]; exact h
        · rw [upd_ne z] at h; exact w.sub b o h
      · by_cases z : b = a
        · subst z; rw [own_same] at hb; exact absurd rfl hb
        · rw [own_ne z] at hb; rw [upd_ne z]; exact w.ow b hb
      · rw [List.length_set]; exact w.len
      · by_cases z : j = i
        · subst z
          rw [List.getElem?_set_self (List.getElem?_eq_some_iff.mp hs).1] at hj
          cases hj
          exact ⟨_, eo, .ref a, rfl, .lst upd_same (RpL.mono ext _ _ r)⟩
        · rw [List.getElem?_set_ne (fun e => z e.symm)] at hj
          obtain ⟨o', eo', r'⟩ := w.sl j s' hj
          refine ⟨o', eo', r'.on ext fun a' u q' h' => ⟨h', ?_⟩⟩
          rw [own_ne (fun e => by rw [e, q] at q'; cases q'; exact z rfl)]; exact q'⟩
theorem ie_k {v : V} {d : Da} (h : ∀ F, Rp F v d) : IE c (tC v) (tK d) := ⟨fun F O ρ σ H Q P Px w ht hP hX => hP _ _ ht F O v H (Stp.refl _ _ _) w (h F)⟩

/-- an operation on things as they stand -/
def OpS (r : R2) (f : Da → Da → Option Da) : Prop := ∀ (c : Cf) F O ρ σ H x y d e g Q, W c.ca F O ρ σ H → PD F H x d → PD F H y e → f d e = some g →
  (∀ F' O' v H', Stp F O H F' O' H' → W c.ca F' O' ρ σ H' → Rp F' v g → Q v H') → r x y H Q
def UnS (r : V → Hp → VK → Prop) (f : Da → Option Da) : Prop := ∀ (c : Cf) F O ρ σ H x d g Q, W c.ca F O ρ σ H → PD F H x d → f d = some g →
  (∀ F' O' v H', Stp F O H F' O' H' → W c.ca F' O' ρ σ H' → Rp F' v g → Q v H') → r x H Q
theorem ie_op {r : R2} {f : Da → Da → Option Da} (hr : OpS r f) (ha : IO c ta a) (hb : IO c tb b) : IE c (tOp r ta tb) (tB2 f a b) := ⟨fun F O ρ σ H Q P Px w ht hP hX =>
  ha.run F O ρ σ H _ _ Px w ht (fun x ρ1 h1 F1 O1 v H1 s1 w1 r1 =>
    hb.run F1 O1 ρ1 σ H1 _ _ Px w1 h1 (fun y ρ2 h2 F2 O2 u H2 s2 w2 r2 => by
      obtain ⟨d, e, g, e1, e2, e3, hp⟩ := h2
      exact hr c F2 O2 ρ2 σ H2 v u d e g Q w2 (w2.res (AR.on w1 s2 r1) e1) (w2.res r2 e2) e3 fun F' O' z H' s' w' r' => hP _ _ hp F' O' z H' ((s1.trans s2).trans s') w' r')
      (fun x ρ' p => (hX x ρ' p).back s1)) hX⟩
theorem ie_un {r : V → Hp → VK → Prop} {f : Da → Option Da} (hr : UnS r f) (ha : IO c ta a) : IE c (tUn r ta) (tB1 f a) := ⟨fun F O ρ σ H Q P Px w ht hP hX =>
  ha.run F O ρ σ H _ _ Px w ht (fun x ρ1 h1 F1 O1 v H1 s1 w1 r1 => by
    obtain ⟨d, g, e1, e3, hp⟩ := h1
    exact hr c F1 O1 ρ1 σ H1 v d g Q w1 (w1.res r1 e1) e3 fun F' O' z H' s' w' r' => hP _ _ hp F' O' z H' (s1.trans s') w' r') hX⟩
theorem ie_and (ha : IE c ta A) (hb : IE c tb B) : IE c (tAndV ta tb) (tAnd2 A B) := ⟨fun F O ρ σ H Q P Px w ht hP hX =>
  ha.run F O ρ σ H _ _ Px w ht (fun x ρ1 h1 F1 O1 v H1 s1 w1 r1 => by
    rcases h1 with ⟨rfl, h1⟩ | ⟨rfl, h1⟩
    · cases r1
      refine ⟨true, rfl, ?_⟩
      rw [if_pos rfl]
      exact hb.run F1 O1 ρ1 σ H1 Q P Px w1 h1 (fun y ρ2 h2 F2 O2 u H2 s2 w2 r2 => hP _ _ h2 F2 O2 u H2 (s1.trans s2) w2 r2) (fun x ρ' p => (hX x ρ' p).back s1)
    · cases r1
      refine ⟨false, rfl, ?_⟩
      rw [if_neg (by decide)]
      exact hP _ _ h1 F1 O1 _ H1 s1 w1 (.bl false)) hX⟩
theorem ie_or (ha : IE c ta A) (hb : IE c tb B) : IE c (tOrV ta tb) (tOr2 A B) := ⟨fun F O ρ σ H Q P Px w ht hP hX =>
  ha.run F O ρ σ H _ _ Px w ht (fun x ρ1 h1 F1 O1 v H1 s1 w1 r1 => by
    rcases h1 with ⟨rfl, h1⟩ | ⟨rfl, h1⟩
    · cases r1
      refine ⟨true, rfl, ?_⟩
      rw [if_pos rfl]
      exact hP _ _ h1 F1 O1 _ H1 s1 w1 (.bl true)
    · cases r1
      refine ⟨false, rfl, ?_⟩
      rw [if_neg (by decide)]
      exact hb.run F1 O1 ρ1 σ H1 Q P Px w1 h1 (fun y ρ2 h2 F2 O2 u H2 s2 w2 r2 => hP _ _ h2 F2 O2 u H2 (s1.trans s2) w2 r2) (fun x ρ' p => (hX x ρ' p).back s1)) hX⟩
theorem ie_not (ha : IE c ta A) : IE c (tNotV ta) (tNot1 A) := ⟨fun F O ρ σ H Q P Px w ht hP hX =>
  ha.run F O ρ σ H _ _ Px w ht (fun x ρ1 h1 F1 O1 v H1 s1 w1 r1 => by
    obtain ⟨b, rfl, h1⟩ := h1
    cases r1
    exact ⟨b, rfl, hP _ _ h1 F1 O1 _ H1 s1 w1 (.bl _)⟩) hX⟩
theorem ie_if {tt : TT} (hc : IB c tt C) (ha : IE c ta A) (hb : IE c tb B) : IE c (tIf tt ta tb) (tIte C A B) := ⟨fun F O ρ σ H Q P Px w ht hP hX =>
  hc.run F O ρ σ H _ _ Px w ht (fun x ρ1 h1 F1 O1 H1 s1 w1 => by
    rcases h1 with ⟨rfl, h1⟩ | ⟨rfl, h1⟩
    · rw [if_pos rfl]
      exact ha.run F1 O1 ρ1 σ H1 Q P Px w1 h1 (fun y ρ2 h2 F2 O2 u H2 s2 w2 r2 => hP _ _ h2 F2 O2 u H2 (s1.trans s2) w2 r2) (fun x ρ' p => (hX x ρ' p).back s1)
    · rw [if_neg (by decide)]
      exact hb.run F1 O1 ρ1 σ H1 Q P Px w1 h1 (fun y ρ2 h2 F2 O2 u H2 s2 w2 r2 => hP _ _ h2 F2 O2 u H2 (s1.trans s2) w2 r2) (fun x ρ' p => (hX x ρ' p).back s1)) hX⟩

/-! ### tests -/
def tTst (A : WT Da) : WT Bool := fun ρ P Px => A ρ (fun d ρ' => ∃ b, d = .bool b ∧ P b ρ') Px
def tbAnd (A B : WT Bool) : WT Bool := fun ρ P Px => A ρ (fun b ρ1 => (b = true ∧ B ρ1 P Px) ∨ (b = false ∧ P false ρ1)) Px
def tbOr (A B : WT Bool) : WT Bool := fun ρ P Px => A ρ (fun b ρ1 => (b = true ∧ P true ρ1) ∨ (b = false ∧ B ρ1 P Px)) Px
def tbNot (A : WT Bool) : WT Bool := fun ρ P Px => A ρ (fun b ρ1 => P (!b) ρ1) Px
theorem ib_test (h : IE c te A) : IB c (tTest te) (tTst A) := ⟨fun F O ρ σ H Q P Px w ht hP hX =>
  h.run F O ρ σ H _ _ Px w ht (fun x ρ1 h1 F1 O1 v H1 s1 w1 r1 => by
    obtain ⟨b, rfl, h1⟩ := h1
    cases r1
    exact ⟨b, rfl, hP _ _ h1 F1 O1 H1 s1 w1⟩) hX⟩
theorem ib_b (h : IE c te A) : IB c (tB te) (tTst A) := ⟨fun F O ρ σ H Q P Px w ht hP hX =>
  h.run F O ρ σ H _ _ Px w ht (fun x ρ1 h1 F1 O1 v H1 s1 w1 r1 => by
    obtain ⟨b, rfl, h1⟩ := h1
    cases r1
    exact ⟨b, rfl, hP _ _ h1 F1 O1 H1 s1 w1⟩) hX⟩
theorem ib_and {t u : TT} {D : WT Bool} (h1 : IB c t C) (h2 : IB c u D) : IB c (tAnd t u) (tbAnd C D) := ⟨fun F O ρ σ H Q P Px w ht hP hX =>
  h1.run F O ρ σ H _ _ Px w ht (fun x ρ1 h1 F1 O1 H1 s1 w1 => by
    rcases h1 with ⟨rfl, h1⟩ | ⟨rfl, h1⟩
    · rw [if_pos rfl]
      exact h2.run F1 O1 ρ1 σ H1 Q P Px w1 h1 (fun y ρ2 h2 F2 O2 H2 s2 w2 => hP _ _ h2 F2 O2 H2 (s1.trans s2) w2) (fun x ρ' p => (hX x ρ' p).back s1)
    · rw [if_neg (by decide)]
      exact hP _ _ h1 F1 O1 H1 s1 w1) hX⟩
theorem ib_or {t u : TT} {D : WT Bool} (h1 : IB c t C) (h2 : IB c u D) : IB c (tOr t u) (tbOr C D) := ⟨fun F O ρ σ H Q P Px w ht hP hX =>
  h1.run F O ρ σ H _ _ Px w ht (fun x ρ1 h1 F1 O1 H1 s1 w1 => by
    rcases h1 with ⟨rfl, h1⟩ | ⟨rfl, h1⟩
    · rw [if_pos rfl]
      exact hP _ _ h1 F1 O1 H1 s1 w1
    · rw [if_neg (by decide)]
      exact h2.run F1 O1 ρ1 σ H1 Q P Px w1 h1 (fun y ρ2 h2 F2 O2 H2 s2 w2 => hP _ _ h2 F2 O2 H2 (s1.trans s2) w2) (fun x ρ' p => (hX x ρ' p).back s1)) hX⟩
theorem ib_not {t : TT} (h1 : IB c t C) : IB c (tNot t) (tbNot C) := ⟨fun F O ρ σ H Q P Px w ht hP hX =>
  h1.run F O ρ σ H _ _ Px w ht (fun x ρ1 h1 F1 O1 H1 s1 w1 => hP _ _ h1 F1 O1 H1 s1 w1) hX⟩

/-! ### arguments -/
def AL (F' : Hp) (σ : L2.St) : List V → List Ar → Prop
  | [], [] => True
  | v :: vs, a :: as => AR F' σ v a ∧ AL F' σ vs as
  | _, _ => False
theorem AL.on {F F' H H' : Hp} {O O' : Ow} {ρ : En} {σ : L2.St} (w : W c.ca F O ρ σ H) (s : Stp F O H F' O' H') : ∀ {as : List Ar} {vs : List V}, AL F σ vs as → AL F' σ vs as
  | [], [], _ => trivial
  | a :: as, v :: vs, h => ⟨AR.on w s h.1, AL.on w s h.2⟩
  | [], _ :: _, h => h.elim
  | _ :: _, [], h => h.elim
structure IA (c : Cf) (t : TA) (T : WT (List Ar)) : Prop where
  run : ∀ F O ρ σ H (Q : List V → Hp → Prop) (P : List Ar → En → Prop) (Px : Ex → En → Prop), W c.ca F O ρ σ H → T ρ P Px →
    (∀ as ρ', P as ρ' → ∀ F' O' vs H', Stp F O H F' O' H' → W c.ca F' O' ρ' σ H' → AL F' σ vs as → Q vs H') → (∀ x ρ', Px x ρ' → PXp c F O σ H x ρ') → t σ H Q
def tA0 : WT (List Ar) := fun ρ P _ => P [] ρ
def tA (a : WT Ar) (as : WT (List Ar)) : WT (List Ar) := fun ρ P Px => a ρ (fun x ρ1 => as ρ1 (fun xs ρ2 => P (x :: xs) ρ2) Px) Px
theorem ia_nil : IA c tNil tA0 := ⟨fun F O ρ σ H Q P Px w ht hP hX => hP _ _ ht F O [] H (Stp.refl _ _ _) w trivial⟩
theorem ia_cons {t : TA} {as : WT (List Ar)} (h1 : IO c te a) (h2 : IA c t as) : IA c (tCons te t) (tA a as) := ⟨fun F O ρ σ H Q P Px w ht hP hX =>
  h1.run F O ρ σ H _ _ Px w ht (fun x ρ1 h1 F1 O1 v H1 s1 w1 r1 =>
    h2.run F1 O1 ρ1 σ H1 _ _ Px w1 h1 (fun xs ρ2 h2 F2 O2 vs H2 s2 w2 r2 => hP _ _ h2 F2 O2 (v :: vs) H2 (s1.trans s2) w2 ⟨AR.on w1 s2 r1, r2⟩) (fun x ρ' p => (hX x ρ' p).back s1)) hX⟩

def resL : List Ar → En → Option (List Da)
  | [], _ => some []
  | a :: as, ρ => match res a ρ, resL as ρ with
    | some d, some ds => some (d :: ds)
    | _, _ => none
/-- all are frozen: no slots among them -/
def frzL : List Ar → Option (List Da)
  | [] => some []
  | .v d :: as => (frzL as).map (d :: ·)
  | .l _ :: _ => none
theorem frzL_ok {F : Hp} {σ : L2.St} : ∀ {as : List Ar} {vs : List V} {ds : List Da}, AL F σ vs as → frzL as = some ds → RpL F vs ds
  | [], [], _, _, e => by cases e; exact .nil
  | .v d :: as, v :: vs, ds, h, e => by
    unfold frzL at e
    cases q : frzL as with
    | none => rw [q] at e; cases e
    | some es => rw [q] at e; cases e; exact .cons h.1 (frzL_ok h.2 q)
  | .l _ :: _, _ :: _, _, _, e => by cases e
  | [], _ :: _, _, h, _ => h.elim
  | _ :: _, [], _, h, _ => h.elim
/-- things as they stand, all at once -/
inductive PDL (F H : Hp) : List V → List Da → Prop
  | nil : PDL F H [] []
  | cons {v : V} {d : Da} {vs : List V} {ds : List Da} : PD F H v d → PDL F H vs ds → PDL F H (v :: vs) (d :: ds)
theorem resL_ok {F H : Hp} {O : Ow} {ρ : En} {σ : L2.St} (w : W c.ca F O ρ σ H) : ∀ {as : List Ar} {vs : List V} {ds : List Da}, AL F σ vs as → resL as ρ = some ds → PDL F H vs ds
  | [], [], _, _, e => by cases e; exact .nil
  | a :: as, v :: vs, ds, h, e => by
    unfold resL at e
    cases q : res a ρ with
    | none => rw [q] at e; cases e
    | some d =>
      cases q' : resL as ρ with
      | none => rw [q, q'] at e; cases e
      | some es => rw [q, q'] at e; cases e; exact .cons (w.res h.1 q) (resL_ok w h.2 q')
  | [], _ :: _, _, h, _ => h.elim
  | _ :: _, [], _, h, _ => h.elim

/-! ### displays -/
def tTupD (as : WT (List Ar)) : WT Da := fun ρ P Px => as ρ (fun xs ρ1 => ∃ ds, frzL xs = some ds ∧ ds.length ≤ 100000 ∧ P (.tuple ds) ρ1) Px
theorem ie_tup {t : TA} {as : WT (List Ar)} (h : IA c t as) : IE c (tTup t) (tTupD as) := ⟨fun F O ρ σ H Q P Px w ht hP hX =>
  h.run F O ρ σ H _ _ Px w ht (fun xs ρ1 h1 F1 O1 vs H1 s1 w1 r1 => by
    obtain ⟨ds, e, hl, h1⟩ := h1
    have r := frzL_ok r1 e
    refine ⟨by rw [r.len]; exact Nat.le_trans hl (by decide), fun p hp => ?_⟩
    obtain ⟨w2, s2⟩ := w1.newF hp (.tup vs)
    exact hP _ _ h1 _ _ _ _ (s1.trans s2) w2 (.tup upd_same (RpL.mono (w1.ext s2) _ _ r))) hX⟩

/-- a new list, nobody's yet -/
structure IT (c : Cf) (te : TE) (T : WT (List Da)) : Prop where
  run : ∀ F O ρ σ H Q (P : List Da → En → Prop) (Px : Ex → En → Prop), W c.ca F O ρ σ H → T ρ P Px →
    (∀ ds ρ', P ds ρ' → ∀ F' O' a vs H', Stp F O H F' O' H' → W c.ca F' O' ρ' σ H' → H' a = some (.lst vs) → RpL F' vs ds → F' a = none → O' a = none → (H a = none ∨ O a ≠ none) → Q (.ref a) H') →
    (∀ x ρ', Px x ρ' → PXp c F O σ H x ρ') → te σ H Q
def tFr (T : WT (List Da)) : WT Da := fun ρ P Px => T ρ (fun ds ρ' => P (.list ds) ρ') Px
theorem stp_freeze {F F1 H H1 : Hp} {O O1 : Ow} {a : Addr} {u : HO} (s : Stp F O H F1 O1 H1) (h : H a = none ∨ O a ≠ none) : Stp F O H (upd F1 a u) O1 H1 :=
  ⟨s.keep, fun b hb n => by
    rw [upd_ne (fun z => by
      subst z
      rcases h with h | h
      · exact hb h
      · exact h n)]
    exact s.nf b hb n, s.no⟩
theorem ie_t {T : WT (List Da)} (h : IT c te T) : IE c te (tFr T) := ⟨fun F O ρ σ H Q P Px w ht hP hX =>
  h.run F O ρ σ H _ _ Px w ht (fun ds ρ1 h1 F1 O1 a vs H1 s1 w1 ha r hf ho hn => by
    have w2 := w1.freeze ha hf ho
    refine hP _ _ h1 (upd F1 a (.lst vs)) O1 (.ref a) H1 (stp_freeze s1 hn) w2 (.lst upd_same (RpL.mono (fun b o q => ?_) _ _ r))
    rw [upd_ne (fun z => by rw [z, hf] at q; cases q)]; exact q) hX⟩
def tLstD (as : WT (List Ar)) : WT (List Da) := fun ρ P Px => as ρ (fun xs ρ1 => ∃ ds, frzL xs = some ds ∧ ds.length ≤ 100000 ∧ P ds ρ1) Px
theorem fresh_of {F F1 H H1 : Hp} {O O1 : Ow} {p : Addr} (s : Stp F O H F1 O1 H1) (hp : H1 p = none) : H p = none ∨ O p ≠ none := by
  cases e : H p with
  | none => exact .inl rfl
  | some o =>
    refine .inr fun n => ?_
    rw [s.keep p o e n] at hp; cases hp
theorem it_lst {t : TA} {as : WT (List Ar)} (h : IA c t as) : IT c (tLst t) (tLstD as) := ⟨fun F O ρ σ H Q P Px w ht hP hX =>
  h.run F O ρ σ H _ _ Px w ht (fun xs ρ1 h1 F1 O1 vs H1 s1 w1 r1 => by
    obtain ⟨ds, e, hl, h1⟩ := h1
    have r := frzL_ok r1 e
    refine ⟨by rw [r.len]; exact Nat.le_trans hl (by decide), fun p hp => ?_⟩
    obtain ⟨w2, s2⟩ := w1.newT hp (.lst vs)
    exact hP _ _ h1 _ _ p vs _ (s1.trans s2) w2 upd_same r (w1.fnone hp) own_same (fresh_of s1 hp)) hX⟩
end
end Ip
end
section
set_option Elab.async false
set_option linter.all false
set_option maxRecDepth 100000
/-! Statements, loops, comprehensions, calls. -/
namespace Ip
open PySem L2

structure Ed where
  nx : En → Prop
  rt : Da → En → Prop
  bk : En → Prop
  ct : En → Prop
  er : Ex → En → Prop
abbrev WS := En → Ed → Prop
def Pin (c : Cf) (σ σ' : L2.St) : Prop := ∀ j ∈ c.pins, σ'[j]? = σ[j]?
theorem Pin.refl (c : Cf) (σ : L2.St) : Pin c σ σ := fun _ _ => rfl
theorem Pin.trans {c : Cf} {σ σ1 σ2 : L2.St} (a : Pin c σ σ1) (b : Pin c σ1 σ2) : Pin c σ σ2 := fun j h => (b j h).trans (a j h)

structure Pst (c : Cf) (F : Hp) (O : Ow) (σ : L2.St) (H : Hp) (D : Ends) (e : Ed) : Prop where
  nx : ∀ ρ', e.nx ρ' → ∀ F' O' σ' H', Stp F O H F' O' H' → W c.ca F' O' ρ' σ' H' → Pin c σ σ' → D.nx σ' H'
  rt : ∀ d ρ', e.rt d ρ' → ∀ F' O' σ' v H', Stp F O H F' O' H' → W c.ca F' O' ρ' σ' H' → Pin c σ σ' → Rp F' v d → D.rt v H'
  bk : ∀ ρ', e.bk ρ' → ∀ F' O' σ' H', Stp F O H F' O' H' → W c.ca F' O' ρ' σ' H' → Pin c σ σ' → D.bk σ' H'
  ct : ∀ ρ', e.ct ρ' → ∀ F' O' σ' H', Stp F O H F' O' H' → W c.ca F' O' ρ' σ' H' → Pin c σ σ' → D.ct σ' H'
  er : ∀ x ρ', e.er x ρ' → ∀ F' O' σ' cls d H', Stp F O H F' O' H' → W c.ca F' O' ρ' σ' H' → Pin c σ σ' → XR c F' H' x cls d → c.E σ' cls d H'
theorem Pst.step {c : Cf} {F F1 H H1 : Hp} {O O1 : Ow} {σ σ1 : L2.St} {D : Ends} {e : Ed} (p : Pst c F O σ H D e) (s : Stp F O H F1 O1 H1) (q : Pin c σ σ1) : Pst c F1 O1 σ1 H1 D e where
  nx := fun ρ' h F' O' σ' H' s' w q' => p.nx ρ' h F' O' σ' H' (s.trans s') w (q.trans q')
  rt := fun d ρ' h F' O' σ' v H' s' w q' r => p.rt d ρ' h F' O' σ' v H' (s.trans s') w (q.trans q') r
  bk := fun ρ' h F' O' σ' H' s' w q' => p.bk ρ' h F' O' σ' H' (s.trans s') w (q.trans q')
  ct := fun ρ' h F' O' σ' H' s' w q' => p.ct ρ' h F' O' σ' H' (s.trans s') w (q.trans q')
  er := fun x ρ' h F' O' σ' cls d H' s' w q' r => p.er x ρ' h F' O' σ' cls d H' (s.trans s') w (q.trans q') r
theorem Pst.px {c : Cf} {F H : Hp} {O : Ow} {σ : L2.St} {D : Ends} {e : Ed} (p : Pst c F O σ H D e) : ∀ x ρ', e.er x ρ' → PXp c F O σ H x ρ' :=
  fun x ρ' h F' O' cls d H' s w r => p.er x ρ' h F' O' σ cls d H' s w (Pin.refl _ _) r
theorem Pst.nxTo {c : Cf} {F H : Hp} {O : Ow} {σ : L2.St} {D : Ends} {e : Ed} (p : Pst c F O σ H D e) {n : En → Prop} {N : L2.St → Hp → Prop}
    (h : ∀ ρ', n ρ' → ∀ F' O' σ' H', Stp F O H F' O' H' → W c.ca F' O' ρ' σ' H' → Pin c σ σ' → N σ' H') : Pst c F O σ H { D with nx := N } { e with nx := n } := ⟨h, p.rt, p.bk, p.ct, p.er⟩

structure IS (c : Cf) (ts : TS) (T : WS) : Prop where
  run : ∀ F O ρ σ H (D : Ends) (e : Ed), W c.ca F O ρ σ H → T ρ e → Pst c F O σ H D e → ts D σ H

section
variable {c : Cf} {te ta tb : TE} {A B : WT Da} {a b : WT Ar} {C : WT Bool} {t u : TS} {S U : WS}

def sNext : WS := fun ρ e => e.nx ρ
def sSeq (S U : WS) : WS := fun ρ e => S ρ { e with nx := fun ρ1 => U ρ1 e }
def sRet (A : WT Da) : WS := fun ρ e => A ρ e.rt e.er
def sRetN : WS := fun ρ e => e.rt .none ρ
def sIf (C : WT Bool) (S U : WS) : WS := fun ρ e => C ρ (fun b ρ1 => (b = true ∧ S ρ1 e) ∨ (b = false ∧ U ρ1 e)) e.er
def sDrop (A : WT Da) : WS := fun ρ e => A ρ (fun _ ρ1 => e.nx ρ1) e.er
def sNever : WS := fun _ _ => False
theorem is_next : IS c tNext sNext := ⟨fun F O ρ σ H D e w h p => p.nx ρ h F O σ H (Stp.refl _ _ _) w (Pin.refl _ _)⟩
theorem is_never : IS c tNever sNever := ⟨fun F O ρ σ H D e w h p => h⟩
theorem is_seq (h1 : IS c t S) (h2 : IS c u U) : IS c (tSeq t u) (sSeq S U) := ⟨fun F O ρ σ H D e w h p =>
  h1.run F O ρ σ H _ _ w h (p.nxTo fun ρ' q F' O' σ' H' s' w' pin => h2.run F' O' ρ' σ' H' D e w' q (p.step s' pin))⟩
theorem is_ret (h : IE c te A) : IS c (tRet te) (sRet A) := ⟨fun F O ρ σ H D e w ht p =>
  h.run F O ρ σ H _ _ _ w ht (fun d ρ' q F' O' v H' s' w' r => p.rt d ρ' q F' O' σ v H' s' w' (Pin.refl _ _) r) p.px⟩
theorem is_retN : IS c tRetN sRetN := ⟨fun F O ρ σ H D e w ht p => p.rt _ ρ ht F O σ _ H (Stp.refl _ _ _) w (Pin.refl _ _) .non⟩
theorem is_if {tc : TT} (hc : IB c tc C) (h1 : IS c t S) (h2 : IS c u U) : IS c (tIfS tc t u) (sIf C S U) := ⟨fun F O ρ σ H D e w ht p =>
  hc.run F O ρ σ H _ _ _ w ht (fun b ρ1 q F1 O1 H1 s1 w1 => by
    rcases q with ⟨rfl, q⟩ | ⟨rfl, q⟩
    · rw [if_pos rfl]; exact h1.run F1 O1 ρ1 σ H1 D e w1 q (p.step s1 (Pin.refl _ _))
    · rw [if_neg (by decide)]; exact h2.run F1 O1 ρ1 σ H1 D e w1 q (p.step s1 (Pin.refl _ _))) p.px⟩
theorem is_drop (h : IE c te A) : IS c (tDrop te) (sDrop A) := ⟨fun F O ρ σ H D e w ht p =>
  h.run F O ρ σ H _ _ _ w ht (fun d ρ' q F' O' v H' s' w' r => p.nx ρ' q F' O' σ H' s' w' (Pin.refl _ _)) p.px⟩

/-! ### stores to slots -/
theorem W.setF {ca : Addr} {F H : Hp} {O : Ow} {ρ : En} {σ : L2.St} (w : W ca F O ρ σ H) {v : V} {d : Da} (r : Rp F v d) (i : Nat) : W ca F O (ρ.set i (.fz d)) (σ.set i (some v)) H :=
  ⟨w.sub, w.ow, by rw [List.length_set, List.length_set]; exact w.len, fun j s hj => by
    by_cases z : i = j
    · subst z
      have hl : i < ρ.length := by
        have := (List.getElem?_eq_some_iff.mp hj).1
        rw [List.length_set] at this; exact this
      rw [List.getElem?_set_self hl] at hj
      cases hj
      exact ⟨some v, by rw [List.getElem?_set_self (by rw [← w.len]; exact hl)], v, rfl, r⟩
    · rw [List.getElem?_set_ne z] at hj
      obtain ⟨o, eo, r'⟩ := w.sl j s hj
      exact ⟨o, by rw [List.getElem?_set_ne z]; exact eo, r'⟩⟩
theorem W.setO {ca : Addr} {F H : Hp} {O : Ow} {ρ : En} {σ : L2.St} (w : W ca F O ρ σ H) {a : Addr} (hf : F a = none) (ho : O a = none) (i : Nat) (sl : Sl) (hs : SR ca F (own O a (some i)) H i (some (.ref a)) sl) :
    W ca F (own O a (some i)) (ρ.set i sl) (σ.set i (some (.ref a))) H :=
  ⟨w.sub, fun b hb => by
    by_cases z : b = a
    · subst z; exact hf
    · rw [own_ne z] at hb; exact w.ow b hb, by rw [List.length_set, List.length_set]; exact w.len, fun j s hj => by
    by_cases z : i = j
    · subst z
      have hl : i < ρ.length := by
        have := (List.getElem?_eq_some_iff.mp hj).1
        rw [List.length_set] at this; exact this
      rw [List.getElem?_set_self hl] at hj
      cases hj
      exact ⟨some (.ref a), by rw [List.getElem?_set_self (by rw [← w.len]; exact hl)], hs⟩
    · rw [List.getElem?_set_ne z] at hj
      obtain ⟨o, eo, r'⟩ := w.sl j s hj
      refine ⟨o, by rw [List.getElem?_set_ne z]; exact eo, r'.on (fun _ _ h => h) fun b u q h => ⟨h, ?_⟩⟩
      rw [own_ne (fun e => by rw [e, ho] at q; cases q)]; exact q⟩
theorem Pin.set {c : Cf} {σ : L2.St} {i : Nat} {v : Option V} (h : i ∉ c.pins) : Pin c σ (σ.set i v) := fun j hj => List.getElem?_set_ne (fun z => h (by rw [z]; exact hj))
theorem Stp.own {F F' H H' : Hp} {O O' : Ow} {a : Addr} {i : Option Nat} (s : Stp F O H F' O' H') (h : H a = none ∨ O a ≠ none) : Stp F O H F' (own O' a i) H' :=
  ⟨s.keep, s.nf, fun b hb n => by
    rw [own_ne (fun z => by
      subst z
      rcases h with h | h
      · exact hb h
      · exact h n)]
    exact s.no b hb n⟩
def sSet (i : Nat) (A : WT Da) : WS := fun ρ e => A ρ (fun d ρ1 => e.nx (ρ1.set i (.fz d))) e.er
def sSetT (i : Nat) (T : WT (List Da)) : WS := fun ρ e => T ρ (fun ds ρ1 => e.nx (ρ1.set i (.ol ds))) e.er
theorem is_set {i : Nat} (hp : i ∉ c.pins) (h : IE c te A) : IS c (tAsg te (gName i)) (sSet i A) := ⟨fun F O ρ σ H D e w ht p =>
  h.run F O ρ σ H _ _ _ w ht (fun d ρ1 q F1 O1 v H1 s1 w1 r => p.nx _ q F1 O1 _ H1 s1 (w1.setF r i) (Pin.set hp)) p.px⟩
theorem is_setT {i : Nat} {T : WT (List Da)} (hp : i ∉ c.pins) (h : IT c te T) : IS c (tAsg te (gName i)) (sSetT i T) := ⟨fun F O ρ σ H D e w ht p =>
  h.run F O ρ σ H _ _ _ w ht (fun ds ρ1 q F1 O1 a vs H1 s1 w1 ha r hf ho hn =>
    p.nx _ q F1 (own O1 a (some i)) _ H1 (s1.own hn) (w1.setO hf ho i (.ol ds) ⟨a, vs, rfl, ha, r, own_same⟩) (Pin.set hp)) p.px⟩

/-! ### targets -/
def Only (ws : List Nat) (σ σ' : L2.St) : Prop := σ'.length = σ.length ∧ ∀ j, j ∉ ws → σ'[j]? = σ[j]?
abbrev WG := Da → En → (En → Prop) → Prop
structure IG (c : Cf) (g : TG) (G : WG) (ws : List Nat) : Prop where
  run : ∀ F O ρ σ H v d (Q : L2.St → Hp → Prop) (P : En → Prop), W c.ca F O ρ σ H → Rp F v d → G d ρ P → (∀ ρ', P ρ' → ∀ σ', W c.ca F O ρ' σ' H → Only ws σ σ' → Q σ' H) → g v σ H Q
def gN (i : Nat) : WG := fun d ρ P => P (ρ.set i (.fz d))
theorem ig_name {i : Nat} : IG c (gName i) (gN i) [i] := ⟨fun F O ρ σ H v d Q P w r h k => k _ h _ (w.setF r i) ⟨List.length_set, fun j hj => List.getElem?_set_ne (fun z => hj (by rw [z]; exact List.mem_singleton_self _))⟩⟩
abbrev WGs := List Da → En → (En → Prop) → Prop
structure IGs (c : Cf) (g : TGs) (G : WGs) (ws : List Nat) : Prop where
  run : ∀ F O ρ σ H vs ds (Q : L2.St → Hp → Prop) (P : En → Prop), W c.ca F O ρ σ H → RpL F vs ds → G ds ρ P → (∀ ρ', P ρ' → ∀ σ', W c.ca F O ρ' σ' H → Only ws σ σ' → Q σ' H) → g vs σ H Q
def gs0 : WGs := fun ds ρ P => ds = [] ∧ P ρ
def gs1 (G : WG) (Gs : WGs) : WGs := fun ds ρ P => ∃ d r, ds = d :: r ∧ G d ρ (fun ρ1 => Gs r ρ1 P)
theorem igs_nil : IGs c gNil gs0 [] := ⟨fun F O ρ σ H vs ds Q P w r h k => by
  obtain ⟨rfl, h⟩ := h
  cases r
  exact ⟨rfl, k _ h _ w ⟨rfl, fun _ _ => rfl⟩⟩⟩
theorem igs_cons {g : TG} {gs : TGs} {G : WG} {Gs : WGs} {ws ws' : List Nat} (h1 : IG c g G ws) (h2 : IGs c gs Gs ws') : IGs c (gCons g gs) (gs1 G Gs) (ws ++ ws') := ⟨fun F O ρ σ H vs ds Q P w r h k => by
  obtain ⟨d, rs, rfl, h⟩ := h
  cases r with
  | cons r1 r2 =>
    refine ⟨_, _, rfl, h1.run F O ρ σ H _ d _ _ w r1 h fun ρ1 q σ1 w1 o1 => h2.run F O ρ1 σ1 H _ rs Q P w1 r2 q fun ρ2 q2 σ2 w2 o2 => k ρ2 q2 σ2 w2 ⟨o2.1.trans o1.1, fun j hj => ?_⟩⟩
    rw [o2.2 j (fun z => hj (List.mem_append_right _ z)), o1.2 j (fun z => hj (List.mem_append_left _ z))]⟩
def gT (n : Nat) (Gs : WGs) : WG := fun d ρ P => ∃ ds, d = .tuple ds ∧ ds.length = n ∧ Gs ds ρ P
theorem ig_tup {K : PySem.W.Frag} {n : Nat} {gs : TGs} {Gs : WGs} {ws : List Nat} (h : IGs c gs Gs ws) : IG c (gTup K n gs) (gT n Gs) ws := ⟨fun F O ρ σ H v d Q P w r hg k => by
  obtain ⟨ds, rfl, hl, hg⟩ := hg
  cases r with
  | tup ha hs => exact ⟨_, _, rfl, .inl (.inl (w.sub _ _ ha)), by rw [hs.len]; exact hl, h.run F O ρ σ H _ ds Q P w hs hg k⟩⟩
def sAsg (A : WT Da) (G : WG) : WS := fun ρ e => A ρ (fun d ρ1 => G d ρ1 e.nx) e.er
theorem Pin.only {σ σ' : L2.St} {ws : List Nat} (hp : ∀ j ∈ ws, j ∉ c.pins) (o : Only ws σ σ') : Pin c σ σ' := fun j hj => o.2 j (fun z => hp j z hj)
theorem is_asg {g : TG} {G : WG} {ws : List Nat} (hp : ∀ j ∈ ws, j ∉ c.pins) (h : IE c te A) (hg : IG c g G ws) : IS c (tAsg te g) (sAsg A G) := ⟨fun F O ρ σ H D e w ht p =>
  h.run F O ρ σ H _ _ _ w ht (fun d ρ1 q F1 O1 v H1 s1 w1 r => hg.run F1 O1 ρ1 σ H1 v d _ _ w1 r q fun ρ2 q2 σ2 w2 o2 => p.nx _ q2 F1 O1 σ2 H1 s1 w2 (Pin.only hp o2)) p.px⟩

/-! ### what is walked -/
structure Rn (c : Cf) (J : It) (F1 : Hp) (ds : List Da) : Prop where
  turn : ∀ F O ρ σ H k d, (∀ a o, F1 a = some o → F a = some o) → W c.ca F O ρ σ H → ds[k]? = some d →
    J.go k H ∧ ∀ x H', J.yld k H x H' → ∃ F' O', Stp F O H F' O' H' ∧ W c.ca F' O' ρ σ H' ∧ Rp F' x d
  stop : ∀ F O ρ σ H k, (∀ a o, F1 a = some o → F a = some o) → W c.ca F O ρ σ H → ds.length ≤ k → J.stop k H
structure II (c : Cf) (wi : TI) (T : WT (List Da)) : Prop where
  run : ∀ F O ρ σ H (R : It → Hp → Prop) (P : List Da → En → Prop) (Px : Ex → En → Prop), W c.ca F O ρ σ H → T ρ P Px →
    (∀ ds ρ', P ds ρ' → ∀ F' O' J H', Stp F O H F' O' H' → W c.ca F' O' ρ' σ H' → Rn c J F' ds → R J H') → (∀ x ρ', Px x ρ' → PXp c F O σ H x ρ') → wi σ H R
def forL (G : WG) (B : WS) (e : Ed) : List Da → En → Prop
  | [], ρ => e.nx ρ
  | d :: ds, ρ => G d ρ (fun ρ1 => B ρ1 { e with nx := forL G B e ds, ct := forL G B e ds, bk := e.nx })
def sFor (T : WT (List Da)) (G : WG) (B : WS) : WS := fun ρ e => T ρ (fun ds ρ1 => forL G B e ds ρ1) e.er
theorem is_for {wi : TI} {T : WT (List Da)} {g : TG} {G : WG} {ws : List Nat} (hp : ∀ j ∈ ws, j ∉ c.pins) (hi : II c wi T) (hg : IG c g G ws) (hb : IS c t S) : IS c (tFor wi g t) (sFor T G S) := ⟨fun F O ρ σ H D e w ht p =>
  hi.run F O ρ σ H _ _ _ w ht (fun ds ρ1 q F1 O1 J H1 s1 w1 rn => by
    have p1 := p.step s1 (Pin.refl _ _)
    refine ⟨fun k m σ' H' => m = ds.length - k ∧ k ≤ ds.length ∧ ∃ F' O' ρ', Stp F1 O1 H1 F' O' H' ∧ W c.ca F' O' ρ' σ' H' ∧ Pin c σ σ' ∧ forL G S e (ds.drop k) ρ',
      ⟨ds.length, by omega, Nat.zero_le _, F1, O1, ρ1, Stp.refl _ _ _, w1, Pin.refl _ _, q⟩, ?_⟩
    rintro k m σ' H' ⟨rfl, hk, F', O', ρ', s', w', pin, hf⟩
    by_cases hlt : k < ds.length
    · rw [List.drop_eq_getElem_cons hlt] at hf
      have e1 : ds[k]? = some ds[k] := List.getElem?_eq_getElem hlt
      obtain ⟨go, yl⟩ := rn.turn F' O' ρ' σ' H' k ds[k] (w1.ext s') w' e1
      refine .inr ⟨go, fun σ2 H2 => k + 1 ≤ ds.length ∧ ∃ F' O' ρ', Stp F1 O1 H1 F' O' H2 ∧ W c.ca F' O' ρ' σ2 H2 ∧ Pin c σ σ2 ∧ forL G S e (ds.drop (k + 1)) ρ',
        fun σ2 H2 h => ⟨ds.length - (k + 1), by omega, rfl, h.1, h.2⟩, fun x H2 hy => ?_⟩
      obtain ⟨F2, O2, s2, w2, r2⟩ := yl x H2 hy
      have st := s'.trans s2
      refine hg.run F2 O2 ρ' σ' H2 x ds[k] _ _ w2 r2 hf fun ρ3 h3 σ3 w3 o3 => ?_
      have pin3 : Pin c σ σ3 := pin.trans (Pin.only hp o3)
      have p3 := p1.step st pin3
      refine hb.run F2 O2 ρ3 σ3 H2 _ _ w3 h3 ⟨?_, p3.rt, ?_, ?_, p3.er⟩
      · intro ρ4 h4 F4 O4 σ4 H4 s4 w4 pin4
        exact ⟨hlt, F4, O4, ρ4, st.trans s4, w4, pin3.trans pin4, h4⟩
      · intro ρ4 h4 F4 O4 σ4 H4 s4 w4 pin4
        exact p3.nx ρ4 h4 F4 O4 σ4 H4 s4 w4 pin4
      · intro ρ4 h4 F4 O4 σ4 H4 s4 w4 pin4
        exact ⟨hlt, F4, O4, ρ4, st.trans s4, w4, pin3.trans pin4, h4⟩
    · have ek : k = ds.length := by omega
      rw [List.drop_of_length_le (by omega)] at hf
      exact .inl ⟨rn.stop F' O' ρ' σ' H' k (w1.ext s') w' (by omega), p1.nx ρ' hf F' O' σ' H' s' w' pin⟩) p.px⟩

/-! ### while -/
def sWhile (C : WT Bool) (B : WS) : WS := fun ρ e => ∃ I : Nat → En → Prop, (∃ n, I n ρ) ∧ ∀ n ρ, I n ρ →
  C ρ (fun b ρ1 => (b = true ∧ B ρ1 { e with nx := fun ρ2 => ∃ m, m < n ∧ I m ρ2, ct := fun ρ2 => ∃ m, m < n ∧ I m ρ2, bk := e.nx }) ∨ (b = false ∧ e.nx ρ1)) e.er
theorem is_while {tc : TT} (hc : IB c tc C) (hb : IS c t S) : IS c (tWhile tc t) (sWhile C S) := ⟨fun F O ρ σ H D e w ht p => by
  obtain ⟨I, ⟨n, h0⟩, hI⟩ := ht
  refine ⟨fun m σ' H' => ∃ F' O' ρ', Stp F O H F' O' H' ∧ W c.ca F' O' ρ' σ' H' ∧ Pin c σ σ' ∧ I m ρ', ⟨n, F, O, ρ, Stp.refl _ _ _, w, Pin.refl _ _, h0⟩, ?_⟩
  rintro m σ' H' ⟨F', O', ρ', s', w', pin, hm⟩
  have p' := p.step s' pin
  refine hc.run F' O' ρ' σ' H' _ _ _ w' (hI m ρ' hm) (fun b ρ1 q F1 O1 H1 s1 w1 => ?_) p'.px
  have p1 := p'.step s1 (Pin.refl _ _)
  rcases q with ⟨rfl, q⟩ | ⟨rfl, q⟩
  · rw [if_pos rfl]
    refine ⟨fun σ2 H2 => ∃ m', m' < m ∧ ∃ F' O' ρ', Stp F O H F' O' H2 ∧ W c.ca F' O' ρ' σ2 H2 ∧ Pin c σ σ2 ∧ I m' ρ', fun σ2 H2 h => h, ?_⟩
    refine hb.run F1 O1 ρ1 σ' H1 _ _ w1 q ⟨?_, p1.rt, ?_, ?_, p1.er⟩
    · rintro ρ4 ⟨m', hm', h4⟩ F4 O4 σ4 H4 s4 w4 pin4
      exact ⟨m', hm', F4, O4, ρ4, (s'.trans s1).trans s4, w4, pin.trans pin4, h4⟩
    · intro ρ4 h4 F4 O4 σ4 H4 s4 w4 pin4
      exact p1.nx ρ4 h4 F4 O4 σ4 H4 s4 w4 pin4
    · rintro ρ4 ⟨m', hm', h4⟩ F4 O4 σ4 H4 s4 w4 pin4
      exact ⟨m', hm', F4, O4, ρ4, (s'.trans s1).trans s4, w4, pin.trans pin4, h4⟩
  · rw [if_neg (by decide)]
    exact p1.nx ρ1 q F1 O1 σ' H1 (Stp.refl _ _ _) w1 (Pin.refl _ _)⟩
end
end Ip
end
section
set_option Elab.async false
set_option linter.all false
set_option maxRecDepth 100000
/-! Comprehensions, calls, promises. -/
namespace Ip
open PySem L2

/-! ### comprehensions -/
def keepS : Option Sl → Sl
  | some (.fz d) => .fz d
  | _ => .un
/-- slots of a comprehension: forgotten inside -/
def wipeE (ρ : En) : List Nat → En
  | [] => ρ
  | v :: vs => (wipeE ρ vs).set v .un
/-- behind it: as they were ahead of it, if frozen -/
def backE (ρ0 ρ : En) : List Nat → En
  | [] => ρ
  | v :: vs => (backE ρ0 ρ vs).set v (keepS ρ0[v]?)
theorem wipeE_get (ρ : En) : ∀ (vs : List Nat) (i : Nat), i ∉ vs → (wipeE ρ vs)[i]? = ρ[i]?
  | [], i, _ => rfl
  | v :: vs, i, h => by
    show ((wipeE ρ vs).set v .un)[i]? = _
    rw [List.getElem?_set_ne (fun z => h (by rw [z]; exact List.mem_cons_self))]
    exact wipeE_get ρ vs i (fun z => h (List.mem_cons_of_mem _ z))
theorem wipeE_un (ρ : En) : ∀ (vs : List Nat) (i : Nat) (s : Sl), i ∈ vs → (wipeE ρ vs)[i]? = some s → s = .un
  | [], i, s, h, _ => by cases h
  | v :: vs, i, s, h, e => by
    have e : ((wipeE ρ vs).set v .un)[i]? = some s := e
    by_cases z : v = i
    · subst z
      have hl := (List.getElem?_eq_some_iff.mp e).1
      rw [List.length_set] at hl
      rw [List.getElem?_set_self hl] at e
      cases e; rfl
    · rw [List.getElem?_set_ne z] at e
      refine wipeE_un ρ vs i s ?_ e
      cases h with
      | head => exact absurd rfl z
      | tail _ h => exact h
theorem wipeE_len (ρ : En) : ∀ vs : List Nat, (wipeE ρ vs).length = ρ.length
  | [] => rfl
  | v :: vs => by show ((wipeE ρ vs).set v .un).length = _; rw [List.length_set]; exact wipeE_len ρ vs
theorem backE_len (ρ0 ρ : En) : ∀ vs : List Nat, (backE ρ0 ρ vs).length = ρ.length
  | [] => rfl
  | v :: vs => by show ((backE ρ0 ρ vs).set v _).length = _; rw [List.length_set]; exact backE_len ρ0 ρ vs
theorem backE_out (ρ0 ρ : En) : ∀ (vs : List Nat) (i : Nat), i ∉ vs → (backE ρ0 ρ vs)[i]? = ρ[i]?
  | [], i, _ => rfl
  | v :: vs, i, h => by
    show ((backE ρ0 ρ vs).set v _)[i]? = _
    rw [List.getElem?_set_ne (fun z => h (by rw [z]; exact List.mem_cons_self))]
    exact backE_out ρ0 ρ vs i (fun z => h (List.mem_cons_of_mem _ z))
theorem backE_in (ρ0 ρ : En) : ∀ (vs : List Nat) (i : Nat) (s : Sl), i ∈ vs → (backE ρ0 ρ vs)[i]? = some s → s = keepS ρ0[i]?
  | [], i, s, h, _ => by cases h
  | v :: vs, i, s, h, e => by
    have e : ((backE ρ0 ρ vs).set v (keepS ρ0[v]?))[i]? = some s := e
    by_cases z : v = i
    · subst z
      have hl := (List.getElem?_eq_some_iff.mp e).1
      rw [List.length_set] at hl
      rw [List.getElem?_set_self hl] at e
      cases e; rfl
    · rw [List.getElem?_set_ne z] at e
      refine backE_in ρ0 ρ vs i s ?_ e
      cases h with
      | head => exact absurd rfl z
      | tail _ h => exact h
theorem wipe_get (σ : L2.St) : ∀ (vs : List Nat) (i : Nat), i ∉ vs → (L2.wipe σ vs)[i]? = σ[i]?
  | [], i, _ => rfl
  | v :: vs, i, h => by
    show ((L2.wipe σ vs).set v none)[i]? = _
    rw [List.getElem?_set_ne (fun z => h (by rw [z]; exact List.mem_cons_self))]
    exact wipe_get σ vs i (fun z => h (List.mem_cons_of_mem _ z))
/-- two rows of slots that agree outside some are alike when these are wiped -/
theorem wipe_eq {σ σ' : L2.St} (hl : σ'.length = σ.length) : ∀ {vs : List Nat}, (∀ j, j ∉ vs → σ'[j]? = σ[j]?) → L2.wipe σ' vs = L2.wipe σ vs := fun {vs} h => by
  refine List.ext_getElem? fun i => ?_
  by_cases hi : i ∈ vs
  · have key : ∀ (τ : L2.St) (ws : List Nat), i ∈ ws → (L2.wipe τ ws)[i]? = if i < τ.length then some none else none := fun τ ws => by
      induction ws with
      | nil => intro h; cases h
      | cons v ws ih =>
        intro h
        show ((L2.wipe τ ws).set v none)[i]? = _
        by_cases z : v = i
        · subst z
          by_cases q : v < τ.length
          · rw [List.getElem?_set_self (by rw [L2.wipe_length]; exact q), if_pos q]
          · rw [if_neg q]
            exact List.getElem?_eq_none_iff.mpr (by rw [List.length_set, L2.wipe_length]; omega)
        · rw [List.getElem?_set_ne z]
          refine ih ?_
          cases h with
          | head => exact absurd rfl z
          | tail _ h => exact h
    rw [key σ' vs hi, key σ vs hi, hl]
  · rw [wipe_get σ' vs i hi, wipe_get σ vs i hi, h i hi]
section
variable {c : Cf} {te ta tb : TE} {A B : WT Da} {a b : WT Ar} {C : WT Bool} {t u : TS} {S U : WS}
theorem W.wipe {ca : Addr} {F H : Hp} {O : Ow} {ρ : En} {σ : L2.St} (w : W ca F O ρ σ H) (vs : List Nat) : W ca F O (wipeE ρ vs) (L2.wipe σ vs) H :=
  ⟨w.sub, w.ow, by rw [wipeE_len, L2.wipe_length]; exact w.len, fun i s hs => by
    by_cases hi : i ∈ vs
    · have e := wipeE_un ρ vs i s hi hs
      subst e
      have hl : i < (L2.wipe σ vs).length := by
        rw [L2.wipe_length, ← w.len, ← wipeE_len ρ vs]
        exact (List.getElem?_eq_some_iff.mp hs).1
      exact ⟨_, List.getElem?_eq_getElem hl, trivial⟩
    · rw [wipeE_get ρ vs i hi] at hs
      obtain ⟨o, eo, r⟩ := w.sl i s hs
      exact ⟨o, by rw [wipe_get σ vs i hi]; exact eo, r⟩⟩
/-- from within a comprehension back to the slots around it -/
theorem W.back {ca : Addr} {F H F0 H0 : Hp} {O O0 : Ow} {ρ ρ0 : En} {σ σ2 : L2.St} {vs : List Nat} (w : W ca F O ρ σ2 H) (w0 : W ca F0 O0 ρ0 σ H0) (ext : ∀ a o, F0 a = some o → F a = some o)
    (hl : σ2.length = σ.length) (hs : ∀ j, j ∉ vs → σ2[j]? = σ[j]?) : W ca F O (backE ρ0 ρ vs) σ H :=
  ⟨w.sub, w.ow, by rw [backE_len, w.len, hl], fun i s e => by
    by_cases hi : i ∈ vs
    · have e1 := backE_in ρ0 ρ vs i s hi e
      have hlt : i < σ.length := by
        have := (List.getElem?_eq_some_iff.mp e).1
        rw [backE_len, w.len, hl] at this; exact this
      cases q : ρ0[i]? with
      | none =>
        have := List.getElem?_eq_none_iff.mp q
        rw [w0.len] at this
        omega
      | some s0 =>
        rw [q] at e1
        obtain ⟨o, eo, r⟩ := w0.sl i s0 q
        refine ⟨o, eo, ?_⟩
        cases s0 with
        | fz d => subst e1; obtain ⟨v, ev, r⟩ := r; exact ⟨v, ev, Rp.mono ext _ _ r⟩
        | un => subst e1; trivial
        | ol _ => subst e1; trivial
        | odK _ => subst e1; trivial
        | odT _ => subst e1; trivial
        | dl _ _ => subst e1; trivial
        | scr _ _ => subst e1; trivial
        | xs _ _ _ => subst e1; trivial
    · rw [backE_out ρ0 ρ vs i hi] at e
      obtain ⟨o, eo, r⟩ := w.sl i s e
      exact ⟨o, by rw [← hs i hi]; exact eo, r⟩⟩
/-- a list that is nobody's grows -/
theorem W.grow {ca : Addr} {F H : Hp} {O : Ow} {ρ : En} {σ : L2.St} (w : W ca F O ρ σ H) {D : Addr} (u : HO) (hf : F D = none) (ho : O D = none) : W ca F O ρ σ (upd H D u) :=
  ⟨fun a o h => by rw [upd_ne (fun z => by rw [z, hf] at h; cases h)]; exact w.sub a o h, w.ow, w.len, fun i s hs => by
    obtain ⟨o, eo, r⟩ := w.sl i s hs
    refine ⟨o, eo, r.on (fun _ _ h => h) fun a v q h => ⟨?_, q⟩⟩
    rw [upd_ne (fun z => by rw [z, ho] at q; cases q)]; exact h⟩
theorem Stp.grow {F F' H H' : Hp} {O O' : Ow} {D : Addr} {u : HO} (s : Stp F O H F' O' H') (h : H D = none ∨ O D ≠ none) : Stp F O H F' O' (upd H' D u) :=
  ⟨fun b o hb n => by
    rw [upd_ne (fun z => by
      subst z
      rcases h with h | h
      · rw [h] at hb; cases hb
      · exact h n)]
    exact s.keep b o hb n, s.nf, s.no⟩

def lcL (G : WG) (Tt : WT Bool) (A : WT Da) (vs : List Nat) (P : List Da → En → Prop) (Px : Ex → En → Prop) : List Da → List Da → En → Prop
  | acc, [], ρ => P acc ρ
  | acc, d :: ds, ρ => G d (wipeE ρ vs) (fun ρ2 => Tt ρ2 (fun b ρ3 => (b = true ∧ A ρ3 (fun y ρ4 => acc.length < 100000 ∧ lcL G Tt A vs P Px (acc ++ [y]) ds (backE ρ ρ4 vs)) (fun _ _ => False)) ∨
      (b = false ∧ lcL G Tt A vs P Px acc ds (backE ρ ρ3 vs))) (fun _ _ => False))
def tLcD (T : WT (List Da)) (G : WG) (Tt : WT Bool) (A : WT Da) (vs : List Nat) : WT (List Da) := fun ρ P Px => T ρ (fun ds ρ1 => lcL G Tt A vs P Px [] ds ρ1) Px
theorem it_lc {wi : TI} {T : WT (List Da)} {g : TG} {G : WG} {tt : TT} {Tt : WT Bool} {vs ws : List Nat} (hw : ∀ j ∈ ws, j ∈ vs) (hi : II c wi T) (hg : IG c g G ws) (htt : IB c tt Tt) (he : IE c te A) :
    IT c (tLc wi g tt te vs) (tLcD T G Tt A vs) := ⟨fun F O ρ σ H Q P Px w ht hP hX =>
  hi.run F O ρ σ H _ _ _ w ht (fun ds ρ1 q F1 O1 J H1 s1 w1 rn D hD => by
    have fD : F1 D = none := w1.fnone hD
    obtain ⟨w1', s1'⟩ := w1.newT hD (.lst [])
    have fr := fresh_of s1 hD
    refine ⟨fun k m H' => m = ds.length - k ∧ k ≤ ds.length ∧ ∃ F' O' ρ' acc ys, Stp F O H F' O' H' ∧ (∀ a o, F1 a = some o → F' a = some o) ∧ W c.ca F' O' ρ' σ H' ∧ H' D = some (.lst acc) ∧ RpL F' acc ys ∧ F' D = none ∧ O' D = none ∧ lcL G Tt A vs P Px ys (ds.drop k) ρ',
      ⟨ds.length, by omega, Nat.zero_le _, F1, own O1 D none, ρ1, [], [], s1.trans s1', fun _ _ h => h, w1', upd_same, .nil, fD, own_same, q⟩, ?_⟩
    rintro k m H' ⟨rfl, hk, F', O', ρ', acc, ys, s', ext, w', hD', ra, fD', oD', hf⟩
    by_cases hlt : k < ds.length
    · rw [List.drop_eq_getElem_cons hlt] at hf
      have e1 : ds[k]? = some ds[k] := List.getElem?_eq_getElem hlt
      obtain ⟨go, yl⟩ := rn.turn F' O' ρ' σ H' k ds[k] ext w' e1
      refine .inr ⟨go, fun H2 => k + 1 ≤ ds.length ∧ ∃ F' O' ρ' acc ys, Stp F O H F' O' H2 ∧ (∀ a o, F1 a = some o → F' a = some o) ∧ W c.ca F' O' ρ' σ H2 ∧ H2 D = some (.lst acc) ∧ RpL F' acc ys ∧ F' D = none ∧ O' D = none ∧ lcL G Tt A vs P Px ys (ds.drop (k + 1)) ρ',
        fun H2 h => ⟨ds.length - (k + 1), by omega, rfl, h.1, h.2⟩, fun x H2 hy => ?_⟩
      obtain ⟨F2, O2, s2, w2, r2⟩ := yl x H2 hy
      have D2 := s2.keep D _ hD' oD'
      have O2D := s2.no D (by rw [hD']; exact fun z => nomatch z) oD'
      have F2D : F2 D = none := by rw [s2.nf D (by rw [hD']; exact fun z => nomatch z) oD']; exact fD'
      refine hg.run F2 O2 (wipeE ρ' vs) (L2.wipe σ vs) H2 x ds[k] _ _ (w2.wipe vs) r2 hf fun ρ3 h3 σ3 w3 o3 => ?_
      have hl3 : σ3.length = σ.length := by rw [o3.1, L2.wipe_length]
      have out3 : ∀ j, j ∉ vs → σ3[j]? = σ[j]? := fun j hj => by rw [o3.2 j (fun z => hj (hw j z)), wipe_get σ vs j hj]
      refine ⟨?_, ?_⟩
      · exact wipe_eq hl3 out3
      · refine htt.run F2 O2 ρ3 σ3 H2 _ _ _ w3 h3 (fun b ρ4 h4 F4 O4 H4 s4 w4 => ?_) (fun x ρ4 h4 => h4.elim)
        have D4 := s4.keep D _ D2 O2D
        have O4D := s4.no D (by rw [D2]; exact fun z => nomatch z) O2D
        have F4D : F4 D = none := by rw [s4.nf D (by rw [D2]; exact fun z => nomatch z) O2D]; exact F2D
        rcases h4 with ⟨rfl, h4⟩ | ⟨rfl, h4⟩
        · rw [if_pos rfl]
          refine he.run F4 O4 ρ4 σ3 H4 _ _ _ w4 h4 (fun y ρ5 h5 F5 O5 v H5 s5 w5 r5 => ?_) (fun x ρ4 h4 => h4.elim)
          have D5 := s5.keep D _ D4 O4D
          have O5D := s5.no D (by rw [D4]; exact fun z => nomatch z) O4D
          have F5D : F5 D = none := by rw [s5.nf D (by rw [D4]; exact fun z => nomatch z) O4D]; exact F4D
          have sAll : Stp F' O' H' F5 O5 H5 := (s2.trans s4).trans s5
          refine ⟨acc, D5, ?_, hlt, F5, O5, backE ρ' ρ5 vs, acc ++ [v], ys ++ [y], (s'.trans sAll).grow fr, fun a o h => w'.ext sAll a o (ext a o h), (w5.back w' (w'.ext sAll) hl3 out3).grow _ F5D O5D, upd_same, RpL.app (RpL.mono (w'.ext sAll) _ _ ra) (.cons r5 .nil), F5D, O5D, h5.2⟩
          rw [ra.len]
          exact Nat.lt_of_lt_of_le h5.1 (by decide)
        · rw [if_neg (by decide)]
          have sAll : Stp F' O' H' F4 O4 H4 := s2.trans s4
          exact ⟨hlt, F4, O4, backE ρ' ρ4 vs, acc, ys, s'.trans sAll, fun a o h => w'.ext sAll a o (ext a o h), w4.back w' (w'.ext sAll) hl3 out3, D4, RpL.mono (w'.ext sAll) _ _ ra, F4D, O4D, h4⟩
    · have ek : k = ds.length := by omega
      rw [List.drop_of_length_le (by omega)] at hf
      exact .inl ⟨rn.stop F' O' ρ' σ H' k ext w' (by omega), hP _ _ hf F' O' D acc H' s' w' hD' ra fD' oD' fr⟩) hX⟩
end
end Ip
end
section
set_option Elab.async false
set_option linter.all false
set_option maxRecDepth 100000
/-! Calls of defs, promises. -/
namespace Ip
open PySem L2

abbrev Fn := List Sl → (Da → List Sl → Prop) → (Ex → List Sl → Prop) → Prop
def psOf (as : List Ar) (ρ : En) : List Sl := as.map fun a => match a with
  | .v d => .fz d
  | .l i => (ρ[i]?).getD .un
def wb : List Ar → List Sl → En → En
  | .l i :: as, s :: ss, ρ => wb as ss (ρ.set i s)
  | .v _ :: as, _ :: ss, ρ => wb as ss ρ
  | _, _, ρ => ρ
def kindOk : Sl → Sl → Prop
  | _, .un => True
  | _, .fz _ => True
  | .ol _, .ol _ => True
  | .odK _, .odK _ => True
  | .odT _, .odT _ => True
  | .dl _ _, .dl _ _ => True
  | _, _ => False
def okB : List Ar → List Sl → List Sl → Prop
  | .l _ :: as, p :: ps, r :: rs => kindOk p r ∧ okB as ps rs
  | .v _ :: as, _ :: ps, _ :: rs => okB as ps rs
  | [], [], [] => True
  | _, _, _ => False
def lents : List Ar → List Nat
  | [] => []
  | .l i :: as => i :: lents as
  | .v _ :: as => lents as
def lpos (j : Nat) : List Ar → List Nat
  | [] => []
  | .l _ :: as => j :: lpos (j + 1) as
  | .v _ :: as => lpos (j + 1) as
def posOf (i : Nat) : Nat → List Ar → Option Nat
  | _, [] => none
  | j, .l k :: as => if k = i then some j else posOf i (j + 1) as
  | j, .v _ :: as => posOf i (j + 1) as

theorem posOf_none {i : Nat} : ∀ {as : List Ar} {j : Nat}, i ∉ lents as → posOf i j as = none
  | [], _, _ => rfl
  | .l k :: as, j, h => by
    unfold posOf
    rw [if_neg (fun z => h (by rw [← z]; exact List.mem_cons_self))]
    exact posOf_none (fun z => h (List.mem_cons_of_mem _ z))
  | .v _ :: as, j, h => posOf_none (as := as) (j := j + 1) h
theorem mem_lents {i : Nat} : ∀ {as : List Ar} {k : Nat}, as[k]? = some (.l i) → i ∈ lents as
  | [], _, h => by simp at h
  | a :: as, 0, h => by
    simp at h; subst h; exact List.mem_cons_self
  | a :: as, k + 1, h => by
    have := mem_lents (as := as) (k := k) (by simpa using h)
    cases a with
    | v d => exact this
    | l j => exact List.mem_cons_of_mem _ this
theorem posOf_some {i : Nat} : ∀ {as : List Ar} {j k : Nat}, (lents as).Nodup → as[k]? = some (.l i) → posOf i j as = some (j + k)
  | [], _, _, _, h => by simp at h
  | a :: as, j, 0, _, h => by
    simp at h; subst h
    unfold posOf; rw [if_pos rfl]; rfl
  | a :: as, j, k + 1, hn, h => by
    have h' : as[k]? = some (.l i) := by simpa using h
    cases a with
    | v d =>
      have := posOf_some (as := as) (j := j + 1) (k := k) hn h'
      show posOf i (j + 1) as = _
      rw [this]; congr 1; omega
    | l m =>
      have hn' : m ∉ lents as ∧ (lents as).Nodup := List.nodup_cons.mp hn
      have := posOf_some (as := as) (j := j + 1) (k := k) hn'.2 h'
      unfold posOf
      rw [if_neg (fun z => hn'.1 (by rw [z]; exact mem_lents h')), this]; congr 1; omega
theorem mem_lpos {i : Nat} : ∀ {as : List Ar} {j k : Nat}, as[k]? = some (.l i) → j + k ∈ lpos j as
  | [], _, _, h => by simp at h
  | a :: as, j, 0, h => by
    simp at h; subst h; exact List.mem_cons_self
  | a :: as, j, k + 1, h => by
    have := mem_lpos (as := as) (j := j + 1) (k := k) (by simpa using h)
    have e : j + (k + 1) = j + 1 + k := by omega
    rw [e]
    cases a with
    | v d => exact this
    | l m => exact List.mem_cons_of_mem _ this
theorem wb_len : ∀ (as : List Ar) (ss : List Sl) (ρ : En), (wb as ss ρ).length = ρ.length
  | [], _, ρ => by unfold wb; rfl
  | .l i :: as, [], ρ => rfl
  | .v _ :: as, [], ρ => rfl
  | .l i :: as, s :: ss, ρ => by unfold wb; rw [wb_len as ss _, List.length_set]
  | .v _ :: as, s :: ss, ρ => by unfold wb; exact wb_len as ss _
theorem okB_len : ∀ {as : List Ar} {ps rs : List Sl}, okB as ps rs → rs.length = as.length
  | [], [], [], _ => rfl
  | .l _ :: as, p :: ps, r :: rs, h => by rw [List.length_cons, List.length_cons, okB_len h.2]
  | .v _ :: as, p :: ps, r :: rs, h => by rw [List.length_cons, List.length_cons, okB_len (as := as) (ps := ps) (rs := rs) h]
  | [], _ :: _, _, h => h.elim
  | [], [], _ :: _, h => h.elim
  | .l _ :: _, [], _, h => h.elim
  | .v _ :: _, [], _, h => h.elim
  | .l _ :: _, _ :: _, [], h => h.elim
  | .v _ :: _, _ :: _, [], h => h.elim
theorem okB_kind {i : Nat} : ∀ {as : List Ar} {ps rs : List Sl} {j : Nat} {p r : Sl}, okB as ps rs → as[j]? = some (.l i) → ps[j]? = some p → rs[j]? = some r → kindOk p r
  | [], [], [], _, _, _, _, h, _, _ => by simp at h
  | .l _ :: as, p :: ps, r :: rs, 0, _, _, h, _, h2, h3 => by simp at h2 h3; subst h2 h3; exact h.1
  | .v _ :: as, p :: ps, r :: rs, 0, _, _, h, h1, h2, h3 => by simp at h1
  | .l _ :: as, p :: ps, r :: rs, j + 1, _, _, h, h1, h2, h3 => okB_kind (as := as) (ps := ps) (rs := rs) (j := j) h.2 (by simpa using h1) (by simpa using h2) (by simpa using h3)
  | .v _ :: as, p :: ps, r :: rs, j + 1, _, _, h, h1, h2, h3 => okB_kind (as := as) (ps := ps) (rs := rs) (j := j) h (by simpa using h1) (by simpa using h2) (by simpa using h3)
  | [], _ :: _, _, _, _, _, h, _, _, _ => h.elim
  | [], [], _ :: _, _, _, _, h, _, _, _ => h.elim
  | .l _ :: _, [], _, _, _, _, h, _, _, _ => h.elim
  | .v _ :: _, [], _, _, _, _, h, _, _, _ => h.elim
  | .l _ :: _, _ :: _, [], _, _, _, h, _, _, _ => h.elim
  | .v _ :: _, _ :: _, [], _, _, _, h, _, _, _ => h.elim
theorem wb_get : ∀ {as : List Ar} {ss : List Sl} {ρ : En} {i : Nat} {s : Sl}, ss.length = as.length → (wb as ss ρ)[i]? = some s → (i ∉ lents as ∧ ρ[i]? = some s) ∨ ∃ j : Nat, as[j]? = some (Ar.l i) ∧ ss[j]? = some s
  | [], [], ρ, i, s, _, h => .inl ⟨by simp [lents], by simpa [wb] using h⟩
  | .v _ :: as, s0 :: ss, ρ, i, s, hl, h => by
    rcases wb_get (as := as) (ss := ss) (ρ := ρ) (by simpa using hl) (show (wb as ss ρ)[i]? = some s from h) with q | ⟨j, h1, h2⟩
    · exact .inl q
    · exact .inr ⟨j + 1, by simpa using h1, by simpa using h2⟩
  | .l k :: as, s0 :: ss, ρ, i, s, hl, h => by
    rcases wb_get (as := as) (ss := ss) (ρ := ρ.set k s0) (by simpa using hl) (show (wb as ss (ρ.set k s0))[i]? = some s from h) with ⟨q1, q2⟩ | ⟨j, h1, h2⟩
    · by_cases z : k = i
      · subst z
        have hlt := (List.getElem?_eq_some_iff.mp q2).1
        rw [List.length_set] at hlt
        rw [List.getElem?_set_self hlt] at q2
        exact .inr ⟨0, rfl, by simpa using q2⟩
      · rw [List.getElem?_set_ne z] at q2
        refine .inl ⟨fun m => ?_, q2⟩
        cases m with
        | head => exact z rfl
        | tail _ m => exact q1 m
    · exact .inr ⟨j + 1, by simpa using h1, by simpa using h2⟩
  | [], _ :: _, _, _, _, hl, _ => by simp at hl
  | _ :: _, [], _, _, _, hl, _ => by simp at hl
theorem AL.at {F : Hp} {σ : L2.St} : ∀ {as : List Ar} {vs : List V} {j : Nat} {a : Ar}, AL F σ vs as → as[j]? = some a → ∃ v, vs[j]? = some v ∧ AR F σ v a
  | [], [], _, _, _, h => by simp at h
  | a :: as, v :: vs, 0, _, h, e => by simp at e; subst e; exact ⟨v, rfl, h.1⟩
  | a :: as, v :: vs, j + 1, _, h, e => by
    obtain ⟨w, h1, h2⟩ := AL.at (as := as) (vs := vs) (j := j) h.2 (by simpa using e)
    exact ⟨w, by simpa using h1, h2⟩
  | [], _ :: _, _, _, h, _ => h.elim
  | _ :: _, [], _, _, h, _ => h.elim
theorem AL.len {F : Hp} {σ : L2.St} : ∀ {as : List Ar} {vs : List V}, AL F σ vs as → vs.length = as.length
  | [], [], _ => rfl
  | a :: as, v :: vs, h => by rw [List.length_cons, List.length_cons, AL.len h.2]
  | [], _ :: _, h => h.elim
  | _ :: _, [], h => h.elim

/-- what a def promises -/
def spOf (K : PySem.W.Frag) (xc : Nat → Addr) (pins : List Nat) (n : Nat) (f : Fn) : Sp := fun vs H Q E => vs.length = n ∧ ∃ ca F O ps P Px, W ca F O ps (vs.map some) H ∧ f ps P Px ∧
  (∀ d ps', P d ps' → ∀ F' O' σ' v H', Stp F O H F' O' H' → W ca F' O' ps' σ' H' → (∀ j ∈ pins, σ'[j]? = (vs.map some)[j]?) → Rp F' v d → Q v H') ∧
  (∀ x ps', Px x ps' → ∀ F' O' σ' cls d H', Stp F O H F' O' H' → W ca F' O' ps' σ' H' → (∀ j ∈ pins, σ'[j]? = (vs.map some)[j]?) → XR ⟨K, ca, pins, fun _ => E, xc⟩ F' H' x cls d → E cls d H')

def tCal (f : Fn) (pins : List Nat) (n : Nat) (as : WT (List Ar)) : WT Da := fun ρ P Px => as ρ (fun xs ρ1 => xs.length = n ∧ (lents xs).Nodup ∧ (lpos 0 xs).all (fun j => pins.contains j) = true ∧
  f (psOf xs ρ1) (fun d ps => okB xs (psOf xs ρ1) ps ∧ P d (wb xs ps ρ1)) (fun x ps => okB xs (psOf xs ρ1) ps ∧ Px x (wb xs ps ρ1))) Px

section
variable {c : Cf}
/-- the callee's owners -/
def ocOf (O : Ow) (as : List Ar) : Ow := fun b => match O b with
  | none => none
  | some i => posOf i 0 as
/-- the owners behind a call -/
def obOf (O : Ow) (F' : Hp) : Ow := fun b => match F' b with
  | none => O b
  | some _ => none
theorem ocOf_none {O : Ow} {as : List Ar} {b : Addr} (h : O b = none) : ocOf O as b = none := by unfold ocOf; rw [h]
theorem ocOf_some {O : Ow} {as : List Ar} {b : Addr} {i : Nat} (h : O b = some i) : ocOf O as b = posOf i 0 as := by unfold ocOf; rw [h]
theorem obOf_none {O : Ow} {F' : Hp} {b : Addr} (h : F' b = none) : obOf O F' b = O b := by unfold obOf; rw [h]
theorem call_in {ca : Addr} {F H : Hp} {O : Ow} {ρ : En} {σ : L2.St} (w : W ca F O ρ σ H) {as : List Ar} {vs : List V} (al : AL F σ vs as) (nd : (lents as).Nodup) : W ca F (ocOf O as) (psOf as ρ) (vs.map some) H :=
  ⟨w.sub, fun b hb => w.ow b (fun z => hb (ocOf_none z)), by unfold psOf; rw [List.length_map, List.length_map, al.len], fun j s hj => by
    unfold psOf at hj
    rw [List.getElem?_map] at hj
    cases ha : as[j]? with
    | none => rw [ha] at hj; cases hj
    | some a =>
      rw [ha] at hj
      obtain ⟨v, hv, r⟩ := AL.at al ha
      refine ⟨some v, by rw [List.getElem?_map, hv]; rfl, ?_⟩
      cases a with
      | v d => cases hj; exact ⟨v, rfl, r⟩
      | l i =>
        have hj : (ρ[i]?).getD .un = s := Option.some.inj hj
        cases hs : ρ[i]? with
        | none => rw [hs] at hj; subst hj; trivial
        | some s' =>
          rw [hs] at hj
          have hj : s' = s := hj
          subst hj
          obtain ⟨o, eo, q⟩ := w.sl i s' hs
          have r' : σ[i]? = some (some v) := r
          rw [r'] at eo; cases eo
          have pp := posOf_some (j := 0) nd ha
          rw [Nat.zero_add] at pp
          cases s' with
          | un => trivial
          | fz d => exact q
          | scr _ _ => exact q
          | xs _ _ _ => exact q
          | ol ds => obtain ⟨a, us, e, h1, h2, h3⟩ := q; exact ⟨a, us, e, h1, h2, by rw [ocOf_some h3]; exact pp⟩
          | odK ds => obtain ⟨a, us, e, h1, h2, h3⟩ := q; exact ⟨a, us, e, h1, h2, by rw [ocOf_some h3]; exact pp⟩
          | odT ds => obtain ⟨a, us, e, h1, h2, h3⟩ := q; exact ⟨a, us, e, h1, h2, by rw [ocOf_some h3]; exact pp⟩
          | dl cs b => obtain ⟨a, e, h1, h2, h3, h4, h5⟩ := q; exact ⟨a, e, h1, h2, by rw [ocOf_some h3]; exact pp, by rw [ocOf_some h4]; exact pp, h5⟩⟩
theorem call_stp {F F' H H' : Hp} {O O' : Ow} {as : List Ar} (s : Stp F (ocOf O as) H F' O' H') : Stp F O H F' (obOf O F') H' :=
  ⟨fun b o h n => s.keep b o h (ocOf_none n), fun b h n => s.nf b h (ocOf_none n), fun b h n => by
    unfold obOf
    cases F' b with
    | none => exact n
    | some _ => rfl⟩
theorem call_out {ca : Addr} {F F' H H' : Hp} {O O' : Ow} {ρ : En} {σ σ' : L2.St} (w : W ca F O ρ σ H) {as : List Ar} {vs : List V} {ps' : List Sl} (al : AL F σ vs as) (nd : (lents as).Nodup)
    (s : Stp F (ocOf O as) H F' O' H') (w' : W ca F' O' ps' σ' H') (pin : ∀ (j i : Nat), as[j]? = some (Ar.l i) → σ'[j]? = (vs.map some)[j]?) (ok : okB as (psOf as ρ) ps') : W ca F' (obOf O F') (wb as ps' ρ) σ H' := by
  have ext := (call_in w al nd).ext s
  refine ⟨w'.sub, fun b hb => ?_, by rw [wb_len]; exact w.len, fun i sl hs => ?_⟩
  · cases e : F' b with
    | none => rfl
    | some o => exact absurd (by unfold obOf; rw [e]) hb
  · rcases wb_get (okB_len ok) hs with ⟨hi, hs⟩ | ⟨j, hj, hs⟩
    · obtain ⟨o, eo, r⟩ := w.sl i sl hs
      refine ⟨o, eo, r.on ext fun a u q h => ?_⟩
      have oc : ocOf O as a = none := by rw [ocOf_some q]; exact posOf_none hi
      have fa : F' a = none := by
        rw [s.nf a (by rw [h]; exact fun z => nomatch z) oc]
        exact w.ow a (by rw [q]; exact fun z => nomatch z)
      exact ⟨s.keep a u h oc, by rw [obOf_none fa]; exact q⟩
    · obtain ⟨v, hv, rv⟩ := AL.at al hj
      have rv : σ[i]? = some (some v) := rv
      refine ⟨some v, rv, ?_⟩
      obtain ⟨o, eo, r⟩ := w'.sl j sl hs
      rw [pin j i hj, List.getElem?_map, hv] at eo
      cases eo
      -- what stood there before
      have hp : (psOf as ρ)[j]? = some ((ρ[i]?).getD .un) := by unfold psOf; rw [List.getElem?_map, hj]; rfl
      have kd := okB_kind ok hj hp hs
      have own : ∀ {a : Addr}, O' a = some j → F' a = none := fun {a} q => w'.ow a (by rw [q]; exact fun z => nomatch z)
      cases sl with
      | un => trivial
      | fz d => exact r
      | scr _ _ => exact r
      | xs _ _ _ => exact r
      | ol ds =>
        obtain ⟨a, us, e, h1, h2, h3⟩ := r
        cases e
        cases hr : ρ[i]? with
        | none => rw [hr] at kd; exact kd.elim
        | some p =>
          rw [hr] at kd
          obtain ⟨o, eo, q⟩ := w.sl i p hr
          rw [rv] at eo; cases eo
          cases p with
          | ol es => obtain ⟨a', _, e, _, _, q⟩ := q; cases e; exact ⟨a, us, rfl, h1, h2, by rw [obOf_none (own h3)]; exact q⟩
          | un => exact kd.elim
          | scr _ _ => exact kd.elim
          | xs _ _ _ => exact kd.elim
          | fz _ => exact kd.elim
          | odK _ => exact kd.elim
          | odT _ => exact kd.elim
          | dl _ _ => exact kd.elim
      | odK ds =>
        obtain ⟨a, us, e, h1, h2, h3⟩ := r
        cases e
        cases hr : ρ[i]? with
        | none => rw [hr] at kd; exact kd.elim
        | some p =>
          rw [hr] at kd
          obtain ⟨o, eo, q⟩ := w.sl i p hr
          rw [rv] at eo; cases eo
          cases p with
          | odK es => obtain ⟨a', _, e, _, _, q⟩ := q; cases e; exact ⟨a, us, rfl, h1, h2, by rw [obOf_none (own h3)]; exact q⟩
          | un => exact kd.elim
          | scr _ _ => exact kd.elim
          | xs _ _ _ => exact kd.elim
          | fz _ => exact kd.elim
          | ol _ => exact kd.elim
          | odT _ => exact kd.elim
          | dl _ _ => exact kd.elim
      | odT ds =>
        obtain ⟨a, us, e, h1, h2, h3⟩ := r
        cases e
        cases hr : ρ[i]? with
        | none => rw [hr] at kd; exact kd.elim
        | some p =>
          rw [hr] at kd
          obtain ⟨o, eo, q⟩ := w.sl i p hr
          rw [rv] at eo; cases eo
          cases p with
          | odT es => obtain ⟨a', _, e, _, _, q⟩ := q; cases e; exact ⟨a, us, rfl, h1, h2, by rw [obOf_none (own h3)]; exact q⟩
          | un => exact kd.elim
          | scr _ _ => exact kd.elim
          | xs _ _ _ => exact kd.elim
          | fz _ => exact kd.elim
          | ol _ => exact kd.elim
          | odK _ => exact kd.elim
          | dl _ _ => exact kd.elim
      | dl cs b =>
        obtain ⟨a, e, h1, h2, h3, h4, h5⟩ := r
        cases e
        cases hr : ρ[i]? with
        | none => rw [hr] at kd; exact kd.elim
        | some p =>
          rw [hr] at kd
          obtain ⟨o, eo, q⟩ := w.sl i p hr
          rw [rv] at eo; cases eo
          cases p with
          | dl es b' => obtain ⟨a', e, _, _, q1, q2, _⟩ := q; cases e; exact ⟨a, rfl, h1, h2, by rw [obOf_none (own h3)]; exact q1, by rw [obOf_none (own h4)]; exact q2, h5⟩
          | un => exact kd.elim
          | scr _ _ => exact kd.elim
          | xs _ _ _ => exact kd.elim
          | fz _ => exact kd.elim
          | ol _ => exact kd.elim
          | odK _ => exact kd.elim
          | odT _ => exact kd.elim
/-- the call on values -/
theorem call_run {F H : Hp} {O : Ow} {ρ : En} {σ : L2.St} {f : Fn} {pins : List Nat} {n : Nat} {xs : List Ar} {vs : List V} {Q : VK} {E : XK} {P : Da → En → Prop} {Px : Ex → En → Prop}
    (w : W c.ca F O ρ σ H) (al : AL F σ vs xs) (hn : xs.length = n) (nd : (lents xs).Nodup) (hp : (lpos 0 xs).all (fun j => pins.contains j) = true)
    (hf : f (psOf xs ρ) (fun d ps => okB xs (psOf xs ρ) ps ∧ P d (wb xs ps ρ)) (fun x ps => okB xs (psOf xs ρ) ps ∧ Px x (wb xs ps ρ)))
    (hP : ∀ d ρ', P d ρ' → PEp c F O σ H Q d ρ')
    (hX : ∀ x ρ', Px x ρ' → ∀ F' O' cls d H', Stp F O H F' O' H' → W c.ca F' O' ρ' σ H' → XR c F' H' x cls d → E cls d H') : spOf c.K c.xc pins n f vs H Q E := by
  have pinOf : ∀ (j i : Nat), xs[j]? = some (Ar.l i) → j ∈ pins := fun j i h => by
    have := List.all_eq_true.mp hp (0 + j) (mem_lpos h)
    rw [Nat.zero_add] at this
    exact List.contains_iff_mem.mp this
  refine ⟨by rw [al.len]; exact hn, c.ca, F, ocOf O xs, psOf xs ρ, _, _, call_in w al nd, hf, fun d ps' h F' O' σ' v H' s' w' pin r => ?_, fun x ps' h F' O' σ' cls d H' s' w' pin r => ?_⟩
  · exact hP d _ h.2 F' (obOf O F') v H' (call_stp s') (call_out w al nd s' w' (fun j i q => pin j (pinOf j i q)) h.1) r
  · exact hX x _ h.2 F' (obOf O F') cls d H' (call_stp s') (call_out w al nd s' w' (fun j i q => pin j (pinOf j i q)) h.1) r
theorem ie_call {f : Fn} {pins : List Nat} {n : Nat} {t : TA} {as : WT (List Ar)} {E : XK} (hE : ∀ σ cls d H, c.E σ cls d H → E cls d H) (h : IA c t as) :
    IE c (tCall (spOf c.K c.xc pins n f) [] E t) (tCal f pins n as) := ⟨fun F O ρ σ H Q P Px w ht hP hX =>
  h.run F O ρ σ H _ _ Px w ht (fun xs ρ1 q F1 O1 vs H1 s1 w1 al => by
    obtain ⟨ql, nd, hp, hf⟩ := q
    show spOf c.K c.xc pins n f (vs ++ []) H1 Q E
    rw [List.append_nil]
    exact call_run (P := P) (Px := Px) w1 al ql nd hp hf (fun d ρ' p F' O' v H' s' w' r => hP d ρ' p F' O' v H' (s1.trans s') w' r) fun x ρ' p F' O' cls d H' s' w' r => hE _ _ _ _ (hX x ρ' p F' O' cls d H' (s1.trans s') w' r)) hX⟩
/-- a def that raises nothing -/
theorem ie_call0 {f : Fn} {pins : List Nat} {n : Nat} {t : TA} {as : WT (List Ar)} {E : XK} (h0 : ∀ ps P Px Px', f ps P Px → f ps P Px') (h : IA c t as) :
    IE c (tCall (spOf c.K c.xc pins n f) [] E t) (tCal f pins n as) := ⟨fun F O ρ σ H Q P Px w ht hP hX =>
  h.run F O ρ σ H _ _ Px w ht (fun xs ρ1 q F1 O1 vs H1 s1 w1 al => by
    obtain ⟨ql, nd, hp, hf⟩ := q
    show spOf c.K c.xc pins n f (vs ++ []) H1 Q E
    rw [List.append_nil]
    exact call_run (P := P) (Px := fun _ _ => False) w1 al ql nd hp (h0 _ _ _ _ hf) (fun d ρ' p F' O' v H' s' w' r => hP d ρ' p F' O' v H' (s1.trans s') w' r) fun x ρ' p => p.elim) hX⟩
end
end Ip
end
section
set_option Elab.async false
set_option linter.all false
set_option maxRecDepth 100000
set_option maxHeartbeats 4000000
/-! a tuple times 1: the tuple itself -/
namespace Ip
open PySem L2 PySem.Spec PyProof.Rows
theorem mulOnce (l : Addr) (its : Array Value) (m : Nat) (di : Option Addr) (so : Array (Option Value)) (u : Tok) : Meets (Builtin.«tuple.__mul__» ⟨[.ref l, .int 1 u], []⟩)
    (fun _ R z => z.heap.get? l = some ⟨.type "tuple", di, .seq its m, so⟩ ∧ R (.ok (.ret (.ref l))) z) :=
  .of_wp fun prog w A R z h => by
    obtain ⟨hp, g, d, tk, os⟩ := z
    obtain ⟨hl, h⟩ := h
    have f1 := AutoSeq1.idx_int
    wp_walk using wpAny_loadPart' hl
    repeat (first
      | (refine wpAny_ite_false (by decide) ?_; wp_walk using wpAny_loadPart' hl)
      | (refine wpAny_ite_true (by simp) ?_; wp_walk using wpAny_loadPart' hl))
    exact ⟨_, rfl, h⟩
/-- a tuple that is not empty, times one -/
def rOnce (K : PySem.W.Frag) : R2 := fun x y H Q => y = .int 1 ∧ ∃ l xs, x = .ref l ∧ SqT K H l xs ∧ Q x H
theorem op_once {X : Cx} : OpR X (binaryOp .Mult) (rOnce X.K) := by
  intro pins s σ H x y v u Q I rx ry h
  obtain ⟨rfl, l, xs, rfl, hT, q⟩ := h
  cases rx
  obtain ⟨t, rfl⟩ := ry
  obtain ⟨its, r, ⟨⟨ca, di, da, so⟩, ho, hc, m, hd⟩, hs⟩ := I.tuple hT
  simp only at hc hd
  subst hc hd
  have ti : ∀ z : Shared, z.TypeIs (.int 1 t) "int" := fun z => typeIs_int z 1 t
  refine wpAny_binaryOp_repeat_ref (T := "tuple") (U := "int") (by decide) ⟨_, ho, rfl⟩ ti noFill_tuple_mul
    F.fills_int_mul F.slot_int_rmul repeat_tuple
    F.slot_int_index.lookup ?_
  refine call_meets F.slot_int_rmul (ti s) F.entry_int_rmul
    (F.args_int_rmul_2 _ _) (int_rmul_tuple 1 t l its.toArray m di so) ⟨ho, rfl, ⟨_, ho, rfl⟩, ?_⟩
  refine call_meets F.slot_tuple_mul ⟨_, ho, rfl⟩ F.entry_tuple_mul
    (F.args_tuple_mul_2 _ _) (mulOnce l its.toArray m di so t) ⟨ho, ?_⟩
  exact ⟨.ref l, H, I, rfl, q⟩
end Ip
end
section
set_option Elab.async false
set_option linter.all false
set_option maxRecDepth 100000
/-! Operators, built-ins, methods over pure data. -/
namespace Ip
open PySem L2

section
variable {c : Cf} {ca : Addr} {F H : Hp} {O : Ow} {ρ : En} {σ : L2.St}

/-! ### plain results -/
theorem new_tup (w : W ca F O ρ σ H) {vs : List V} {ds : List Da} (r : RpL F vs ds) {Q : VK} (k : ∀ F' O' v H', Stp F O H F' O' H' → W ca F' O' ρ σ H' → Rp F' v (.tuple ds) → Q v H') : ∀ p, H p = none → Q (.ref p) (upd H p (.tup vs)) := fun p hp => by
  obtain ⟨w2, s2⟩ := w.newF hp (.tup vs)
  exact k _ _ _ _ s2 w2 (.tup upd_same (RpL.mono (w.ext s2) _ _ r))
theorem new_lst (w : W ca F O ρ σ H) {vs : List V} {ds : List Da} (r : RpL F vs ds) {Q : VK} (k : ∀ F' O' v H', Stp F O H F' O' H' → W ca F' O' ρ σ H' → Rp F' v (.list ds) → Q v H') : ∀ p, H p = none → Q (.ref p) (upd H p (.lst vs)) := fun p hp => by
  obtain ⟨w2, s2⟩ := w.newF hp (.lst vs)
  exact k _ _ _ _ s2 w2 (.lst upd_same (RpL.mono (w.ext s2) _ _ r))
theorem PD.isTup (w : W ca F O ρ σ H) {v : V} {ds : List Da} (h : PD F H v (.tuple ds)) : ∃ a vs, v = .ref a ∧ F a = some (.tup vs) ∧ RpL F vs ds := by
  rcases h with h | ⟨a, vs, ds', e, e2, h1, r⟩
  · cases h with
    | tup ha hs => exact ⟨_, _, rfl, ha, hs⟩
  · cases e2

/-! ### operators -/
def pAdd : Da → Da → Option Da
  | .int i, .int j => some (.int (i + j))
  | .tuple xs, .tuple ys => if xs.length + ys.length ≤ 100000 then some (.tuple (xs ++ ys)) else none
  | .list xs, .list ys => if xs.length + ys.length ≤ 100000 then some (.list (xs ++ ys)) else none
  | .str x, .str y => if x.length + y.length ≤ 100000 then some (.str (x ++ y)) else none
  | _, _ => none
def rAddU (K : PySem.W.Frag) : R2 := fun x y H Q => (rI0 (fun i j => .int (i + j)) x y H Q ∨ rCatA K x y H Q) ∨ (rCat x y H Q ∨ (∃ i j, x = .str i ∧ y = .str j ∧ i.length + j.length ≤ sizeLine ∧ Q (.str (i ++ j)) H))
theorem op_addU {X : Cx} : OpR X (binaryOp .Add) (rAddU X.K) := (op_add.or op_catA).or (op_cat.or op_add_str)
theorem line5 {n : Nat} (h : n ≤ 100000) : n ≤ sizeLine := Nat.le_trans h (by decide)
theorem ops_add {K : PySem.W.Frag} : OpS (rAddU K) pAdd := fun c F O ρ σ H x y d e g Q w px py hf k => by
  unfold pAdd at hf
  split at hf
  · cases hf
    cases px.int; cases py.int
    exact .inl (.inl ⟨_, _, rfl, rfl, k F O _ H (Stp.refl _ _ _) w (.int _)⟩)
  · split at hf
    case isFalse => cases hf
    case isTrue hl =>
    cases hf
    obtain ⟨a, vs, rfl, h1, r1⟩ := px.isTup w
    obtain ⟨b, us, rfl, h2, r2⟩ := py.isTup w
    refine .inl (.inr ⟨a, b, vs, us, rfl, rfl, .inl (.inl (w.sub _ _ h1)), .inl (.inl (w.sub _ _ h2)), by rw [r1.len, r2.len]; exact line5 hl, fun e => ?_, fun _ e => ?_, fun _ _ => ?_⟩)
    · subst e
      cases r1
      exact k F O _ H (Stp.refl _ _ _) w (.tup h2 r2)
    · subst e
      cases r2
      rw [List.append_nil] at *
      exact k F O _ H (Stp.refl _ _ _) w (.tup h1 r1)
    · exact new_tup w (RpL.app r1 r2) k
  · split at hf
    case isFalse => cases hf
    case isTrue hl =>
    cases hf
    obtain ⟨a, vs, rfl, h1, r1⟩ := px.list w
    obtain ⟨b, us, rfl, h2, r2⟩ := py.list w
    exact .inr (.inl ⟨a, b, vs, us, rfl, rfl, h1, h2, by rw [r1.len, r2.len]; exact line5 hl, new_lst w (RpL.app r1 r2) k⟩)
  · split at hf
    case isFalse => cases hf
    case isTrue hl =>
    cases hf
    cases px.str; cases py.str
    exact .inr (.inr ⟨_, _, rfl, rfl, line5 hl, k F O _ H (Stp.refl _ _ _) w (.str _)⟩)
  · cases hf
def pInt2 (C : Int → Int → Prop) [∀ i j, Decidable (C i j)] (f : Int → Int → Int) : Da → Da → Option Da
  | .int i, .int j => if C i j then some (.int (f i j)) else none
  | _, _ => none
theorem ops_int2 {C C' : Int → Int → Prop} [∀ i j, Decidable (C i j)] {f : Int → Int → Int} (h : ∀ i j, C i j → C' i j) : OpS (rI C' fun i j => .int (f i j)) (pInt2 C f) := fun c F O ρ σ H x y d e g Q w px py hf k => by
  unfold pInt2 at hf
  split at hf
  · split at hf
    case isFalse => cases hf
    case isTrue hl =>
    cases hf
    cases px.int; cases py.int
    exact ⟨_, _, rfl, rfl, h _ _ hl, k F O _ H (Stp.refl _ _ _) w (.int _)⟩
  · cases hf
def pInt0 (f : Int → Int → Da) : Da → Da → Option Da
  | .int i, .int j => some (f i j)
  | _, _ => none
theorem ops_int0 {f : Int → Int → V} {g : Int → Int → Da} (h : ∀ F i j, Rp F (f i j) (g i j)) : OpS (rI0 f) (pInt0 g) := fun c F O ρ σ H x y d e _ Q w px py hf k => by
  unfold pInt0 at hf
  split at hf
  · cases hf
    cases px.int; cases py.int
    exact ⟨_, _, rfl, rfl, k F O _ H (Stp.refl _ _ _) w (h F _ _)⟩
  · cases hf
def pSub := pInt0 fun i j => .int (i - j)
theorem ops_sub : OpS (rI0 fun i j => .int (i - j)) pSub := ops_int0 fun _ _ _ => .int _
def pLt := pInt0 fun i j => .bool (decide (i < j))
theorem ops_lt : OpS (rI0 fun i j => .bl (decide (i < j))) pLt := ops_int0 fun _ _ _ => .bl _
def pLe := pInt0 fun i j => .bool (decide (i ≤ j))
theorem ops_le : OpS (rI0 fun i j => .bl (decide (i ≤ j))) pLe := ops_int0 fun _ _ _ => .bl _
def pGt := pInt0 fun i j => .bool (decide (j < i))
theorem ops_gt : OpS (rI0 fun i j => .bl (decide (j < i))) pGt := ops_int0 fun _ _ _ => .bl _
def pGe := pInt0 fun i j => .bool (decide (j ≤ i))
theorem ops_ge : OpS (rI0 fun i j => .bl (decide (j ≤ i))) pGe := ops_int0 fun _ _ _ => .bl _
def pMod : Da → Da → Option Da := pInt2 (fun _ j => 0 < j) (fun i j => i % j)
theorem ops_mod : OpS (rI (fun _ j => 0 < j) fun i j => .int (i % j)) pMod := ops_int2 fun _ _ h => h
def pDiv : Da → Da → Option Da := pInt2 (fun _ j => 0 < j ∧ j < 1073741824) (fun i j => i / j)
theorem ops_div : OpS (rI CDiv fun i j => .int (i / j)) pDiv := ops_int2 fun _ _ h => h
/-- factors of fewer bits than this -/
def bitCap : Nat := 400000
def pMul : Da → Da → Option Da
  | .int i, .int j => if i.natAbs.log2 < bitCap ∧ j.natAbs.log2 < bitCap then some (.int (i * j)) else none
  | .list xs, .int k => if 0 ≤ k ∧ xs.length * k.toNat ≤ 100000 ∧ k < 2 ^ 60 then some (.list (List.replicate k.toNat xs).flatten) else none
  | .tuple xs, .int k => if xs ≠ [] ∧ 1 ≤ k ∧ k ≤ 1000 ∧ xs.length ≤ 1000 then some (.tuple (List.replicate k.toNat xs).flatten) else none
  | _, _ => none
def rMulU (K : PySem.W.Frag) : R2 := fun x y H Q => rI CMulW (fun i j => .int (i * j)) x y H Q ∨ rRep x y H Q ∨ rRepT K x y H Q ∨ rOnce K x y H Q
theorem op_mulU {X : Cx} : OpR X (binaryOp .Mult) (rMulU X.K) := op_mulW.or (op_rep.or (op_repT.or op_once))
theorem ops_mul {K : PySem.W.Frag} : OpS (rMulU K) pMul := fun c F O ρ σ H x y d e g Q w px py hf k => by
  unfold pMul at hf
  split at hf
  · split at hf
    case isFalse => cases hf
    case isTrue hl =>
    cases hf
    cases px.int; cases py.int
    refine .inl ⟨_, _, rfl, rfl, ?_, k F O _ H (Stp.refl _ _ _) w (.int _)⟩
    unfold CMulW
    unfold bitCap at hl
    omega
  · split at hf
    case isFalse => cases hf
    case isTrue hl =>
    cases hf
    obtain ⟨a, vs, rfl, h1, r1⟩ := px.list w
    cases py.int
    refine .inr (.inl ⟨a, _, vs, rfl, rfl, h1, by omega, by omega, by rw [r1.len]; exact line5 hl.2.1, new_lst w (RpL.rep r1 _) k⟩)
  · rename_i xs j
    split at hf
    case isFalse => cases hf
    case isTrue hl =>
    cases hf
    obtain ⟨a, vs, rfl, h1, r1⟩ := px.tup w
    cases py.int
    by_cases z : j = 1
    · subst z
      refine .inr (.inr (.inr ⟨rfl, a, vs, rfl, .inl (.inl h1), k F O _ H (Stp.refl _ _ _) w ?_⟩))
      have e1 : (List.replicate (1 : Int).toNat xs).flatten = xs := by simp
      rw [e1]
      rcases px with h | ⟨_, _, _, _, e2, _⟩
      · exact h
      · cases e2
    · refine .inr (.inr (.inl ⟨a, _, vs, rfl, rfl, .inl (.inl h1), ?_, by omega, by omega, by rw [r1.len]; omega, new_tup w (RpL.rep r1 _) k⟩))
      rintro rfl
      have := r1.len
      exact hl.1 (List.eq_nil_of_length_eq_zero this.symm)
  · cases hf
def pEq : Da → Da → Option Da := fun d e => if SeqAt.shaped d = true ∧ SeqAt.shaped e = true then some (.bool (PyData.eqv d e)) else none
def pNe : Da → Da → Option Da := fun d e => if SeqAt.shaped d = true ∧ SeqAt.shaped e = true then some (.bool (!PyData.eqv d e)) else none
theorem ops_eq {K : PySem.W.Frag} : OpS (rEqD K) pEq := fun c F O ρ σ H x y d e g Q w px py hf k => by
  unfold pEq at hf
  split at hf
  case isFalse => cases hf
  case isTrue hl =>
  cases hf
  exact ⟨d, e, px.dp w, py.dp w, hl.1, hl.2, k F O _ H (Stp.refl _ _ _) w (.bl _)⟩
theorem ops_ne {K : PySem.W.Frag} : OpS (rNeD K) pNe := fun c F O ρ σ H x y d e g Q w px py hf k => by
  unfold pNe at hf
  split at hf
  case isFalse => cases hf
  case isTrue hl =>
  cases hf
  exact ⟨d, e, px.dp w, py.dp w, hl.1, hl.2, k F O _ H (Stp.refl _ _ _) w (.bl _)⟩
/-- flat data: none, bools, ints, texts -/
def flatD : Da → Bool
  | .none => true
  | .bool _ => true
  | .int _ => true
  | .str _ => true
  | _ => false

theorem flatD_v {v : V} {d : Da} (h : PD F H v d) (f : flatD d = true) : flatV v = true ∧ Rp F v d := by
  rcases h with h | ⟨a, vs, ds', e, e2, h1, r⟩
  · refine ⟨?_, h⟩
    cases h <;> first | rfl | cases f
  · subst e2; cases f
theorem flatD_l {F : Hp} : ∀ {ds : List Da} {vs : List V}, RpL F vs ds → ds.all flatD = true → vs.all flatV = true
  | [], _, h, _ => by cases h; rfl
  | d :: ds, _, h, e => by
    cases h with
    | cons h1 h2 =>
      rw [List.all_cons, Bool.and_eq_true] at e
      rw [List.all_cons, Bool.and_eq_true]
      refine ⟨?_, flatD_l h2 e.2⟩
      have e1 := e.1
      cases h1 <;> first | rfl | cases e1
/-- == of flat data -/
def eqF : Da → Da → Bool
  | .none, .none => true
  | .bool a, .bool b => a == b
  | .bool a, .int b => (if a then 1 else 0) == b
  | .int a, .bool b => a == (if b then 1 else 0)
  | .int a, .int b => a == b
  | .str a, .str b => a == b
  | _, _ => false
theorem eqF_v {F : Hp} {v w : V} {d e : Da} (h1 : Rp F v d) (h2 : Rp F w e) (f1 : flatD d = true) (f2 : flatD e = true) : eqV v w = eqF d e := by
  cases h1 <;> first | (cases f1; done) | (cases h2 <;> first | rfl | (cases f2; done))
theorem inF_v {F : Hp} {x : V} {d : Da} (h : Rp F x d) (f : flatD d = true) : ∀ {ds : List Da} {vs : List V}, RpL F vs ds → ds.all flatD = true → inV x vs = ds.any fun y => eqF y d
  | [], _, h2, _ => by cases h2; rfl
  | e :: ds, _, h2, e2 => by
    cases h2 with
    | cons h3 h4 =>
      rw [List.all_cons, Bool.and_eq_true] at e2
      have ih := inF_v h f h4 e2.2
      unfold inV at ih ⊢
      rw [List.any_cons, List.any_cons, ih, eqF_v h3 h e2.1 f]
def seqD : Da → Option (List Da)
  | .list ds => some ds
  | .tuple ds => some ds
  | _ => none
def pIn (neg : Bool) : Da → Da → Option Da := fun d e => match seqD e with
  | some ds => if flatD d = true ∧ ds.all flatD = true then some (.bool (if neg then !(ds.any fun y => eqF y d) else ds.any fun y => eqF y d)) else none
  | none => none
theorem PD.seq {K : PySem.W.Frag} (w : W ca F O ρ σ H) {v : V} {d : Da} {ds : List Da} (h : PD F H v d) (e : seqD d = some ds) : ∃ a vs, v = .ref a ∧ (SqL K H a vs ∨ SqT K H a vs) ∧ RpL F vs ds := by
  cases d with
  | list xs =>
    cases e
    obtain ⟨a, vs, e1, h1, r⟩ := h.list w
    exact ⟨a, vs, e1, .inl (.inl (.inl h1)), r⟩
  | tuple xs =>
    cases e
    obtain ⟨a, vs, e1, h1, r⟩ := h.tup w
    exact ⟨a, vs, e1, .inr (.inl (.inl h1)), r⟩
  | none => cases e
  | bool _ => cases e
  | int _ => cases e
  | str _ => cases e
  | dict _ => cases e
theorem ops_in {K : PySem.W.Frag} {neg : Bool} : OpS (rIn K neg) (pIn neg) := fun c F O ρ σ H x y d e g Q w px py hf k => by
  unfold pIn at hf
  cases hs : seqD e with
  | none => rw [hs] at hf; cases hf
  | some ds =>
    rw [hs] at hf
    have hf : (if flatD d = true ∧ ds.all flatD = true then some (PyData.bool (if neg then !(ds.any fun y => eqF y d) else ds.any fun y => eqF y d)) else none) = some g := hf
    split at hf
    case isFalse => cases hf
    case isTrue hl =>
    cases hf
    obtain ⟨a, vs, rfl, sq, r⟩ := py.seq (K := K) w hs
    obtain ⟨fx, rx⟩ := flatD_v px hl.1
    refine ⟨a, vs, rfl, sq, fx, flatD_l r hl.2, ?_⟩
    rw [inF_v rx hl.1 r hl.2]
    exact k F O _ H (Stp.refl _ _ _) w (.bl _)

/-! ### is -/
def isNoneD : Da → Bool
  | .none => true
  | _ => false
def pIsN (neg : Bool) : Da → Da → Option Da := fun d e => match d, e with
  | d, .none => some (.bool (if neg then !isNoneD d else isNoneD d))
  | .bool a, .bool b => some (.bool (if neg then !(decide (a = b)) else decide (a = b)))
  | _, _ => none
def rIsU : R2 := fun x y H Q => (y = .non ∧ Q (.bl (decide (x = .non))) H) ∨ rIsB x y H Q
def rNotU : R2 := fun x y H Q => (y = .non ∧ Q (.bl (!decide (x = .non))) H) ∨ rNotB x y H Q
theorem op_isU {X : Cx} : OpR X (compareOp .Is) rIsU := op_isN.or op_isBl
theorem op_notU {X : Cx} : OpR X (compareOp .IsNot) rNotU := op_notN.or op_notBl
theorem PD.nonD {v : V} {d : Da} (h : PD F H v d) : decide (v = .non) = isNoneD d := by
  rcases h with h | ⟨a, vs, ds', e, e2, h1, r⟩
  · cases h <;> simp [isNoneD]
  · subst e e2; simp [isNoneD]
theorem ops_is : OpS rIsU (pIsN false) := fun c F O ρ σ H x y d e g Q w px py hf k => by
  cases e with
  | none =>
    have hy := py.non
    refine .inl ⟨hy, ?_⟩
    rw [px.nonD]
    have : g = .bool (isNoneD d) := by cases d <;> cases hf <;> rfl
    subst this
    exact k F O _ H (Stp.refl _ _ _) w (.bl _)
  | bool b =>
    cases d with
    | bool a => cases hf; cases px.bl; cases py.bl; exact .inr ⟨a, b, rfl, rfl, k F O _ H (Stp.refl _ _ _) w (.bl _)⟩
    | _ => cases hf
  | _ => cases d <;> cases hf
theorem ops_isnot : OpS rNotU (pIsN true) := fun c F O ρ σ H x y d e g Q w px py hf k => by
  cases e with
  | none =>
    have hy := py.non
    refine .inl ⟨hy, ?_⟩
    rw [px.nonD]
    have : g = .bool (!isNoneD d) := by cases d <;> cases hf <;> rfl
    subst this
    exact k F O _ H (Stp.refl _ _ _) w (.bl _)
  | bool b =>
    cases d with
    | bool a => cases hf; cases px.bl; cases py.bl; exact .inr ⟨a, b, rfl, rfl, k F O _ H (Stp.refl _ _ _) w (.bl _)⟩
    | _ => cases hf
  | _ => cases d <;> cases hf

/-! ### chains of comparisons -/
def tChn (f g : Da → Da → Option Da) (a b e : WT Ar) : WT Da := fun ρ P Px => a ρ (fun x ρ1 => b ρ1 (fun y ρ2 => ∃ d1 d2 k, res x ρ2 = some d1 ∧ res y ρ2 = some d2 ∧ f d1 d2 = some (.bool k) ∧
  ((k = true ∧ e ρ2 (fun z ρ3 => ∃ d2' d3 h, res y ρ3 = some d2' ∧ res z ρ3 = some d3 ∧ g d2' d3 = some h ∧ P h ρ3) Px) ∨ (k = false ∧ P (.bool false) ρ2))) Px) Px
/-- an operation that lays nothing -/
def OpQ (r : R2) (f : Da → Da → Option Da) : Prop := ∀ (c : Cf) F O ρ σ H x y d e g Q, W c.ca F O ρ σ H → PD F H x d → PD F H y e → f d e = some g → (∀ v, Rp F v g → Q v H) → r x y H Q
theorem ie_chain {r r' : R2} {f g : Da → Da → Option Da} {ta tb tc : TE} {a b e : WT Ar} (hr : OpS r f) (hr' : OpS r' g) (ha : IO c ta a) (hb : IO c tb b) (hc : IO c tc e) : IE c (tChain r r' ta tb tc) (tChn f g a b e) := ⟨fun F O ρ σ H Q P Px w ht hP hX =>
  ha.run F O ρ σ H _ _ Px w ht (fun x ρ1 h1 F1 O1 v H1 s1 w1 r1 =>
    hb.run F1 O1 ρ1 σ H1 _ _ Px w1 h1 (fun y ρ2 h2 F2 O2 u H2 s2 w2 r2 => by
      obtain ⟨d1, d2, k, e1, e2, e3, hp⟩ := h2
      refine hr c F2 O2 ρ2 σ H2 v u d1 d2 _ _ w2 (w2.res (AR.on w1 s2 r1) e1) (w2.res r2 e2) e3 fun F3 O3 z H3 s3 w3 r3 => ?_
      cases r3
      refine ⟨k, rfl, ?_⟩
      rcases hp with ⟨rfl, hp⟩ | ⟨rfl, hp⟩
      · rw [if_pos rfl]
        refine hc.run F3 O3 ρ2 σ H3 _ _ Px w3 hp (fun z ρ4 h4 F4 O4 u4 H4 s4 w4 r4 => ?_) (fun x ρ' p => (hX x ρ' p).back ((s1.trans s2).trans s3))
        obtain ⟨d2', d3, h, e4, e5, e6, hp4⟩ := h4
        exact hr' c F4 O4 ρ4 σ H4 u u4 d2' d3 h Q w4 (w4.res (AR.on w2 (s3.trans s4) r2) e4) (w4.res r4 e5) e6 fun F' O' z H' s' w' r' => hP _ _ hp4 F' O' z H' ((((s1.trans s2).trans s3).trans s4).trans s') w' r'
      · rw [if_neg (by decide)]
        exact hP _ _ hp F3 O3 _ H3 ((s1.trans s2).trans s3) w3 (.bl _))
      (fun x ρ' p => (hX x ρ' p).back s1)) hX⟩

/-! ### subscripts, slices -/
def pIx : Da → Da → Option Da
  | .list ds, .int i => atI ds i
  | .tuple ds, .int i => atI ds i
  | _, _ => none
theorem RpL.at {ds : List Da} {vs : List V} {i : Int} {d : Da} (r : RpL F vs ds) (e : atI ds i = some d) : ∃ v, atI vs i = some v ∧ Rp F v d := by
  unfold atI at e ⊢
  rw [r.len]
  cases q : ixN ds.length i with
  | none => rw [q] at e; cases e
  | some j =>
    rw [q] at e
    exact r.get e
theorem ops_ix {K : PySem.W.Frag} : OpS (rIx K) pIx := fun c F O ρ σ H x y d e g Q w px py hf k => by
  unfold pIx at hf
  split at hf
  · cases py.int
    obtain ⟨a, vs, rfl, h1, r⟩ := px.list w
    obtain ⟨v, hv, rv⟩ := r.at hf
    exact .inl ⟨a, vs, _, v, rfl, rfl, .inl (.inl h1), hv, k F O _ H (Stp.refl _ _ _) w rv⟩
  · cases py.int
    obtain ⟨a, vs, rfl, h1, r⟩ := px.tup w
    obtain ⟨v, hv, rv⟩ := r.at hf
    exact .inr (.inl ⟨a, vs, _, v, rfl, rfl, .inl (.inl h1), hv, k F O _ H (Stp.refl _ _ _) w rv⟩)
  · cases hf
structure IOp (c : Cf) (t : TO) (T : WT (Option Int)) : Prop where
  run : ∀ F O ρ σ H (Q : Option Int → Hp → Prop) (P : Option Int → En → Prop) (Px : Ex → En → Prop), W c.ca F O ρ σ H → T ρ P Px →
    (∀ b ρ', P b ρ' → ∀ F' O' H', Stp F O H F' O' H' → W c.ca F' O' ρ' σ H' → Q b H') → (∀ x ρ', Px x ρ' → PXp c F O σ H x ρ') → t σ H Q
def tO0 : WT (Option Int) := fun ρ P _ => P none ρ
def tO1 (a : WT Ar) : WT (Option Int) := fun ρ P Px => a ρ (fun x ρ1 => ∃ i, res x ρ1 = some (.int i) ∧ P (some i) ρ1) Px
theorem io_none : IOp c tNoPart tO0 := ⟨fun F O ρ σ H Q P Px w ht hP hX => hP _ _ ht F O H (Stp.refl _ _ _) w⟩
theorem io_part {te : TE} {a : WT Ar} (h : IO c te a) : IOp c (tPart te) (tO1 a) := ⟨fun F O ρ σ H Q P Px w ht hP hX =>
  h.run F O ρ σ H _ _ Px w ht (fun x ρ1 h1 F1 O1 v H1 s1 w1 r1 => by
    obtain ⟨i, e, h1⟩ := h1
    cases (w1.res r1 e).int
    exact ⟨i, rfl, hP _ _ h1 F1 O1 H1 s1 w1⟩) hX⟩
def cutD (xs : List Da) (lo hi : Option Int) : List Da := (xs.drop (HT.sIx xs.length 0 lo)).take (HT.sIx xs.length xs.length hi - HT.sIx xs.length 0 lo)
theorem RpL.cut {ds : List Da} {vs : List V} (r : RpL F vs ds) (lo hi : Option Int) : RpL F (cutV vs lo hi) (cutD ds lo hi) := by
  unfold cutV cutD
  rw [r.len]
  exact RpL.take _ (RpL.drop _ r)
def pSl : Da → Option Int → Option Int → Option Da
  | .list ds, lo, hi => some (.list (cutD ds lo hi))
  | .tuple ds, lo, hi => some (.tuple (cutD ds lo hi))
  | _, _, _ => none
def rSlU (K : PySem.W.Frag) : V → Option Int → Option Int → Hp → VK → Prop := fun x lo hi H Q => rSlA K x lo hi H Q ∨ rSlL K x lo hi H Q
theorem sl_U {X : Cx} : SlR X (rSlU X.K) := sl_tupA.or sl_list
def tSlD (a : WT Ar) (lo hi : WT (Option Int)) : WT Da := fun ρ P Px => a ρ (fun x ρ1 => lo ρ1 (fun l ρ2 => hi ρ2 (fun h ρ3 => ∃ d g, res x ρ3 = some d ∧ pSl d l h = some g ∧ P g ρ3) Px) Px) Px
theorem cutD_whole {xs : List Da} {lo hi : Option Int} (h : HT.sIx xs.length 0 lo = 0 ∧ HT.sIx xs.length xs.length hi = xs.length) : cutD xs lo hi = xs := by
  unfold cutD
  rw [h.1, h.2, List.drop_zero, Nat.sub_zero]
  exact List.take_length
theorem ie_slice {K : PySem.W.Frag} {te : TE} {tl th : TO} {a : WT Ar} {lo hi : WT (Option Int)} (h : IO c te a) (h1 : IOp c tl lo) (h2 : IOp c th hi) : IE c (tSl (rSlU K) te tl th) (tSlD a lo hi) := ⟨fun F O ρ σ H Q P Px w ht hP hX =>
  h.run F O ρ σ H _ _ Px w ht (fun x ρ1 q1 F1 O1 v H1 s1 w1 r1 =>
    h1.run F1 O1 ρ1 σ H1 _ _ Px w1 q1 (fun l ρ2 q2 F2 O2 H2 s2 w2 =>
      h2.run F2 O2 ρ2 σ H2 _ _ Px w2 q2 (fun u ρ3 q3 F3 O3 H3 s3 w3 => by
        obtain ⟨d, g, e, eg, hp⟩ := q3
        have k := fun F' O' z H' (s' : Stp F3 O3 H3 F' O' H') w' r' => hP _ _ hp F' O' z H' (((s1.trans s2).trans s3).trans s') w' r'
        have pd := w3.res (AR.on w1 (s2.trans s3) r1) e
        cases d with
        | list ds =>
          cases eg
          obtain ⟨b, vs, rfl, hb, r⟩ := pd.list w3
          exact .inr ⟨b, vs, rfl, .inl (.inl hb), new_lst w3 (r.cut l u) k⟩
        | tuple ds =>
          cases eg
          obtain ⟨b, vs, rfl, hb, r⟩ := pd.isTup w3
          refine .inl ⟨b, vs, rfl, .inl (.inl (w3.sub _ _ hb)), fun hw => ?_, fun _ => new_tup w3 (r.cut l u) k⟩
          rw [r.len] at hw
          have := k F3 O3 (.ref b) H3 (Stp.refl _ _ _) w3
          rw [cutD_whole hw] at this
          exact this (.tup hb r)
        | _ => cases eg)
        (fun x ρ' p => (hX x ρ' p).back (s1.trans s2))) (fun x ρ' p => (hX x ρ' p).back s1)) hX⟩
def tRevD (a : WT Ar) : WT (List Da) := fun ρ P Px => a ρ (fun x ρ1 => ∃ ds, res x ρ1 = some (.list ds) ∧ P ds.reverse ρ1) Px
theorem it_rev {K : PySem.W.Frag} {te : TE} {a : WT Ar} (h : IO c te a) : IT c (tRevL K te) (tRevD a) := ⟨fun F O ρ σ H Q P Px w ht hP hX =>
  h.run F O ρ σ H _ _ Px w ht (fun x ρ1 q1 F1 O1 v H1 s1 w1 r1 => by
    obtain ⟨ds, e, hp⟩ := q1
    obtain ⟨b, vs, rfl, hb, r⟩ := (w1.res r1 e).list w1
    refine ⟨b, vs, rfl, .inl (.inl hb), fun p hp' => ?_⟩
    obtain ⟨w2, s2⟩ := w1.newT hp' (.lst vs.reverse)
    exact hP _ _ hp _ _ p _ _ (s1.trans s2) w2 upd_same r.rev (w1.fnone hp') own_same (fresh_of s1 hp')) hX⟩
end
end Ip
end
section
set_option Elab.async false
set_option linter.all false
set_option maxRecDepth 100000
/-! Built-in functions, methods, what is walked. -/
namespace Ip
open PySem L2

section
variable {c : Cf} {ca : Addr} {F H : Hp} {O : Ow} {ρ : En} {σ : L2.St}

/-! ### built-in functions -/
def CallS (r : List V → Hp → VK → Prop) (f : List Da → Option Da) : Prop := ∀ (c : Cf) F O ρ σ H vs ds g Q, W c.ca F O ρ σ H → PDL F H vs ds → f ds = some g →
  (∀ F' O' v H', Stp F O H F' O' H' → W c.ca F' O' ρ σ H' → Rp F' v g → Q v H') → r vs H Q
def tCb (f : List Da → Option Da) (as : WT (List Ar)) : WT Da := fun ρ P Px => as ρ (fun xs ρ1 => ∃ ds g, resL xs ρ1 = some ds ∧ f ds = some g ∧ P g ρ1) Px
theorem ie_cb {r : List V → Hp → VK → Prop} {f : List Da → Option Da} {t : TA} {as : WT (List Ar)} (hr : CallS r f) (h : IA c t as) : IE c (tCB r t) (tCb f as) := ⟨fun F O ρ σ H Q P Px w ht hP hX =>
  h.run F O ρ σ H _ _ Px w ht (fun xs ρ1 q F1 O1 vs H1 s1 w1 al => by
    obtain ⟨ds, g, e, eg, hp⟩ := q
    exact hr c F1 O1 ρ1 σ H1 vs ds g Q w1 (resL_ok w1 al e) eg fun F' O' v H' s' w' r' => hP _ _ hp F' O' v H' (s1.trans s') w' r') hX⟩
/-- those that lay a new list -/
def CallT (r : List V → Hp → VK → Prop) (f : List Da → Option (List Da)) : Prop := ∀ (c : Cf) F O ρ σ H vs ds g Q, W c.ca F O ρ σ H → PDL F H vs ds → f ds = some g →
  (∀ p us, H p = none → RpL F us g → Q (.ref p) (upd H p (.lst us))) → r vs H Q
def tCbT (f : List Da → Option (List Da)) (as : WT (List Ar)) : WT (List Da) := fun ρ P Px => as ρ (fun xs ρ1 => ∃ ds g, resL xs ρ1 = some ds ∧ f ds = some g ∧ P g ρ1) Px
theorem it_cb {r : List V → Hp → VK → Prop} {f : List Da → Option (List Da)} {t : TA} {as : WT (List Ar)} (hr : CallT r f) (h : IA c t as) : IT c (tCB r t) (tCbT f as) := ⟨fun F O ρ σ H Q P Px w ht hP hX =>
  h.run F O ρ σ H _ _ Px w ht (fun xs ρ1 q F1 O1 vs H1 s1 w1 al => by
    obtain ⟨ds, g, e, eg, hp⟩ := q
    exact hr c F1 O1 ρ1 σ H1 vs ds g Q w1 (resL_ok w1 al e) eg fun p us hp' ru => by
      obtain ⟨w2, s2⟩ := w1.newT hp' (.lst us)
      exact hP _ _ hp _ _ p us _ (s1.trans s2) w2 upd_same ru (w1.fnone hp') own_same (fresh_of s1 hp')) hX⟩
theorem PDL.one {vs : List V} {d : Da} (h : PDL F H vs [d]) : ∃ v, vs = [v] ∧ PD F H v d := by
  cases h with
  | cons h1 h2 => cases h2; exact ⟨_, rfl, h1⟩
theorem PDL.two {vs : List V} {d e : Da} (h : PDL F H vs [d, e]) : ∃ v u, vs = [v, u] ∧ PD F H v d ∧ PD F H u e := by
  cases h with
  | cons h1 h2 =>
    obtain ⟨u, rfl, q⟩ := h2.one
    exact ⟨_, u, rfl, h1, q⟩
def f1 (g : Da → Option Da) : List Da → Option Da
  | [d] => g d
  | _ => none
theorem f1_inv {g : Da → Option Da} {ds : List Da} {r : Da} (h : f1 g ds = some r) : ∃ d, ds = [d] ∧ g d = some r := by
  unfold f1 at h
  split at h
  · exact ⟨_, rfl, h⟩
  · cases h
def f2 (g : Da → Da → Option Da) : List Da → Option Da
  | [d, e] => g d e
  | _ => none
theorem f2_inv {g : Da → Da → Option Da} {ds : List Da} {r : Da} (h : f2 g ds = some r) : ∃ d e, ds = [d, e] ∧ g d e = some r := by
  unfold f2 at h
  split at h
  · exact ⟨_, _, rfl, h⟩
  · cases h
def pLen : Da → Option Da
  | .list ds => some (.int ds.length)
  | .tuple ds => some (.int ds.length)
  | _ => none
theorem calls_len {K : PySem.W.Frag} : CallS (fun xs H Q => ∃ p ys, xs = [.ref p] ∧ (SqL K H p ys ∨ SqT K H p ys) ∧ Q (.int ys.length) H) (f1 pLen) := fun c F O ρ σ H vs ds g Q w h hf k => by
  obtain ⟨d, e0, hg⟩ := f1_inv hf
  subst e0
  clear hf
  have hf := hg
  clear hg
  obtain ⟨v, rfl, pd⟩ := h.one
  cases d with
  | list ds =>
    cases hf
    obtain ⟨a, us, rfl, h1, r⟩ := pd.list w
    refine ⟨a, us, rfl, .inl (.inl (.inl h1)), ?_⟩
    rw [r.len]; exact k F O _ H (Stp.refl _ _ _) w (.int _)
  | tuple ds =>
    cases hf
    obtain ⟨a, us, rfl, h1, r⟩ := pd.tup w
    refine ⟨a, us, rfl, .inr (.inl (.inl h1)), ?_⟩
    rw [r.len]; exact k F O _ H (Stp.refl _ _ _) w (.int _)
  | _ => cases hf
def pInt : Da → Option Da
  | .int i => some (.int i)
  | _ => none
theorem calls_int : CallS (fun xs H Q => (∃ i, xs = [.int i] ∧ Q (.int i) H) ∨ ∃ k, xs = [.bl k] ∧ Q (.int (if k then 1 else 0)) H) (f1 pInt) := fun c F O ρ σ H vs ds g Q w h hf k => by
  obtain ⟨d, e0, hg⟩ := f1_inv hf
  subst e0
  clear hf
  have hf := hg
  clear hg
  obtain ⟨v, rfl, pd⟩ := h.one
  cases d <;> first | (cases hf; done) | skip
  cases hf
  cases pd.int
  exact .inl ⟨_, rfl, k F O _ H (Stp.refl _ _ _) w (.int _)⟩
def pAbs : Da → Option Da
  | .int i => some (.int (if i < 0 then -i else i))
  | _ => none
theorem calls_abs : CallS (fun xs H Q => ∃ i, xs = [.int i] ∧ Q (.int (if i < 0 then -i else i)) H) (f1 pAbs) := fun c F O ρ σ H vs ds g Q w h hf k => by
  obtain ⟨d, e0, hg⟩ := f1_inv hf
  subst e0
  clear hf
  have hf := hg
  clear hg
  obtain ⟨v, rfl, pd⟩ := h.one
  cases d <;> first | (cases hf; done) | skip
  cases hf
  cases pd.int
  exact ⟨_, rfl, k F O _ H (Stp.refl _ _ _) w (.int _)⟩
theorem calls_max2 : CallS (fun xs H Q => ∃ i j, xs = [.int i, .int j] ∧ Q (.int (if j > i then j else i)) H) (f2 (pInt0 fun i j => .int (if j > i then j else i))) := fun c F O ρ σ H vs ds g Q w h hf k => by
  obtain ⟨d, e, e0, hg⟩ := f2_inv hf
  subst e0
  clear hf
  have hf := hg
  clear hg
  obtain ⟨v, u, rfl, pd, pe⟩ := h.two
  unfold pInt0 at hf
  split at hf
  · cases hf; cases pd.int; cases pe.int; exact ⟨_, _, rfl, k F O _ H (Stp.refl _ _ _) w (.int _)⟩
  · cases hf
theorem calls_min2 : CallS (fun xs H Q => ∃ i j, xs = [.int i, .int j] ∧ Q (.int (if j < i then j else i)) H) (f2 (pInt0 fun i j => .int (if j < i then j else i))) := fun c F O ρ σ H vs ds g Q w h hf k => by
  obtain ⟨d, e, e0, hg⟩ := f2_inv hf
  subst e0
  clear hf
  have hf := hg
  clear hg
  obtain ⟨v, u, rfl, pd, pe⟩ := h.two
  unfold pInt0 at hf
  split at hf
  · cases hf; cases pd.int; cases pe.int; exact ⟨_, _, rfl, k F O _ H (Stp.refl _ _ _) w (.int _)⟩
  · cases hf
def intsD : List Da → Option (List Int)
  | [] => some []
  | .int i :: ds => (intsD ds).map (i :: ·)
  | _ :: _ => none
theorem intsD_ok : ∀ {ds : List Da} {ns : List Int}, intsD ds = some ns → ds = ns.map .int
  | [], _, h => by cases h; rfl
  | .int i :: ds, ns, h => by
    unfold intsD at h
    cases e : intsD ds with
    | none => rw [e] at h; cases h
    | some ms => rw [e] at h; cases h; rw [intsD_ok e]; rfl
  | .none :: _, _, h => by cases h
  | .bool _ :: _, _, h => by cases h
  | .str _ :: _, _, h => by cases h
  | .list _ :: _, _, h => by cases h
  | .tuple _ :: _, _, h => by cases h
  | .dict _ :: _, _, h => by cases h
@[simp] theorem intsD_map : ∀ ns : List Int, intsD (ns.map .int) = some ns
  | [] => rfl
  | n :: ns => by rw [List.map_cons]; unfold intsD; rw [intsD_map ns]; rfl
def boolsD : List Da → Option (List Bool)
  | [] => some []
  | .bool i :: ds => (boolsD ds).map (i :: ·)
  | _ :: _ => none
theorem boolsD_ok : ∀ {ds : List Da} {ns : List Bool}, boolsD ds = some ns → ds = ns.map .bool
  | [], _, h => by cases h; rfl
  | .bool i :: ds, ns, h => by
    unfold boolsD at h
    cases e : boolsD ds with
    | none => rw [e] at h; cases h
    | some ms => rw [e] at h; cases h; rw [boolsD_ok e]; rfl
  | .none :: _, _, h => by cases h
  | .int _ :: _, _, h => by cases h
  | .str _ :: _, _, h => by cases h
  | .list _ :: _, _, h => by cases h
  | .tuple _ :: _, _, h => by cases h
  | .dict _ :: _, _, h => by cases h
@[simp] theorem boolsD_map : ∀ ns : List Bool, boolsD (ns.map .bool) = some ns
  | [] => rfl
  | n :: ns => by rw [List.map_cons]; unfold boolsD; rw [boolsD_map ns]; rfl
def onInts (f : List Int → Option Da) : Da → Option Da
  | .list ds => (intsD ds).bind f
  | _ => none
def onBools (f : List Bool → Option Da) : Da → Option Da
  | .list ds => (boolsD ds).bind f
  | _ => none
theorem onInts_inv {f : List Int → Option Da} {d g : Da} (h : onInts f d = some g) : ∃ ns, d = .list (ns.map .int) ∧ f ns = some g := by
  cases d <;> first | (cases h; done) | skip
  rename_i ds
  have h : (intsD ds).bind f = some g := h
  cases e : intsD ds with
  | none => rw [e] at h; cases h
  | some ns => rw [e] at h; exact ⟨ns, by rw [intsD_ok e], h⟩
theorem onBools_inv {f : List Bool → Option Da} {d g : Da} (h : onBools f d = some g) : ∃ ns, d = .list (ns.map .bool) ∧ f ns = some g := by
  cases d <;> first | (cases h; done) | skip
  rename_i ds
  have h : (boolsD ds).bind f = some g := h
  cases e : boolsD ds with
  | none => rw [e] at h; cases h
  | some ns => rw [e] at h; exact ⟨ns, by rw [boolsD_ok e], h⟩
theorem calls_sum {K : PySem.W.Frag} : CallS (rSum K) (f1 (onInts fun ns => some (.int ns.sum))) := fun c F O ρ σ H vs ds g Q w h hf k => by
  obtain ⟨d, e0, hg⟩ := f1_inv hf
  subst e0
  clear hf
  have hf := hg
  clear hg
  obtain ⟨v, rfl, pd⟩ := h.one
  obtain ⟨ns, e0, hg⟩ := onInts_inv hf
  clear hf
  subst e0
  have hf := hg
  clear hg
  cases hf
  obtain ⟨a, us, rfl, h1, r⟩ := pd.list w
  rw [r.ints_inv] at h1
  exact ⟨a, ns, rfl, .inl (.inl h1), k F O _ H (Stp.refl _ _ _) w (.int _)⟩
theorem calls_any {K : PySem.W.Frag} : CallS (rAny K) (f1 (onBools fun bs => some (.bool (bs.any id)))) := fun c F O ρ σ H vs ds g Q w h hf k => by
  obtain ⟨d, e0, hg⟩ := f1_inv hf
  subst e0
  clear hf
  have hf := hg
  clear hg
  obtain ⟨v, rfl, pd⟩ := h.one
  obtain ⟨ns, e0, hg⟩ := onBools_inv hf
  clear hf
  subst e0
  have hf := hg
  clear hg
  cases hf
  obtain ⟨a, us, rfl, h1, r⟩ := pd.list w
  rw [r.bools_inv] at h1
  exact ⟨a, ns, rfl, .inl (.inl h1), k F O _ H (Stp.refl _ _ _) w (.bl _)⟩
theorem calls_all {K : PySem.W.Frag} : CallS (rAll K) (f1 (onBools fun bs => some (.bool (bs.all id)))) := fun c F O ρ σ H vs ds g Q w h hf k => by
  obtain ⟨d, e0, hg⟩ := f1_inv hf
  subst e0
  clear hf
  have hf := hg
  clear hg
  obtain ⟨v, rfl, pd⟩ := h.one
  obtain ⟨ns, e0, hg⟩ := onBools_inv hf
  clear hf
  subst e0
  have hf := hg
  clear hg
  cases hf
  obtain ⟨a, us, rfl, h1, r⟩ := pd.list w
  rw [r.bools_inv] at h1
  exact ⟨a, ns, rfl, .inl (.inl h1), k F O _ H (Stp.refl _ _ _) w (.bl _)⟩
theorem calls_max {K : PySem.W.Frag} : CallS (rMax K) (f1 (onInts fun ns => ns.max?.map .int)) := fun c F O ρ σ H vs ds g Q w h hf k => by
  obtain ⟨d, e0, hg⟩ := f1_inv hf
  subst e0
  clear hf
  have hf := hg
  clear hg
  obtain ⟨v, rfl, pd⟩ := h.one
  obtain ⟨ns, e0, hg⟩ := onInts_inv hf
  clear hf
  subst e0
  have hf := hg
  clear hg
  cases e : ns.max? with
  | none => rw [e] at hf; cases hf
  | some m =>
    rw [e] at hf; cases hf
    have hm := List.max?_eq_some_iff.mp e
    obtain ⟨a, us, rfl, h1, r⟩ := pd.list w
    rw [r.ints_inv] at h1
    refine ⟨a, ns, rfl, .inl (.inl h1), List.length_pos_of_mem hm.1, fun m' h1 h2 => ?_⟩
    have : m' = m := Int.le_antisymm (hm.2 m' h1) (h2 m hm.1)
    subst this
    exact k F O _ H (Stp.refl _ _ _) w (.int _)
theorem calls_min {K : PySem.W.Frag} : CallS (rMin K) (f1 (onInts fun ns => ns.min?.map .int)) := fun c F O ρ σ H vs ds g Q w h hf k => by
  obtain ⟨d, e0, hg⟩ := f1_inv hf
  subst e0
  clear hf
  have hf := hg
  clear hg
  obtain ⟨v, rfl, pd⟩ := h.one
  obtain ⟨ns, e0, hg⟩ := onInts_inv hf
  clear hf
  subst e0
  have hf := hg
  clear hg
  cases e : ns.min? with
  | none => rw [e] at hf; cases hf
  | some m =>
    rw [e] at hf; cases hf
    have hm := List.min?_eq_some_iff.mp e
    obtain ⟨a, us, rfl, h1, r⟩ := pd.list w
    rw [r.ints_inv] at h1
    refine ⟨a, ns, rfl, .inl (.inl h1), List.length_pos_of_mem hm.1, fun m' h1 h2 => ?_⟩
    have : m' = m := Int.le_antisymm (h2 m hm.1) (hm.2 m' h1)
    subst this
    exact k F O _ H (Stp.refl _ _ _) w (.int _)
def srt (ns : List Int) : List Int := ns.mergeSort (fun a b => decide (a ≤ b))
theorem srt_perm (ns : List Int) : (srt ns).Perm ns := List.mergeSort_perm _ _
theorem srt_ord (ns : List Int) : (srt ns).Pairwise (· ≤ ·) := by
  have := List.pairwise_mergeSort (le := fun a b : Int => decide (a ≤ b)) (fun a b c h1 h2 => by simp at *; omega) (fun a b => by simp; omega) ns
  exact this.imp (fun h => of_decide_eq_true h)
def f1T (g : Da → Option (List Da)) : List Da → Option (List Da)
  | [d] => g d
  | _ => none
theorem f1T_inv {g : Da → Option (List Da)} {ds : List Da} {r : List Da} (h : f1T g ds = some r) : ∃ d, ds = [d] ∧ g d = some r := by
  unfold f1T at h
  split at h
  · exact ⟨_, rfl, h⟩
  · cases h
def pSorted : Da → Option (List Da)
  | .list ds => (intsD ds).map fun ns => (srt ns).map .int
  | _ => none
theorem callt_sorted {K : PySem.W.Frag} : CallT (rSortedI K) (f1T pSorted) := fun c F O ρ σ H vs ds g Q w h hf k => by
  obtain ⟨d, e0, hg⟩ := f1T_inv hf
  subst e0
  clear hf
  have hf := hg
  clear hg
  obtain ⟨v, rfl, pd⟩ := h.one
  cases d <;> first | (cases hf; done) | skip
  rename_i ds
  have hf : (intsD ds).map (fun ns => (srt ns).map .int) = some g := hf
  cases e : intsD ds with
  | none => rw [e] at hf; cases hf
  | some ns =>
    rw [e] at hf; cases hf
    rw [intsD_ok e] at pd
    obtain ⟨a, us, rfl, h1, r⟩ := pd.list w
    rw [r.ints_inv] at h1
    refine ⟨a, ns, rfl, .inl (.inl h1), fun ns' p hp ho hn => ?_⟩
    have : ns' = srt ns := PySem.W.ksm_same (hp.trans (srt_perm ns).symm) ho (srt_ord ns)
    rw [this]
    exact k p _ hn (RpL.ints _)
def pListOf : Da → Option (List Da)
  | .list ds => some ds
  | .tuple ds => some ds
  | _ => none
theorem callt_list {K : PySem.W.Frag} : CallT (fun xs H Q => ∃ p ys, xs = [.ref p] ∧ (SqL K H p ys ∨ SqT K H p ys) ∧ ∀ l, H l = none → Q (.ref l) (upd H l (.lst ys))) (f1T pListOf) := fun c F O ρ σ H vs ds g Q w h hf k => by
  obtain ⟨d, e0, hg⟩ := f1T_inv hf
  subst e0
  clear hf
  have hf := hg
  clear hg
  obtain ⟨v, rfl, pd⟩ := h.one
  cases d with
  | list ds =>
    cases hf
    obtain ⟨a, us, rfl, h1, r⟩ := pd.list w
    exact ⟨a, us, rfl, .inl (.inl (.inl h1)), fun p hp => k p us hp r⟩
  | tuple ds =>
    cases hf
    obtain ⟨a, us, rfl, h1, r⟩ := pd.tup w
    exact ⟨a, us, rfl, .inr (.inl (.inl h1)), fun p hp => k p us hp r⟩
  | _ => cases hf
def pTupOf : Da → Option Da
  | .list ds => some (.tuple ds)
  | .tuple ds => some (.tuple ds)
  | _ => none
theorem calls_tuple {K : PySem.W.Frag} : CallS (fun xs H Q => ∃ p ys, xs = [.ref p] ∧ ((SqL K H p ys ∧ ∀ l, H l = none → Q (.ref l) (upd H l (.tup ys))) ∨ (SqT K H p ys ∧ Q (.ref p) H))) (f1 pTupOf) := fun c F O ρ σ H vs ds g Q w h hf k => by
  obtain ⟨d, e0, hg⟩ := f1_inv hf
  subst e0
  clear hf
  have hf := hg
  clear hg
  obtain ⟨v, rfl, pd⟩ := h.one
  cases d with
  | list ds =>
    cases hf
    obtain ⟨a, us, rfl, h1, r⟩ := pd.list w
    exact ⟨a, us, rfl, .inl ⟨.inl (.inl h1), new_tup w r k⟩⟩
  | tuple ds =>
    cases hf
    obtain ⟨a, us, rfl, h1, r⟩ := pd.isTup w
    exact ⟨a, us, rfl, .inr ⟨.inl (.inl (w.sub _ _ h1)), k F O _ H (Stp.refl _ _ _) w (.tup h1 r)⟩⟩
  | _ => cases hf

/-! ### isinstance -/
def tyD : Da → String
  | .none => "NoneType"
  | .bool _ => "bool"
  | .int _ => "int"
  | .str _ => "str"
  | .list _ => "list"
  | .tuple _ => "tuple"
  | .dict _ => "dict"
def isTy (n : String) (d : Da) : Bool := tyD d == n || (tyD d == "bool" && n == "int")
def pIsi (n : String) : Da → Option Da
  | .dict _ => none
  | d => some (.bool (isTy n d))

theorem kit_tab (n : String) (hn : n ∈ ["int", "bool", "str", "tuple", "list"]) (m : String) (hm : m ∈ ["NoneType", "bool", "int", "str", "list", "tuple"]) : kitB m n = some (m == n || (m == "bool" && n == "int")) := by
  have key : ((["int", "bool", "str", "tuple", "list"].all fun n => ["NoneType", "bool", "int", "str", "list", "tuple"].all fun m => decide (kitB m n = some (m == n || (m == "bool" && n == "int")))) = true) := by decide +kernel
  have h1 := List.all_eq_true.mp key n hn
  have h2 := List.all_eq_true.mp h1 m hm
  exact of_decide_eq_true h2
theorem tyX_of {K : PySem.W.Frag} (w : W ca F O ρ σ H) {v : V} {d : Da} (h : PD F H v d) (hd : ∀ kvs, d ≠ .dict kvs) : TyX K H v (.type (tyD d)) ∧ tyD d ∈ ["NoneType", "bool", "int", "str", "list", "tuple"] := by
  cases d with
  | none => cases h.non; exact ⟨.base .non, by simp [tyD]⟩
  | bool b => cases h.bl; exact ⟨.base (.bl b), by simp [tyD]⟩
  | int i => cases h.int; exact ⟨.base (.int i), by simp [tyD]⟩
  | str x => cases h.str; exact ⟨.base (.str x), by simp [tyD]⟩
  | list ds => obtain ⟨a, vs, rfl, h1, r⟩ := h.list w; exact ⟨.base (.lst h1), by simp [tyD]⟩
  | tuple ds => obtain ⟨a, vs, rfl, h1, r⟩ := h.tup w; exact ⟨.base (.tup h1), by simp [tyD]⟩
  | dict kvs => exact absurd rfl (hd kvs)
theorem ie_isi {K : PySem.W.Frag} {te : TE} {a : WT Ar} {n : String} (hn : n ∈ ["int", "bool", "str", "tuple", "list"]) (h : IO c te a) : IE c (tCB (rIsi K) (tCons te (tCons (tC (.ty n)) tNil))) (tB1 (pIsi n) a) := ⟨fun F O ρ σ H Q P Px w ht hP hX =>
  h.run F O ρ σ H _ _ Px w ht (fun x ρ1 h1 F1 O1 v H1 s1 w1 r1 => by
    obtain ⟨d, g, e, eg, hp⟩ := h1
    have pd := w1.res r1 e
    have hd : ∀ kvs, d ≠ .dict kvs := fun kvs z => by subst z; cases eg
    obtain ⟨ty, hm⟩ := tyX_of (K := K) w1 pd hd
    have eg' : g = .bool (isTy n d) := by cases d <;> cases eg <;> rfl
    subst eg'
    exact ⟨v, .ty n, _, _, _, rfl, .ty n, ty, kit_ty (kit_tab n hn _ hm), hP _ _ hp F1 O1 _ H1 s1 w1 (.bl _)⟩) hX⟩

/-! ### lists that change: append, extend, pop, xs[i] = v -/
theorem W.mut (w : W ca F O ρ σ H) {i : Nat} {a : Addr} (hl : i < ρ.length) (hv : σ[i]? = some (some (.ref a))) (ho : O a = some i) {vs : List V} {ds : List Da} (r : RpL F vs ds) :
    W ca F O (ρ.set i (.ol ds)) σ (upd H a (.lst vs)) ∧ Stp F O H F O (upd H a (.lst vs)) := by
  have fa : F a = none := w.ow a (by rw [ho]; exact fun z => nomatch z)
  refine ⟨⟨fun b o h => by rw [upd_ne (fun z => by rw [z, fa] at h; cases h)]; exact w.sub b o h, w.ow, by rw [List.length_set]; exact w.len, fun j s hj => ?_⟩, ⟨fun b o h n => ?_, fun _ _ _ => rfl, fun _ _ n => n⟩⟩
  · by_cases z : i = j
    · subst z
      rw [List.getElem?_set_self hl] at hj
      cases hj
      exact ⟨_, hv, a, vs, rfl, upd_same, r, ho⟩
    · rw [List.getElem?_set_ne z] at hj
      obtain ⟨o, eo, r'⟩ := w.sl j s hj
      refine ⟨o, eo, r'.on (fun _ _ h => h) fun b u q h => ⟨?_, q⟩⟩
      rw [upd_ne (fun e => by rw [e, ho] at q; cases q; exact z rfl)]; exact h
  · rw [upd_ne (fun z => by rw [z, ho] at n; cases n)]; exact h
theorem W.olAt (w : W ca F O ρ σ H) {i : Nat} {ds : List Da} (h : ρ[i]? = some (.ol ds)) : ∃ a vs, σ[i]? = some (some (.ref a)) ∧ H a = some (.lst vs) ∧ RpL F vs ds ∧ O a = some i ∧ i < ρ.length := by
  obtain ⟨o, eo, a, vs, e, h1, r, q⟩ := w.sl i _ h
  subst e
  exact ⟨a, vs, eo, h1, r, q, (List.getElem?_eq_some_iff.mp h).1⟩
def sApp (i : Nat) (A : WT Da) : WS := fun ρ e => (∃ ds, ρ[i]? = some (.ol ds)) ∧ A ρ (fun d ρ1 => ∃ ds, ρ1[i]? = some (.ol ds) ∧ ds.length < 100000 ∧ e.nx (ρ1.set i (.ol (ds ++ [d])))) e.er
theorem is_app {K : PySem.W.Frag} {i : Nat} {te : TE} {A : WT Da} (h : IE c te A) : IS c (tDrop (tBM K "list" rAppend (tVar i) (tCons te tNil))) (sApp i A) := ⟨fun F O ρ σ H D e w ht p => by
  obtain ⟨⟨ds0, h0⟩, ht⟩ := ht
  obtain ⟨a, vs0, hv, hH, _, _, _⟩ := w.olAt h0
  refine ⟨.ref a, hv, .inl ⟨rfl, vs0, .inl (.inl hH)⟩, ?_⟩
  refine h.run F O ρ σ H _ _ _ w ht (fun d ρ1 q F1 O1 v H1 s1 w1 r1 => ?_) p.px
  obtain ⟨ds, h1, hl, hp⟩ := q
  obtain ⟨a', vs, hv', hH', r, ho, hlt⟩ := w1.olAt h1
  rw [hv] at hv'
  cases hv'
  refine ⟨a, vs, v, rfl, rfl, hH', by rw [r.len]; exact Nat.lt_of_lt_of_le hl (by decide), ?_⟩
  obtain ⟨w2, s2⟩ := w1.mut hlt hv ho (RpL.app r (.cons r1 .nil))
  exact p.nx _ hp F1 O1 σ _ (s1.trans s2) w2 (Pin.refl _ _)⟩
def sExt (i : Nat) (a : WT Ar) : WS := fun ρ e => (∃ ds, ρ[i]? = some (.ol ds)) ∧ a ρ (fun x ρ1 => ∃ ds es, ρ1[i]? = some (.ol ds) ∧ res x ρ1 = some (.list es) ∧ ds.length + es.length ≤ 100000 ∧ e.nx (ρ1.set i (.ol (ds ++ es)))) e.er
theorem is_ext {K : PySem.W.Frag} {i : Nat} {te : TE} {b : WT Ar} (h : IO c te b) : IS c (tDrop (tBM K "list" rExtend (tVar i) (tCons te tNil))) (sExt i b) := ⟨fun F O ρ σ H D e w ht p => by
  obtain ⟨⟨ds0, h0⟩, ht⟩ := ht
  obtain ⟨a, vs0, hv, hH, _, _, _⟩ := w.olAt h0
  refine ⟨.ref a, hv, .inl ⟨rfl, vs0, .inl (.inl hH)⟩, ?_⟩
  refine h.run F O ρ σ H _ _ _ w ht (fun x ρ1 q F1 O1 v H1 s1 w1 r1 => ?_) p.px
  obtain ⟨ds, es, h1, e1, hl, hp⟩ := q
  obtain ⟨a', vs, hv', hH', r, ho, hlt⟩ := w1.olAt h1
  rw [hv] at hv'
  cases hv'
  obtain ⟨b, us, rfl, hb, rb⟩ := (w1.res r1 e1).list w1
  refine ⟨a, b, vs, us, rfl, rfl, hH', hb, by rw [r.len, rb.len]; exact line5 hl, ?_⟩
  obtain ⟨w2, s2⟩ := w1.mut hlt hv ho (RpL.app r rb)
  exact p.nx _ hp F1 O1 σ _ (s1.trans s2) w2 (Pin.refl _ _)⟩
/-- xs.pop(i) -/
def tPopAt (i : Nat) (a : WT Ar) : WT Da := fun ρ P Px => (∃ ds, ρ[i]? = some (.ol ds)) ∧ a ρ (fun x ρ1 => ∃ ds j k d, ρ1[i]? = some (.ol ds) ∧ res x ρ1 = some (.int j) ∧ ixN ds.length j = some k ∧ ds.length ≤ 100000 ∧ ds[k]? = some d ∧ P d (ρ1.set i (.ol (ds.eraseIdx k)))) Px
theorem ie_popAt {K : PySem.W.Frag} {i : Nat} {te : TE} {b : WT Ar} (h : IO c te b) : IE c (tBM K "list" rPopAt (tVar i) (tCons te tNil)) (tPopAt i b) := ⟨fun F O ρ σ H Q P Px w ht hP hX => by
  obtain ⟨⟨ds0, h0⟩, ht⟩ := ht
  obtain ⟨a, vs0, hv, hH, _, _, _⟩ := w.olAt h0
  refine ⟨.ref a, hv, .inl ⟨rfl, vs0, .inl (.inl hH)⟩, ?_⟩
  refine h.run F O ρ σ H _ _ _ w ht (fun x ρ1 q F1 O1 v H1 s1 w1 r1 => ?_) hX
  obtain ⟨ds, j, k, d, h1, e1, hj, hl, hd, hp⟩ := q
  obtain ⟨a', vs, hv', hH', r, ho, hlt⟩ := w1.olAt h1
  rw [hv] at hv'
  cases hv'
  cases (w1.res r1 e1).int
  obtain ⟨y, hy, ry⟩ := r.get hd
  obtain ⟨q1, q2, q3, q4⟩ := ixN_seq hj
  refine ⟨a, vs, j, k, y, rfl, rfl, hH', by omega, by omega, by rw [r.len]; exact q1, hy, ?_⟩
  obtain ⟨w2, s2⟩ := w1.mut hlt hv ho (RpL.erase k r)
  exact hP _ _ hp F1 O1 _ _ (s1.trans s2) w2 ry⟩
/-- xs.pop() -/
def tPop (i : Nat) : WT Da := fun ρ P _ => ∃ ds d, ρ[i]? = some (.ol (ds ++ [d])) ∧ P d (ρ.set i (.ol ds))
theorem RpL.dropLast {ds : List Da} {d : Da} {vs : List V} (r : RpL F vs (ds ++ [d])) : ∃ us v, vs = us ++ [v] ∧ RpL F us ds ∧ Rp F v d := by
  have h1 := r.take ds.length
  have h2 := r.drop ds.length
  rw [List.take_left'] at h1
  rw [List.drop_left'] at h2
  · cases e : vs.drop ds.length with
    | nil => rw [e] at h2; cases h2
    | cons v t =>
      rw [e] at h2
      cases h2 with
      | cons q1 q2 =>
        cases q2
        exact ⟨_, v, by rw [← e, List.take_append_drop], h1, q1⟩
  · rfl
  · rfl
theorem ie_pop {K : PySem.W.Frag} {i : Nat} : IE c (tBM0 K "list" rPop (tVar i)) (tPop i) := ⟨fun F O ρ σ H Q P Px w ht hP hX => by
  obtain ⟨ds, d, h0, hp⟩ := ht
  obtain ⟨a, vs, hv, hH, r, ho, hlt⟩ := w.olAt h0
  obtain ⟨us, v, rfl, r1, r2⟩ := r.dropLast
  refine ⟨.ref a, hv, .inl ⟨rfl, _, .inl (.inl hH)⟩, a, us ++ [v], v, rfl, rfl, hH, by simp, ?_⟩
  rw [List.dropLast_concat]
  obtain ⟨w2, s2⟩ := w.mut hlt hv ho r1
  exact hP _ _ hp F O _ _ s2 w2 r2⟩
/-- xs[i] = v -/
def sSetIx (i : Nat) (A : WT Da) (b : WT Ar) : WS := fun ρ e => A ρ (fun d ρ1 => (∃ ds, ρ1[i]? = some (.ol ds)) ∧ b ρ1 (fun x ρ2 => ∃ ds j k, ρ2[i]? = some (.ol ds) ∧ res x ρ2 = some (.int j) ∧ ixN ds.length j = some k ∧ e.nx (ρ2.set i (.ol (ds.set k d)))) e.er) e.er
theorem is_setIx {i : Nat} {te ti : TE} {A : WT Da} {b : WT Ar} (h : IE c te A) (h2 : IO c ti b) : IS c (tAsg te (gSub (tVar i) ti rSetL)) (sSetIx i A b) := ⟨fun F O ρ σ H D e w ht p =>
  h.run F O ρ σ H _ _ _ w ht (fun d ρ1 q F1 O1 v H1 s1 w1 r1 => by
    obtain ⟨⟨ds0, h0⟩, q⟩ := q
    obtain ⟨a, vs0, hv, hH, _, _, _⟩ := w1.olAt h0
    refine ⟨.ref a, hv, ?_⟩
    refine h2.run F1 O1 ρ1 σ H1 _ _ _ w1 q (fun x ρ2 q2 F2 O2 u H2 s2 w2 r2 => ?_) (p.step s1 (Pin.refl _ _)).px
    obtain ⟨ds, j, k, h1, e1, hj, hp⟩ := q2
    obtain ⟨a', vs, hv', hH', r, ho, hlt⟩ := w2.olAt h1
    rw [hv] at hv'
    cases hv'
    cases (w2.res r2 e1).int
    refine ⟨a, vs, j, k, rfl, rfl, hH', by rw [r.len]; exact hj, ?_⟩
    obtain ⟨w3, s3⟩ := w2.mut hlt hv ho (RpL.set (Rp.mono (w1.ext s2) _ _ r1) k r)
    exact p.nx _ hp F2 O2 σ _ ((s1.trans s2).trans s3) w3 (Pin.refl _ _)) p.px⟩
/-- xs.count(k), ints -/
def pCount : Da → Da → Option Da
  | .list ds, .int k => (intsD ds).map fun ns => .int (ns.count k : Nat)
  | _, _ => none
/-- xs.m(e), xs a list -/
def tMet (f : Da → Da → Option Da) (a b : WT Ar) : WT Da := fun ρ P Px => a ρ (fun x ρ1 => (∃ ds, res x ρ1 = some (.list ds)) ∧ b ρ1 (fun y ρ2 => ∃ d e g, res x ρ2 = some d ∧ res y ρ2 = some e ∧ f d e = some g ∧ P g ρ2) Px) Px
theorem ie_met {K : PySem.W.Frag} {r : V → List V → Hp → VK → Prop} {f : Da → Da → Option Da} (hr : OpS (fun x y H Q => r x [y] H Q) f) {to te : TE} {a b : WT Ar} (ho : IO c to a) (h : IO c te b) : IE c (tBM K "list" r to (tCons te tNil)) (tMet f a b) := ⟨fun F O ρ σ H Q P Px w ht hP hX =>
  ho.run F O ρ σ H _ _ Px w ht (fun x ρ1 h1 F1 O1 v H1 s1 w1 r1 => by
    obtain ⟨⟨ds0, e0⟩, h1⟩ := h1
    obtain ⟨a0, vs0, rfl, hH, _⟩ := (w1.res r1 e0).list w1
    refine ⟨.inl ⟨rfl, vs0, .inl (.inl hH)⟩, ?_⟩
    exact h.run F1 O1 ρ1 σ H1 _ _ Px w1 h1 (fun y ρ2 h2 F2 O2 u H2 s2 w2 r2 => by
      obtain ⟨d, e, g, e1, e2, e3, hp⟩ := h2
      exact hr c F2 O2 ρ2 σ H2 _ u d e g Q w2 (w2.res (AR.on w1 s2 r1) e1) (w2.res r2 e2) e3 fun F' O' z H' s' w' r' => hP _ _ hp F' O' z H' ((s1.trans s2).trans s') w' r')
      (fun x ρ' p => (hX x ρ' p).back s1)) hX⟩
theorem ops_count {K : PySem.W.Frag} : OpS (fun x y H Q => rCntI K x [y] H Q) pCount := fun c F O ρ σ H x y d e g Q w px py hf k => by
  unfold pCount at hf
  split at hf
  · rename_i ds i
    cases q : intsD ds with
    | none => rw [q] at hf; cases hf
    | some ns =>
      rw [q] at hf; cases hf
      rw [intsD_ok q] at px
      obtain ⟨a, vs, rfl, h1, r⟩ := px.list w
      rw [r.ints_inv] at h1
      cases py.int
      exact ⟨a, ns, i, rfl, rfl, .inl (.inl h1), k F O _ H (Stp.refl _ _ _) w (.int _)⟩
  · cases hf
end
end Ip
end
section
set_option Elab.async false
set_option linter.all false
set_option maxRecDepth 100000
/-! What is walked. -/
namespace PySem
set_option maxHeartbeats 1000000 in
theorem meets_enumerate_new1 {v : Value} {o : Obj} {H : Heap → Prop} (B : Begins v o H) :
    Meets (Builtin.«enumerate.__new__» ⟨[.type "enumerate", v], []⟩) (fun _ R s => H s.heap ∧
      R (.ok (.ret (.ref (s.heap.push o).objs.size))) { s with heap := (s.heap.push o).push { cls := .type "enumerate", data := .fields #[.none, .bool false, .ref s.heap.objs.size, rawInt 0, .none, .none] } }) :=
  .of_wp fun prog w A R s h => by
    obtain ⟨hp, g, d, tk, os⟩ := s; obtain ⟨h1, h⟩ := h
    have hsub := sub_enumerate
    have q1 : ∀ {A' : Around} {E : Value → Shared → Prop} {Q : Value → Shared → Prop}, Q (.ref hp.objs.size) ⟨hp.push o, g, d, tk, os⟩ → wpAny (model prog w) A' (pyIter v) Q E ⟨hp, g, d, tk, os⟩ :=
      fun q => B.iter prog w _ _ ⟨hp, g, d, tk, os⟩ _ h1 q
    wp_walk using q1
    refine wpAny_stack_any fun st => wpAny_pure ?_
    split
    · rename_i c _ _ _ _ _
      cases (c == Value.type "enumerate")
      · wp_walk using q1
        exact ⟨_, rfl, h⟩
      · wp_walk using q1
        exact ⟨_, rfl, h⟩
    · wp_walk using q1
      exact ⟨_, rfl, h⟩
theorem enum_begins1 {prog : Program} {w : World} {A : Around} {E : Value → Shared → Prop} {s : Shared} {v : Value} {o : Obj} {H : Heap → Prop} {Q : Value → Shared → Prop} (B : Begins v o H) (h1 : H s.heap)
    (h : ∀ h', IsEnum h' (s.heap.objs.size + 1) s.heap.objs.size 0 .none → h'.get? s.heap.objs.size = some o → h'.objs.size = s.heap.objs.size + 2 →
      (∀ b o, s.heap.get? b = some o → h'.get? b = some o) → Q (.ref (s.heap.objs.size + 1)) { s with heap := h' }) :
    wpAny (model prog w) A (call (.type "enumerate") [v]) Q E s := by
  refine callType_new F.called_enumerate (by decide) (F.typeCall_enumerate_1 _) (F.newCall_enumerate_1 _) (fun obj => F.args_object_init_2 obj _) F.entry_enumerate_new
    (meets_enumerate_new1 B) ⟨h1, ?_⟩
  have hz : (s.heap.push o).objs.size = s.heap.objs.size + 1 := Heap.size_push ..
  show _ ∧ _
  rw [hz]
  have he : IsEnum ((s.heap.push o).push { cls := .type "enumerate", data := .fields #[.none, .bool false, .ref s.heap.objs.size, rawInt 0, .none, .none] }) (s.heap.objs.size + 1) s.heap.objs.size 0 .none := by
    have := Heap.get?_push_size (s.heap.push o) (o := { cls := .type "enumerate", data := .fields #[.none, .bool false, .ref s.heap.objs.size, rawInt 0, .none, .none] }) rfl
    rw [hz] at this; exact this
  refine ⟨⟨_, he, rfl⟩, h _ he (Heap.get?_push_of_some _ (Heap.get?_push_size _ B.free)) (by rw [Heap.size_push, hz]) fun b o x => Heap.get?_push_of_some _ (Heap.get?_push_of_some _ x)⟩
end PySem
namespace Ip
open PySem L2 PySem.Spec PyProof.Rows

/-! ### a list or a tuple -/
def iSeq (K : PySem.W.Frag) (tl : TE) : TI := fun σ H R => tl σ H fun x H1 => ∃ a, x = .ref a ∧ (((∃ xs, SqL K H1 a xs) ∧ R (Itl K a) H1) ∨ ((∃ xs, SqT K H1 a xs) ∧ R (Itt K a) H1))
theorem pi_seq {X : Cx} {tg l : Expr} {tl : TE} (hl : PE X l tl) : PI X tg l (iSeq X.K tl) := by
  refine ⟨fun pins s σ H R I h => ?_⟩
  refine thn (hl.run pins s σ H _ I h) fun v s1 ⟨x, H1, I1, r1, q1⟩ => ?_
  obtain ⟨a, e, ⟨⟨xs, hq⟩, q⟩ | ⟨⟨xs, hq⟩, q⟩⟩ := q1
  · subst e
    cases r1
    obtain ⟨its, rv, p, hz⟩ := I1.list hq
    refine wpAny_pyIter_list p.isList ?_
    refine ⟨s1.heap.objs.size, [s1.heap.objs.size], _, _, H1, rfl, I1.kept (t' := s1.toks) fun b o e => Heap.get?_push_of_some _ e, turn_list a _, ⟨_, Heap.get?_push_size _ rfl, rfl, rfl⟩, fun b hb => ?_, q⟩
    have e : b = s1.heap.objs.size := by simpa using hb
    subst e
    exact I1.fpOk (Nat.le_refl _) (I1.hok.fresh (Nat.le_refl _))
  · subst e
    cases r1
    obtain ⟨its, rv, p, hz⟩ := I1.tuple hq
    refine wpAny_pyIter_tuple (show s1.heap.IsTuple a its.toArray from p) ?_
    refine ⟨s1.heap.objs.size, [s1.heap.objs.size], _, _, H1, rfl, I1.kept (t' := s1.toks) fun b o e => Heap.get?_push_of_some _ e, turn_tuple a _, ⟨_, Heap.get?_push_size _ rfl, rfl, rfl⟩, fun b hb => ?_, q⟩
    have e : b = s1.heap.objs.size := by simpa using hb
    subst e
    exact I1.fpOk (Nat.le_refl _) (I1.hok.fresh (Nat.le_refl _))
section
variable {c : Cf} {te : TE} {A : WT Da}
def tSeqI (A : WT Da) : WT (List Da) := fun ρ P Px => A ρ (fun d ρ1 => ∃ ds, seqD d = some ds ∧ P ds ρ1) Px
theorem rn_list {K : PySem.W.Frag} {F1 : Hp} {a : Addr} {vs : List V} {ds : List Da} (h : F1 a = some (.lst vs)) (r : RpL F1 vs ds) : Rn c (Itl K a) F1 ds where
  turn := fun F O ρ σ H k d ext w e => by
    have ha : SqL K H a vs := .inl (.inl (w.sub _ _ (ext _ _ h)))
    obtain ⟨v, hv, rv⟩ := r.get e
    refine ⟨⟨vs, v, ha, hv⟩, fun x H' y => ?_⟩
    obtain ⟨rfl, y⟩ := y
    have := y vs ha
    rw [hv] at this; cases this
    exact ⟨F, O, Stp.refl _ _ _, w, Rp.mono ext _ _ rv⟩
  stop := fun F O ρ σ H k ext w hk => ⟨vs, .inl (.inl (w.sub _ _ (ext _ _ h))), by rw [r.len]; exact hk⟩
theorem rn_tup {K : PySem.W.Frag} {F1 : Hp} {a : Addr} {vs : List V} {ds : List Da} (h : F1 a = some (.tup vs)) (r : RpL F1 vs ds) : Rn c (Itt K a) F1 ds where
  turn := fun F O ρ σ H k d ext w e => by
    have ha : SqT K H a vs := .inl (.inl (w.sub _ _ (ext _ _ h)))
    obtain ⟨v, hv, rv⟩ := r.get e
    refine ⟨⟨vs, v, ha, hv⟩, fun x H' y => ?_⟩
    obtain ⟨rfl, y⟩ := y
    have := y vs ha
    rw [hv] at this; cases this
    exact ⟨F, O, Stp.refl _ _ _, w, Rp.mono ext _ _ rv⟩
  stop := fun F O ρ σ H k ext w hk => ⟨vs, .inl (.inl (w.sub _ _ (ext _ _ h))), by rw [r.len]; exact hk⟩
theorem ii_seq {K : PySem.W.Frag} (h : IE c te A) : II c (iSeq K te) (tSeqI A) := ⟨fun F O ρ σ H R P Px w ht hP hX =>
  h.run F O ρ σ H _ _ Px w ht (fun d ρ1 q F1 O1 v H1 s1 w1 r1 => by
    obtain ⟨ds, e, hp⟩ := q
    cases d with
    | list xs =>
      cases e
      cases r1 with
      | lst ha hs => exact ⟨_, rfl, .inl ⟨⟨_, .inl (.inl (w1.sub _ _ ha))⟩, hP _ _ hp F1 O1 _ H1 s1 w1 (rn_list ha hs)⟩⟩
    | tuple xs =>
      cases e
      cases r1 with
      | tup ha hs => exact ⟨_, rfl, .inr ⟨⟨_, .inl (.inl (w1.sub _ _ ha))⟩, hP _ _ hp F1 O1 _ H1 s1 w1 (rn_tup ha hs)⟩⟩
    | _ => cases e) hX⟩

/-! ### ranges -/
def rng (lo : Int) (n : Nat) : List Da := (List.range n).map fun (i : Nat) => PyData.int (lo + (i : Int))
theorem rn_range {F1 : Hp} {lo : Int} {n : Nat} : Rn c (Itr lo n) F1 (rng lo n) where
  turn := fun F O ρ σ H k d ext w e => by
    unfold rng at e
    rw [List.getElem?_map] at e
    cases q : (List.range n)[k]? with
    | none => rw [q] at e; cases e
    | some j =>
      rw [q] at e
      cases e
      obtain ⟨hlt, hj⟩ := List.getElem?_eq_some_iff.mp q
      rw [List.length_range] at hlt
      rw [List.getElem_range] at hj
      subst hj
      refine ⟨hlt, fun x H' y => ?_⟩
      obtain ⟨rfl, rfl⟩ := y
      exact ⟨F, O, Stp.refl _ _ _, w, .int _⟩
  stop := fun F O ρ σ H k ext w hk => by
    unfold rng at hk
    rw [List.length_map, List.length_range] at hk
    exact hk
def tRg1 (as : WT (List Ar)) : WT (List Da) := fun ρ P Px => as ρ (fun xs ρ1 => ∃ j, resL xs ρ1 = some [.int j] ∧ -(2 ^ 62) ≤ j ∧ j < 2 ^ 62 ∧ P (rng 0 j.toNat) ρ1) Px
theorem ii_range1 {ta : TA} {as : WT (List Ar)} (h : IA c ta as) : II c (iRng1 ta) (tRg1 as) := ⟨fun F O ρ σ H R P Px w ht hP hX =>
  h.run F O ρ σ H _ _ Px w ht (fun xs ρ1 q F1 O1 vs H1 s1 w1 al => by
    obtain ⟨j, e, h1, h2, hp⟩ := q
    obtain ⟨v, rfl, pd⟩ := (resL_ok w1 al e).one
    cases pd.int
    exact ⟨j, rfl, h1, h2, hP _ _ hp F1 O1 _ H1 s1 w1 rn_range⟩) hX⟩
def tRg2 (as : WT (List Ar)) : WT (List Da) := fun ρ P Px => as ρ (fun xs ρ1 => ∃ i j, resL xs ρ1 = some [.int i, .int j] ∧ (-(2 ^ 62) ≤ i ∧ i < 2 ^ 62 ∧ -(2 ^ 62) ≤ j ∧ j < 2 ^ 62) ∧ P (rng i (j - i).toNat) ρ1) Px
theorem ii_range2 {ta : TA} {as : WT (List Ar)} (h : IA c ta as) : II c (iRng2 ta) (tRg2 as) := ⟨fun F O ρ σ H R P Px w ht hP hX =>
  h.run F O ρ σ H _ _ Px w ht (fun xs ρ1 q F1 O1 vs H1 s1 w1 al => by
    obtain ⟨i, j, e, h1, hp⟩ := q
    obtain ⟨v, u, rfl, pd, pe⟩ := (resL_ok w1 al e).two
    cases pd.int
    cases pe.int
    exact ⟨i, j, rfl, h1, hP _ _ hp F1 O1 _ H1 s1 w1 rn_range⟩) hX⟩
end

/-! ### enumerate -/
def IteT (K : PySem.W.Frag) (a : Addr) : It :=
  ⟨fun i H => ∃ (xs : List V) (x : V), SqT K H a xs ∧ xs[i]? = some x, fun i H v H' => ∃ T x, v = .ref T ∧ H T = none ∧ H' = upd H T (.tup [.int (i : Nat), x]) ∧ ∀ xs, SqT K H a xs → xs[i]? = some x, fun i H => ∃ xs : List V, SqT K H a xs ∧ xs.length ≤ i⟩
theorem turn_enumT {P : Program} {w : World} {K : PySem.W.Frag} {elts : List Expr} {kk : Nat} {tpos : Pos} (a e it : Addr) :
    Turn P w K (.Tuple elts kk tpos) (IteT K a) [e, it] e (fun i h => (∃ old, IsEnum h e it ((i : Nat) : Int) old) ∧ h.IsTupleIter it a i ∧ e ≠ it ∧ a ≠ it ∧ a ≠ e) where
  mem := by simp
  obj := fun i h st b hb => by
    obtain ⟨⟨old, he⟩, ⟨o, ho, hc, hd⟩, _⟩ := st
    have e' : b = e ∨ b = it := by simpa using hb
    rcases e' with z | z
    · rw [z]; exact ⟨_, he, fun v q => nomatch q⟩
    · rw [z]; exact ⟨o, ho, fun v q => by rw [hd] at q; cases q⟩
  keep := fun i h h' st k => let ⟨⟨old, he⟩, hi, hne⟩ := st; ⟨⟨old, k e (by simp) _ he⟩, hi.at fun o q => k it (by simp) o q, hne⟩
  item := by
    intro X hP hw hK hc i pins s σ H E I hf st hg
    subst hP hw hK
    obtain ⟨⟨old, he⟩, hit, hne, na, nb⟩ := st
    obtain ⟨xs, x, hq, hx⟩ := hg
    obtain ⟨its, rv, p, hz⟩ := I.tuple hq
    obtain ⟨u, hu, ru⟩ := rv.get hx
    have hel : e < s.heap.objs.size := Heap.lt_size he
    have hil : it < s.heap.objs.size := by obtain ⟨_, q, _⟩ := hit; exact Heap.lt_size q
    have hh : X.A.in1.handled = none := I.ok.hd hc
    have hlt : i < its.toArray.size := by
      have := (List.getElem?_eq_some_iff.mp hu).1
      simpa using this
    refine wpAny_pyNext_enum_itemD (Draws.tuple hh it a na its.toArray) he ⟨hit, p⟩ hlt hne (by simp [hne, Ne.symm nb]) fun x' h' tk hP' ho hst' hT hsz hk => ?_
    have ex : x' = u := by
      have h1 : its.toArray[i]? = some x' := hP'
      have h2 : its.toArray[i]? = some u := by simpa using hu
      rw [h1] at h2
      exact Option.some.inj h2
    subst ex
    obtain ⟨hit', _⟩ := hst'
    refine ⟨_, rfl, wpAny_letOwnedTupleGo_enum (s := { s with heap := h', toks := tk + 1 }) ho fun h'' he' sb => ?_⟩
    have hT2 : h''.get? s.heap.objs.size = some { cls := .type "tuple", data := .seq #[.int i tk, x'] } := (sb.2 _ (Nat.ne_of_gt hel)).trans hT
    have new : ObjOk X.prog X.w (upd H s.heap.objs.size (.tup [.int (i : Nat), x])) h'' s.heap.objs.size (.tup [.int (i : Nat), x]) :=
      ⟨by show 2 ≤ sizeLine; decide, [.int i tk, x'], .cons ⟨_, rfl⟩ (.cons ru .nil), ⟨_, hT2, rfl, _, rfl⟩⟩
    have I1 : Inv X pins σ (upd H s.heap.objs.size (.tup [.int (i : Nat), x])) { s with heap := h'', toks := tk + 1 } :=
      I.turnedNew (ch := [e, it]) (fun b ob hb q => (sb.2 b (fun z => hb (by simp [z]))).trans (hk b ob (fun z => hb (by simp [z])) (fun z => hb (by simp [z])) q)) hf (Nat.le_refl _) new
    refine ⟨.ref s.heap.objs.size, _, I1, rfl, ⟨_, x, rfl, I.hok.fresh (Nat.le_refl _), rfl, fun ys hy => by rw [I.tuple_inj hy hq]; exact hx⟩, ⟨⟨x', ?_⟩, hit'.at fun o q => (sb.2 it (Ne.symm hne)).trans q, hne, na, nb⟩, fun b hb => ?_⟩
    · have e1 : ((i + 1 : Nat) : Int) = (i : Int) + 1 := by omega
      rw [e1]; exact he'
    · have hb' : b < s.heap.objs.size := by
        have e' : b = e ∨ b = it := by simpa using hb
        rcases e' with z | z
        · rw [z]; exact hel
        · rw [z]; exact hil
      rw [upd_ne (Nat.ne_of_lt hb')]
      exact (hf b hb).1
  done := by
    intro X hP hw hK hc i pins s σ H E I hf st hg
    subst hP hw hK
    obtain ⟨⟨old, he⟩, hit, hne, na, nb⟩ := st
    obtain ⟨xs, hq, hx⟩ := hg
    obtain ⟨its, rv, p, hz⟩ := I.tuple hq
    obtain ⟨f0, f1, f2, f3, f4, f5⟩ := hf it (by simp)
    have hl := rv.length
    have hh : X.A.in1.handled = none := I.ok.hd hc
    have hT : s.TypeIs (.ref e) "enumerate" := ⟨_, he, rfl⟩
    unfold pyNext
    refine wpAny_bind (wpAny_attempt (wpAny_callSpecial?_slot (name := Str.ofString "__next__") hT F.slot_enumerate_next
      (wpAny_call_entry F.slot_enumerate_next hT F.entry_enumerate_next ?_ (F.args_enumerate_next_1 _))))
    show wpAny _ _ (field (.ref e) 2 >>= _) _ _ _
    refine wpAny_bind (wpAny_field he rfl (x := .ref it) rfl ?_)
    refine wpAny_bind (wpAny_nextOf_tuple_end hh hit p (by simp; omega) fun h' x he' hx' => ?_)
    obtain ⟨o, ho, hc'⟩ := hx'
    refine wpAny_bind (wpAny_isInstance (T := "StopIteration") (b := true) ⟨o, ho, hc'⟩ isSubtype_stop ?_)
    exact wpAny_pure ⟨rfl, I.turned (t' := s.toks) (fun b o hb q => he' b o hb q) f0 f1 f3 f4 f5⟩
  self := fun A i s Q E st h => let ⟨⟨_, he⟩, _⟩ := st; wpAny_pyIter_enum he h
def iEnumA (K : PySem.W.Frag) (ta : TA) : TI := fun σ H R => ta σ H fun vs H1 => ∃ a, vs = [.ref a] ∧ (((∃ xs, SqL K H1 a xs) ∧ R (Ite K a) H1) ∨ ((∃ xs, SqT K H1 a xs) ∧ R (IteT K a) H1))
theorem pi_enumA {X : Cx} {e : Expr} {ta : TA} {p pos tpos : Pos} {elts : List Expr} {kk : Nat} (hg : Gl X "enumerate") (hm : X.mg "enumerate" = none) (ha : PA X [e] ta) (hs : starEach [e] X.env = [(false, eval e X.env)] := by rfl) :
    PI X (.Tuple elts kk tpos) (.Call (.Name "enumerate" p) [e] [] pos) (iEnumA X.K ta) := by
  refine ⟨fun pins s σ H R I h => ?_⟩
  refine Call_ (ld_blt I hg hm boot_enumerate (PyProof.Rows.callWith_type1 (thn (ha.run pos pins s σ H _ I h) fun us s1 ⟨vs, H1, I1, r1, q1⟩ => ?_) hs rfl))
  obtain ⟨a, ex, ⟨⟨xs, hq⟩, q⟩ | ⟨⟨xs, hq⟩, q⟩⟩ := q1
  · subst ex
    cases r1 with
    | cons r rr =>
      cases rr
      cases r
      obtain ⟨its, rv, p', hz⟩ := I1.list hq
      refine call_enumerate_list p'.isList fun h' he hit hsz hk => wpAny_pyIter_enum he ?_
      have I2 : Inv X pins σ H1 { s1 with heap := h' } := I1.kept (t' := s1.toks) hk
      refine ⟨s1.heap.objs.size + 1, [s1.heap.objs.size + 1, s1.heap.objs.size], _, _, H1, rfl, I2, turn_enum a (s1.heap.objs.size + 1) s1.heap.objs.size, ⟨⟨.none, he⟩, hit, Nat.succ_ne_self _⟩, fun b hb => ?_, q⟩
      have e' : b = s1.heap.objs.size + 1 ∨ b = s1.heap.objs.size := by simpa using hb
      have hle : s1.heap.objs.size ≤ b := by
        rcases e' with z | z
        · rw [z]; exact Nat.le_add_right _ _
        · rw [z]; exact Nat.le_refl _
      exact I1.fpOk hle (I1.hok.fresh hle)
  · subst ex
    cases r1 with
    | cons r rr =>
      cases rr
      cases r
      obtain ⟨its, rv, p', hz⟩ := I1.tuple hq
      have hlt : a < s1.heap.objs.size := p'.lt
      refine enum_begins1 (begins_tuple a its.toArray) p' fun h' he hit hsz hk => wpAny_pyIter_enum he ?_
      have I2 : Inv X pins σ H1 { s1 with heap := h' } := I1.kept (t' := s1.toks) hk
      refine ⟨s1.heap.objs.size + 1, [s1.heap.objs.size + 1, s1.heap.objs.size], _, _, H1, rfl, I2, turn_enumT a (s1.heap.objs.size + 1) s1.heap.objs.size, ⟨⟨.none, he⟩, ⟨_, hit, rfl, rfl⟩, Nat.succ_ne_self _, Nat.ne_of_lt hlt, Nat.ne_of_lt (Nat.lt_succ_of_lt hlt)⟩, fun b hb => ?_, q⟩
      have e' : b = s1.heap.objs.size + 1 ∨ b = s1.heap.objs.size := by simpa using hb
      have hle : s1.heap.objs.size ≤ b := by
        rcases e' with z | z
        · rw [z]; exact Nat.le_add_right _ _
        · rw [z]; exact Nat.le_refl _
      exact I1.fpOk hle (I1.hok.fresh hle)
section
variable {c : Cf} {te : TE} {A : WT Da}
def enumF (k : Nat) : List Da → List Da
  | [] => []
  | d :: ds => .tuple [.int (k : Int), d] :: enumF (k + 1) ds
theorem enumF_get : ∀ {ds : List Da} {k i : Nat} {g : Da}, (enumF k ds)[i]? = some g → ∃ d, ds[i]? = some d ∧ g = .tuple [.int ((k + i : Nat) : Int), d]
  | [], _, _, _, h => by simp [enumF] at h
  | d :: ds, k, 0, g, h => by
    have h : (PyData.tuple [.int (k : Int), d]) = g := by simpa [enumF] using h
    exact ⟨d, rfl, h.symm⟩
  | d :: ds, k, i + 1, g, h => by
    obtain ⟨e, h1, h2⟩ := enumF_get (ds := ds) (k := k + 1) (i := i) (by simpa [enumF] using h)
    refine ⟨e, by simpa using h1, ?_⟩
    rw [h2]
    have : k + 1 + i = k + (i + 1) := by omega
    rw [this]
theorem enumF_len : ∀ (ds : List Da) (k : Nat), (enumF k ds).length = ds.length
  | [], _ => rfl
  | d :: ds, k => by show (enumF (k + 1) ds).length + 1 = _; rw [enumF_len ds]; rfl
theorem rn_enumL {K : PySem.W.Frag} {F1 : Hp} {a : Addr} {vs : List V} {ds : List Da} (h : F1 a = some (.lst vs)) (r : RpL F1 vs ds) : Rn c (Ite K a) F1 (enumF 0 ds) where
  turn := fun F O ρ σ H k d ext w e => by
    obtain ⟨d', e', rfl⟩ := enumF_get e
    have ha : SqL K H a vs := .inl (.inl (w.sub _ _ (ext _ _ h)))
    obtain ⟨v, hv, rv⟩ := r.get e'
    refine ⟨⟨vs, v, ha, hv⟩, fun x H' y => ?_⟩
    obtain ⟨T, x', rfl, hT, rfl, y⟩ := y
    have := y vs ha
    rw [hv] at this; cases this
    obtain ⟨w2, s2⟩ := w.newF hT (.tup [.int ((k : Nat) : Int), v])
    refine ⟨_, _, s2, w2, .tup upd_same (.cons ?_ (.cons (Rp.mono (w.ext s2) _ _ (Rp.mono ext _ _ rv)) .nil))⟩
    rw [Nat.zero_add]; exact .int _
  stop := fun F O ρ σ H k ext w hk => ⟨vs, .inl (.inl (w.sub _ _ (ext _ _ h))), by rw [r.len]; rw [enumF_len] at hk; exact hk⟩
theorem rn_enumT {K : PySem.W.Frag} {F1 : Hp} {a : Addr} {vs : List V} {ds : List Da} (h : F1 a = some (.tup vs)) (r : RpL F1 vs ds) : Rn c (IteT K a) F1 (enumF 0 ds) where
  turn := fun F O ρ σ H k d ext w e => by
    obtain ⟨d', e', rfl⟩ := enumF_get e
    have ha : SqT K H a vs := .inl (.inl (w.sub _ _ (ext _ _ h)))
    obtain ⟨v, hv, rv⟩ := r.get e'
    refine ⟨⟨vs, v, ha, hv⟩, fun x H' y => ?_⟩
    obtain ⟨T, x', rfl, hT, rfl, y⟩ := y
    have := y vs ha
    rw [hv] at this; cases this
    obtain ⟨w2, s2⟩ := w.newF hT (.tup [.int ((k : Nat) : Int), v])
    refine ⟨_, _, s2, w2, .tup upd_same (.cons ?_ (.cons (Rp.mono (w.ext s2) _ _ (Rp.mono ext _ _ rv)) .nil))⟩
    rw [Nat.zero_add]; exact .int _
  stop := fun F O ρ σ H k ext w hk => ⟨vs, .inl (.inl (w.sub _ _ (ext _ _ h))), by rw [r.len]; rw [enumF_len] at hk; exact hk⟩
def tEnI (A : WT Da) : WT (List Da) := fun ρ P Px => A ρ (fun d ρ1 => ∃ ds, seqD d = some ds ∧ P (enumF 0 ds) ρ1) Px
theorem ii_enum {K : PySem.W.Frag} (h : IE c te A) : II c (iEnumA K (tCons te tNil)) (tEnI A) := ⟨fun F O ρ σ H R P Px w ht hP hX =>
  h.run F O ρ σ H _ _ Px w ht (fun d ρ1 q F1 O1 v H1 s1 w1 r1 => by
    obtain ⟨ds, e, hp⟩ := q
    cases d with
    | list xs =>
      cases e
      cases r1 with
      | lst ha hs => exact ⟨_, rfl, .inl ⟨⟨_, .inl (.inl (w1.sub _ _ ha))⟩, hP _ _ hp F1 O1 _ H1 s1 w1 (rn_enumL ha hs)⟩⟩
    | tuple xs =>
      cases e
      cases r1 with
      | tup ha hs => exact ⟨_, rfl, .inr ⟨⟨_, .inl (.inl (w1.sub _ _ ha))⟩, hP _ _ hp F1 O1 _ H1 s1 w1 (rn_enumT ha hs)⟩⟩
    | _ => cases e) hX⟩

/-! ### list(range(..)) -/
theorem ints_rng (lo : Int) (n : Nat) : rng lo n = ((List.range n).map fun (i : Nat) => lo + (i : Int)).map .int := by
  unfold rng; rw [List.map_map]; rfl
end
end Ip
end
section
set_option Elab.async false
set_option linter.all false
set_option maxRecDepth 100000
/-! Defs, several targets, more. -/
namespace Ip
open PySem L2 PySem.Spec PyProof.Rows

/-! ### a def's body -/
def fnOf (n k : Nat) (B : WS) : Fn := fun ps P _ => B (ps ++ List.replicate k .un)
  { nx := fun ρ => P .none (ρ.take n), rt := fun d ρ => P d (ρ.take n), bk := fun _ => False, ct := fun _ => False, er := fun _ _ => False }
def fnOfX (n k : Nat) (B : WS) : Fn := fun ps P Px => B (ps ++ List.replicate k .un)
  { nx := fun ρ => P .none (ρ.take n), rt := fun d ρ => P d (ρ.take n), bk := fun _ => False, ct := fun _ => False, er := fun x ρ => Px x (ρ.take n) }
theorem fnOf_0 {n k : Nat} {B : WS} : ∀ ps P Px Px', fnOf n k B ps P Px → fnOf n k B ps P Px' := fun _ _ _ _ h => h
section
variable {ca : Addr} {F H : Hp} {O : Ow} {ρ : En} {σ : L2.St}
theorem W.more (w : W ca F O ρ σ H) (k : Nat) : W ca F O (ρ ++ List.replicate k .un) (σ ++ List.replicate k none) H :=
  ⟨w.sub, w.ow, by rw [List.length_append, List.length_append, List.length_replicate, List.length_replicate, w.len], fun i s hs => by
    by_cases hi : i < ρ.length
    · rw [List.getElem?_append_left hi] at hs
      obtain ⟨o, eo, r⟩ := w.sl i s hs
      exact ⟨o, by rw [List.getElem?_append_left (by rw [← w.len]; exact hi)]; exact eo, r⟩
    · have hi : ρ.length ≤ i := Nat.le_of_not_lt hi
      rw [List.getElem?_append_right hi, List.getElem?_replicate] at hs
      split at hs
      · rename_i hk
        cases hs
        refine ⟨none, ?_, trivial⟩
        rw [List.getElem?_append_right (by rw [← w.len]; exact hi), ← w.len, List.getElem?_replicate, if_pos hk]
      · cases hs⟩
theorem W.take (w : W ca F O ρ σ H) (n : Nat) : W ca F O (ρ.take n) (σ.take n) H :=
  ⟨w.sub, w.ow, by rw [List.length_take, List.length_take, w.len], fun i s hs => by
    have hi : i < n := by
      have := (List.getElem?_eq_some_iff.mp hs).1
      rw [List.length_take] at this
      omega
    rw [List.getElem?_take_of_lt hi] at hs
    obtain ⟨o, eo, r⟩ := w.sl i s hs
    exact ⟨o, by rw [List.getElem?_take_of_lt hi]; exact eo, r⟩⟩
end
section
variable {P : Program} {w : World} {K : PySem.W.Frag} {mg : Str → Option Value} {base : Heap}
theorem fn_ip {x qual : Str} {st : Stmt} {f : Addr} {fd : FuncData} {N ps : List Str} {k m : Nat} {xc : Nat → Addr} {pins : List Nat} {B : WS} (Fu : Fun K x qual st f fd) (S : FnScope N ps (defScope st)) (hk : N.length - ps.length = m) (hp : ∀ j ∈ pins, j < ps.length)
    (hbody : ∀ (cdv : Value) (A : Around) (outer : List Env) (s : Shared) (H : Hp) (E : XK), Room k (A.deeper (envOfC qual (defScope st) s.heap.objs.size f cdv)) →
      ∃ t, PSs (cxOf CX0 P w K mg base N qual (defScope st) f cdv A outer s H E).nox (defBody st) t ∧ ∀ ca, IS ⟨K, ca, pins, fun _ _ _ _ => False, xc⟩ t B) :
    FnOk P w K mg base CX0 (k + 1) f fd ps (spOf K xc pins ps.length (fnOf ps.length m B)) := by
  refine Fu.ok S (fun vs H Q E h => h.1) (fun cdv A outer s H vs Q E hr h => ?_)
  obtain ⟨t, hps, his⟩ := hbody cdv A outer s H E hr
  refine ⟨t, hps, ?_⟩
  obtain ⟨hl, ca, F, O, ss, Pp, Px, hw, hf, hP, hX⟩ := h
  have hss : ss.length = ps.length := by rw [hw.len, List.length_map, hl]
  have w1 := hw.more m
  have est : L2.start N vs = vs.map some ++ List.replicate m none := by unfold L2.start; rw [hl, hk]
  rw [est]
  refine (his ca).run F O _ _ H _ _ w1 hf ⟨?_, ?_, fun _ h => h.elim, fun _ h => h.elim, fun _ _ h => h.elim⟩
  · intro ρ' h F' O' σ' H' s' w' pin
    refine hP _ _ h F' O' (σ'.take ps.length) .non H' s' (w'.take _) (fun j hj => ?_) .non
    rw [List.getElem?_take_of_lt (hp j hj), pin j hj, List.getElem?_append_left (by rw [List.length_map, hl]; exact hp j hj)]
  · intro d ρ' h F' O' σ' v H' s' w' pin r
    refine hP _ _ h F' O' (σ'.take ps.length) v H' s' (w'.take _) (fun j hj => ?_) r
    rw [List.getElem?_take_of_lt (hp j hj), pin j hj, List.getElem?_append_left (by rw [List.length_map, hl]; exact hp j hj)]
/-- a def that may raise -/
theorem fn_ipX {x qual : Str} {st : Stmt} {f : Addr} {fd : FuncData} {N ps : List Str} {k m : Nat} {xc : Nat → Addr} {pins : List Nat} {B : WS} (Fu : Fun K x qual st f fd) (S : FnScope N ps (defScope st)) (hk : N.length - ps.length = m) (hp : ∀ j ∈ pins, j < ps.length)
    (hbody : ∀ (cdv : Value) (A : Around) (outer : List Env) (s : Shared) (H : Hp) (E : XK), Room k (A.deeper (envOfC qual (defScope st) s.heap.objs.size f cdv)) →
      ∃ t, PSs (cxOf (L2.CX P w) P w K mg base N qual (defScope st) f cdv A outer s H E) (defBody st) t ∧ ∀ ca, IS ⟨K, ca, pins, fun _ => E, xc⟩ t B) :
    FnOk P w K mg base (L2.CX P w) (k + 1) f fd ps (spOf K xc pins ps.length (fnOfX ps.length m B)) := by
  refine Fu.okX S (fun vs H Q E h => h.1) (fun cdv A outer s H vs Q E hr h => ?_)
  obtain ⟨t, hps, his⟩ := hbody cdv A outer s H E hr
  refine ⟨t, hps, ?_⟩
  obtain ⟨hl, ca, F, O, ss, Pp, Px, hw, hf, hP, hX⟩ := h
  have hss : ss.length = ps.length := by rw [hw.len, List.length_map, hl]
  have w1 := hw.more m
  have est : L2.start N vs = vs.map some ++ List.replicate m none := by unfold L2.start; rw [hl, hk]
  rw [est]
  refine (his ca).run F O _ _ H _ _ w1 hf ⟨?_, ?_, fun _ h => h.elim, fun _ h => h.elim, ?_⟩
  · intro ρ' h F' O' σ' H' s' w' pin
    refine hP _ _ h F' O' (σ'.take ps.length) .non H' s' (w'.take _) (fun j hj => ?_) .non
    rw [List.getElem?_take_of_lt (hp j hj), pin j hj, List.getElem?_append_left (by rw [List.length_map, hl]; exact hp j hj)]
  · intro d ρ' h F' O' σ' v H' s' w' pin r
    refine hP _ _ h F' O' (σ'.take ps.length) v H' s' (w'.take _) (fun j hj => ?_) r
    rw [List.getElem?_take_of_lt (hp j hj), pin j hj, List.getElem?_append_left (by rw [List.length_map, hl]; exact hp j hj)]
  · intro x ρ' h F' O' σ' cls d H' s' w' pin r
    refine hX _ _ h F' O' (σ'.take ps.length) cls d H' s' (w'.take _) (fun j hj => ?_) r
    rw [List.getElem?_take_of_lt (hp j hj), pin j hj, List.getElem?_append_left (by rw [List.length_map, hl]; exact hp j hj)]
end

/-! ### several values at once: frozen ones and new lists -/
inductive Ax where
  | f (d : Da)
  | t (ds : List Da)
def AXR (F : Hp) (O : Ow) (H : Hp) (O0 : Ow) (H0 : Hp) (v : V) : Ax → Prop
  | .f d => Rp F v d
  | .t ds => ∃ a vs, v = .ref a ∧ H a = some (.lst vs) ∧ RpL F vs ds ∧ F a = none ∧ O a = none ∧ (H0 a = none ∨ O0 a ≠ none)
def AXL (F : Hp) (O : Ow) (H : Hp) (O0 : Ow) (H0 : Hp) : List V → List Ax → Prop
  | [], [] => True
  | v :: vs, x :: xs => AXR F O H O0 H0 v x ∧ (∀ ds, x = .t ds → v ∉ vs) ∧ AXL F O H O0 H0 vs xs
  | _, _ => False
structure IX (c : Cf) (te : TE) (T : WT Ax) : Prop where
  run : ∀ F O ρ σ H Q (P : Ax → En → Prop) (Px : Ex → En → Prop), W c.ca F O ρ σ H → T ρ P Px →
    (∀ x ρ', P x ρ' → ∀ F' O' v H', Stp F O H F' O' H' → W c.ca F' O' ρ' σ H' → AXR F' O' H' O H v x → Q v H') → (∀ x ρ', Px x ρ' → PXp c F O σ H x ρ') → te σ H Q
structure IXs (c : Cf) (t : TA) (T : WT (List Ax)) : Prop where
  run : ∀ F O ρ σ H (Q : List V → Hp → Prop) (P : List Ax → En → Prop) (Px : Ex → En → Prop), W c.ca F O ρ σ H → T ρ P Px →
    (∀ xs ρ', P xs ρ' → ∀ F' O' vs H', Stp F O H F' O' H' → W c.ca F' O' ρ' σ H' → AXL F' O' H' O H vs xs → Q vs H') → (∀ x ρ', Px x ρ' → PXp c F O σ H x ρ') → t σ H Q
def tXf (A : WT Da) : WT Ax := fun ρ P Px => A ρ (fun d ρ' => P (.f d) ρ') Px
def tXt (T : WT (List Da)) : WT Ax := fun ρ P Px => T ρ (fun d ρ' => P (.t d) ρ') Px
def tX0 : WT (List Ax) := fun ρ P _ => P [] ρ
def tXc (a : WT Ax) (as : WT (List Ax)) : WT (List Ax) := fun ρ P Px => a ρ (fun x ρ1 => as ρ1 (fun xs ρ2 => P (x :: xs) ρ2) Px) Px
section
variable {c : Cf} {te : TE} {A : WT Da} {T : WT (List Da)}
theorem ix_f (h : IE c te A) : IX c te (tXf A) := ⟨fun F O ρ σ H Q P Px w ht hP hX => h.run F O ρ σ H Q _ Px w ht (fun d ρ' p F' O' v H' s w' r => hP _ _ p F' O' v H' s w' r) hX⟩
theorem ix_t (h : IT c te T) : IX c te (tXt T) := ⟨fun F O ρ σ H Q P Px w ht hP hX => h.run F O ρ σ H Q _ Px w ht (fun ds ρ' p F' O' a vs H' s w' ha r hf ho hn => hP _ _ p F' O' _ H' s w' ⟨a, vs, rfl, ha, r, hf, ho, hn⟩) hX⟩
theorem AXL.out {F : Hp} {O : Ow} {H : Hp} {O1 : Ow} {H1 : Hp} {a : Addr} (h1 : H1 a ≠ none) (h2 : O1 a = none) (h3 : F a = none) : ∀ {vs : List V} {xs : List Ax}, AXL F O H O1 H1 vs xs → V.ref a ∉ vs
  | [], [], _ => by simp
  | v :: vs, x :: xs, h => by
    intro m
    cases m with
    | head =>
      have r := h.1
      cases x with
      | f d =>
        have r : Rp F (.ref a) d := r
        cases r with
        | lst q _ => rw [h3] at q; cases q
        | tup q _ => rw [h3] at q; cases q
      | t ds =>
        obtain ⟨b, us, e, _, _, _, _, q⟩ := r
        cases e
        rcases q with q | q
        · exact h1 q
        · exact q h2
    | tail _ m => exact AXL.out h1 h2 h3 h.2.2 m
  | [], _ :: _, h => h.elim
  | _ :: _, [], h => h.elim
theorem AXR.start {F F0 : Hp} {O : Ow} {H : Hp} {O0 O1 : Ow} {H0 H1 : Hp} {v : V} {x : Ax} {F1 : Hp} (s : Stp F0 O0 H0 F1 O1 H1) (h : AXR F O H O1 H1 v x) : AXR F O H O0 H0 v x := by
  cases x with
  | f d => exact h
  | t ds =>
    obtain ⟨a, vs, e, h1, r, hf, ho, hn⟩ := h
    refine ⟨a, vs, e, h1, r, hf, ho, ?_⟩
    cases q : H0 a with
    | none => exact .inl rfl
    | some o =>
      refine .inr fun n => ?_
      rcases hn with hn | hn
      · rw [s.keep a o q n] at hn; cases hn
      · exact hn (s.no a (by rw [q]; exact fun z => nomatch z) n)
theorem AXL.start {F F0 : Hp} {O : Ow} {H : Hp} {O0 O1 : Ow} {H0 H1 : Hp} {F1 : Hp} (s : Stp F0 O0 H0 F1 O1 H1) : ∀ {vs : List V} {xs : List Ax}, AXL F O H O1 H1 vs xs → AXL F O H O0 H0 vs xs
  | [], [], _ => trivial
  | v :: vs, x :: xs, h => ⟨h.1.start s, h.2.1, AXL.start s h.2.2⟩
  | [], _ :: _, h => h.elim
  | _ :: _, [], h => h.elim
theorem ixs_nil : IXs c tNil tX0 := ⟨fun F O ρ σ H Q P Px w ht hP hX => hP _ _ ht F O [] H (Stp.refl _ _ _) w trivial⟩
theorem ixs_cons {t : TA} {a : WT Ax} {as : WT (List Ax)} (h1 : IX c te a) (h2 : IXs c t as) : IXs c (tCons te t) (tXc a as) := ⟨fun F O ρ σ H Q P Px w ht hP hX =>
  h1.run F O ρ σ H _ _ Px w ht (fun x ρ1 q1 F1 O1 v H1 s1 w1 r1 =>
    h2.run F1 O1 ρ1 σ H1 _ _ Px w1 q1 (fun xs ρ2 q2 F2 O2 vs H2 s2 w2 r2 => by
      refine hP _ _ q2 F2 O2 (v :: vs) H2 (s1.trans s2) w2 ⟨?_, ?_, r2.start s1⟩
      · cases x with
        | f d => exact Rp.mono (w1.ext s2) _ _ r1
        | t ds =>
          obtain ⟨a, us, e, ha, r, hf, ho, hn⟩ := r1
          have hne : H1 a ≠ none := by rw [ha]; exact fun z => nomatch z
          exact ⟨a, us, e, s2.keep a _ ha ho, RpL.mono (w1.ext s2) _ _ r, by rw [s2.nf a hne ho]; exact hf, s2.no a hne ho, hn⟩
      · intro ds e
        subst e
        obtain ⟨a, us, e, ha, r, hf, ho, hn⟩ := r1
        subst e
        have hne : H1 a ≠ none := by rw [ha]; exact fun z => nomatch z
        exact AXL.out hne ho (by rw [s2.nf a hne ho]; exact hf) r2)
      (fun x ρ' p => (hX x ρ' p).back s1)) hX⟩
def setX (ρ : En) (i : Nat) : Ax → En
  | .f d => ρ.set i (.fz d)
  | .t ds => ρ.set i (.ol ds)
theorem W.setX {ca : Addr} {F H : Hp} {O : Ow} {ρ : En} {σ : L2.St} {O0 : Ow} {F0 H0 : Hp} (w : W ca F O ρ σ H) {v : V} {x : Ax} (r : AXR F O H O0 H0 v x) (s : Stp F0 O0 H0 F O H) (i : Nat) : ∃ O', W ca F O' (setX ρ i x) (σ.set i (some v)) H ∧ Stp F0 O0 H0 F O' H ∧
    ∀ vs xs, (∀ ds, x = .t ds → v ∉ vs) → AXL F O H O0 H0 vs xs → AXL F O' H O0 H0 vs xs := by
  cases x with
  | f d => exact ⟨O, w.setF r i, s, fun _ _ _ h => h⟩
  | t ds =>
    obtain ⟨a, us, rfl, ha, r, hf, ho, hn⟩ := r
    refine ⟨own O a (some i), w.setO hf ho i (.ol ds) ⟨a, us, rfl, ha, r, own_same⟩, s.own hn, fun vs xs hd h => ?_⟩
    replace hd := hd ds rfl
    clear w s
    induction vs generalizing xs with
    | nil => cases xs with
      | nil => trivial
      | cons _ _ => exact h.elim
    | cons u vs ih => cases xs with
      | nil => exact h.elim
      | cons y ys =>
        refine ⟨?_, h.2.1, ih ys h.2.2 (fun z => hd (List.mem_cons_of_mem _ z))⟩
        cases y with
        | f d => exact h.1
        | t es =>
          obtain ⟨b, ws, e, h1, h2, h3, h4, h5⟩ := h.1
          refine ⟨b, ws, e, h1, h2, h3, ?_, h5⟩
          rw [own_ne (fun z => hd (by rw [e, z]; exact List.mem_cons_self))]
          exact h4
def sPar (i j : Nat) (as : WT (List Ax)) : WS := fun ρ e => as ρ (fun xs ρ1 => ∃ x y, xs = [x, y] ∧ e.nx (setX (setX ρ1 i x) j y)) e.er
theorem is_par {i j : Nat} {ta : TA} {as : WT (List Ax)} (hi : i ∉ c.pins) (hj : j ∉ c.pins) (h : IXs c ta as) : IS c (tPar i j ta) (sPar i j as) := ⟨fun F O ρ σ H D e w ht p =>
  h.run F O ρ σ H _ _ _ w ht (fun xs ρ1 q F1 O1 vs H1 s1 w1 al => by
    obtain ⟨x, y, rfl, hp⟩ := q
    match vs, al with
    | [v, u], ⟨r1, d1, r2, d2, _⟩ =>
      obtain ⟨O2, w2, s2, k2⟩ := w1.setX r1 s1 i
      have a2 := k2 [u] [y] d1 ⟨r2, d2, trivial⟩
      obtain ⟨O3, w3, s3, _⟩ := w2.setX a2.1 s2 j
      exact ⟨v, u, rfl, p.nx _ hp F1 O3 _ H1 s3 w3 ((Pin.set hi).trans (Pin.set hj))⟩) p.px⟩
def sPar3 (i j l : Nat) (as : WT (List Ax)) : WS := fun ρ e => as ρ (fun xs ρ1 => ∃ x y z, xs = [x, y, z] ∧ e.nx (setX (setX (setX ρ1 i x) j y) l z)) e.er
theorem is_par3 {i j l : Nat} {ta : TA} {as : WT (List Ax)} (hi : i ∉ c.pins) (hj : j ∉ c.pins) (hl : l ∉ c.pins) (h : IXs c ta as) : IS c (tPar3 i j l ta) (sPar3 i j l as) := ⟨fun F O ρ σ H D e w ht p =>
  h.run F O ρ σ H _ _ _ w ht (fun xs ρ1 q F1 O1 vs H1 s1 w1 al => by
    obtain ⟨x, y, z, rfl, hp⟩ := q
    match vs, al with
    | [v, u, t], ⟨r1, d1, r2, d2, r3, d3, _⟩ =>
      obtain ⟨O2, w2, s2, k2⟩ := w1.setX r1 s1 i
      have a2 := k2 [u, t] [y, z] d1 ⟨r2, d2, r3, d3, trivial⟩
      obtain ⟨O3, w3, s3, k3⟩ := w2.setX a2.1 s2 j
      have a3 := k3 [t] [z] a2.2.1 a2.2.2
      obtain ⟨O4, w4, s4, _⟩ := w3.setX a3.1 s3 l
      exact ⟨v, u, t, rfl, p.nx _ hp F1 O4 _ H1 s4 w4 (((Pin.set hi).trans (Pin.set hj)).trans (Pin.set hl))⟩) p.px⟩

/-! ### new lists by + and * -/
def OpT (r : R2) (f : Da → Da → Option (List Da)) : Prop := ∀ (c : Cf) F O ρ σ H x y d e g Q, W c.ca F O ρ σ H → PD F H x d → PD F H y e → f d e = some g →
  (∀ p us, H p = none → RpL F us g → Q (.ref p) (upd H p (.lst us))) → r x y H Q
def tB2T (f : Da → Da → Option (List Da)) (A B : WT Ar) : WT (List Da) := fun ρ P Px => A ρ (fun x ρ1 => B ρ1 (fun y ρ2 => ∃ d e g, res x ρ2 = some d ∧ res y ρ2 = some e ∧ f d e = some g ∧ P g ρ2) Px) Px
theorem it_op {r : R2} {f : Da → Da → Option (List Da)} {ta tb : TE} {a b : WT Ar} (hr : OpT r f) (ha : IO c ta a) (hb : IO c tb b) : IT c (tOp r ta tb) (tB2T f a b) := ⟨fun F O ρ σ H Q P Px w ht hP hX =>
  ha.run F O ρ σ H _ _ Px w ht (fun x ρ1 h1 F1 O1 v H1 s1 w1 r1 =>
    hb.run F1 O1 ρ1 σ H1 _ _ Px w1 h1 (fun y ρ2 h2 F2 O2 u H2 s2 w2 r2 => by
      obtain ⟨d, e, g, e1, e2, e3, hp⟩ := h2
      exact hr c F2 O2 ρ2 σ H2 v u d e g Q w2 (w2.res (AR.on w1 s2 r1) e1) (w2.res r2 e2) e3 fun p us hp' ru => by
        obtain ⟨w3, s3⟩ := w2.newT hp' (.lst us)
        exact hP _ _ hp _ _ p us _ ((s1.trans s2).trans s3) w3 upd_same ru (w2.fnone hp') own_same (fresh_of (s1.trans s2) hp'))
      (fun x ρ' p => (hX x ρ' p).back s1)) hX⟩
def pCatL : Da → Da → Option (List Da)
  | .list xs, .list ys => if xs.length + ys.length ≤ 100000 then some (xs ++ ys) else none
  | _, _ => none
theorem opt_cat {K : PySem.W.Frag} : OpT (rAddU K) pCatL := fun c F O ρ σ H x y d e g Q w px py hf k => by
  unfold pCatL at hf
  split at hf
  · split at hf
    case isFalse => cases hf
    case isTrue hl =>
    cases hf
    obtain ⟨a, vs, rfl, h1, r1⟩ := px.list w
    obtain ⟨b, us, rfl, h2, r2⟩ := py.list w
    exact .inr (.inl ⟨a, b, vs, us, rfl, rfl, h1, h2, by rw [r1.len, r2.len]; exact line5 hl, fun p hp => k p _ hp (RpL.app r1 r2)⟩)
  · cases hf
def pRepL : Da → Da → Option (List Da)
  | .list xs, .int k => if 0 ≤ k ∧ xs.length * k.toNat ≤ 100000 ∧ k < 2 ^ 60 then some (List.replicate k.toNat xs).flatten else none
  | _, _ => none
theorem opt_rep {K : PySem.W.Frag} : OpT (rMulU K) pRepL := fun c F O ρ σ H x y d e g Q w px py hf k => by
  unfold pRepL at hf
  split at hf
  · split at hf
    case isFalse => cases hf
    case isTrue hl =>
    cases hf
    obtain ⟨a, vs, rfl, h1, r1⟩ := px.list w
    cases py.int
    exact .inr (.inl ⟨a, _, vs, rfl, rfl, h1, by omega, by omega, by rw [r1.len]; exact line5 hl.2.1, fun p hp => k p _ hp (RpL.rep r1 _)⟩)
  · cases hf

/-! ### list(range(..)), tuple(range(..)) -/
theorem rgV_rng {F : Hp} (lo hi : Int) : RpL F (rgV lo hi) (rng lo (hi - lo).toNat) := by
  have : rgV lo hi = ((List.range (hi - lo).toNat).map fun (i : Nat) => lo + (i : Int)).map V.int := by unfold rgV; rw [List.map_map]; rfl
  rw [this, ints_rng]
  exact RpL.ints _
structure IRg (c : Cf) (t : L2.St → Hp → (Int → Int → Hp → Prop) → Prop) (T : WT (Int × Int)) : Prop where
  run : ∀ F O ρ σ H (Q : Int → Int → Hp → Prop) (P : Int × Int → En → Prop) (Px : Ex → En → Prop), W c.ca F O ρ σ H → T ρ P Px →
    (∀ b ρ', P b ρ' → ∀ F' O' H', Stp F O H F' O' H' → W c.ca F' O' ρ' σ H' → Q b.1 b.2 H') → (∀ x ρ', Px x ρ' → PXp c F O σ H x ρ') → t σ H Q
def tR1 (a : WT Ar) : WT (Int × Int) := fun ρ P Px => a ρ (fun x ρ1 => ∃ j, res x ρ1 = some (.int j) ∧ P (0, j) ρ1) Px
def tR2 (a b : WT Ar) : WT (Int × Int) := fun ρ P Px => a ρ (fun x ρ1 => b ρ1 (fun y ρ2 => ∃ i j, res x ρ2 = some (.int i) ∧ res y ρ2 = some (.int j) ∧ P (i, j) ρ2) Px) Px
theorem irg_1 {ta : TE} {a : WT Ar} (h : IO c ta a) : IRg c (L2.tRg1 ta) (tR1 a) := ⟨fun F O ρ σ H Q P Px w ht hP hX =>
  h.run F O ρ σ H _ _ Px w ht (fun x ρ1 q F1 O1 v H1 s1 w1 r1 => by
    obtain ⟨j, e, hp⟩ := q
    cases (w1.res r1 e).int
    exact ⟨j, rfl, hP _ _ hp F1 O1 H1 s1 w1⟩) hX⟩
theorem irg_2 {ta tb : TE} {a b : WT Ar} (h : IO c ta a) (h2 : IO c tb b) : IRg c (L2.tRg2 ta tb) (tR2 a b) := ⟨fun F O ρ σ H Q P Px w ht hP hX =>
  h.run F O ρ σ H _ _ Px w ht (fun x ρ1 q F1 O1 v H1 s1 w1 r1 =>
    h2.run F1 O1 ρ1 σ H1 _ _ Px w1 q (fun y ρ2 q2 F2 O2 u H2 s2 w2 r2 => by
      obtain ⟨i, j, e1, e2, hp⟩ := q2
      have r1' := w2.res (AR.on w1 s2 r1) e1
      cases r1'.int
      cases (w2.res r2 e2).int
      exact ⟨i, j, rfl, rfl, hP _ _ hp F2 O2 H2 (s1.trans s2) w2⟩) fun x ρ' p => (hX x ρ' p).back s1) hX⟩
def tLRg (r : WT (Int × Int)) : WT (List Da) := fun ρ P Px => r ρ (fun b ρ1 => -100000 ≤ b.1 ∧ b.2 ≤ 100000 ∧ b.1 ≤ 100000 ∧ -100000 ≤ b.2 ∧ P (rng b.1 (b.2 - b.1).toNat) ρ1) Px
theorem it_lrg {t : L2.St → Hp → (Int → Int → Hp → Prop) → Prop} {r : WT (Int × Int)} (h : IRg c t r) : IT c (tLstRg t) (tLRg r) := ⟨fun F O ρ σ H Q P Px w ht hP hX =>
  h.run F O ρ σ H _ _ Px w ht (fun b ρ1 q F1 O1 H1 s1 w1 => by
    obtain ⟨h0, h1, h2, h3, hp⟩ := q
    refine ⟨⟨by omega, by omega, by omega, by omega, by omega⟩, fun p hp' => ?_⟩
    obtain ⟨w2, s2⟩ := w1.newT hp' (.lst (rgV b.1 b.2))
    exact hP _ _ hp _ _ p _ _ (s1.trans s2) w2 upd_same (rgV_rng _ _) (w1.fnone hp') own_same (fresh_of s1 hp')) hX⟩
def tTRg (r : WT (Int × Int)) : WT Da := fun ρ P Px => r ρ (fun b ρ1 => -100000 ≤ b.1 ∧ b.2 ≤ 100000 ∧ b.1 ≤ 100000 ∧ -100000 ≤ b.2 ∧ P (.tuple (rng b.1 (b.2 - b.1).toNat)) ρ1) Px
theorem ie_trg {t : L2.St → Hp → (Int → Int → Hp → Prop) → Prop} {r : WT (Int × Int)} (h : IRg c t r) : IE c (tTupRg t) (tTRg r) := ⟨fun F O ρ σ H Q P Px w ht hP hX =>
  h.run F O ρ σ H _ _ Px w ht (fun b ρ1 q F1 O1 H1 s1 w1 => by
    obtain ⟨h0, h1, h2, h3, hp⟩ := q
    refine ⟨⟨by omega, by omega, by omega, by omega, by omega⟩, ?_⟩
    exact new_tup w1 (rgV_rng b.1 b.2) fun F' O' v H' s' w' r' => hP _ _ hp F' O' v H' (s1.trans s') w' r') hX⟩
end
end Ip
end
section
set_option Elab.async false
set_option linter.all false
/-! set(xs) of a list of ints, its sorted members, their number. -/
namespace L2
open PySem PySem.Spec PyProof.Rows
section
variable {P : Program} {w : World} {A : Around} {E : Value → Shared → Prop} {s : Shared}
/-- a set as it is made: empty -/
abbrev newSetO (w : World) : Obj := { cls := .type "set", dict := none, data := .set #[] 0 (.fresh 0 0 (!w.params.followText "set-order")) }
set_option maxRecDepth 100000 in
set_option maxHeartbeats 3200000 in
/-- set(l), a list of ints: which are in, in the order that the library's own set lays them -/
theorem set_of_list {l : Addr} {items : Array Value} (ns : List Int) {Q : Value → Shared → Prop} (hh : A.handled = none) (hl : s.heap.IsList l items) (hit : IntsAre items.toList ns) (hb : ns.length + 1 < scanBound)
    (h : ∀ (h' : Heap) (tk c : Nat), SetR w h' s.heap.objs.size (fun j => decide (j ∈ ns)) c → c ≤ ns.length → (∀ b o, s.heap.get? b = some o → h'.get? b = some o) → Q (.ref s.heap.objs.size) { s with heap := h', toks := tk }) :
    wpAny (model P w) A (call (.type "set") [.ref l]) Q E s := by
  have hisz : items.size = ns.length := by simpa using IntsAre.length hit
  obtain ⟨c, tl, hmro⟩ := F.called_set.mro
  have hmade := F.called_set.made
  have hsub := F.called_set.sub
  refine wpAny_call (codeAny_of_tree ?_)
  show wpAny _ _ (callAny (.type "set") _) _ _ _
  refine wpAny_pure ⟨Code.quiet_builtin _ (by decide +kernel), codeAny_builtin F.entry_type_call ?_⟩
  rw [Around.under_plain (weight_type_call_type "set" [.ref l] []) rfl]
  have h1 := F.called_set.notType
  have h2 := F.called_set.canCreate
  have hct := F.typeCall_set_1 (.ref l)
  repeat (any_goals (first | assumption | wp_step))
  refine codeAny_mono (code_set_led1 (.ref l) (E := E) (Q₁ := fun obj s₁ => obj = .ref s.heap.objs.size ∧ s₁ = { s with heap := s.heap.push (newSetO w) }) ⟨rfl, rfl⟩) fun r s₁ hr => ?_
  match r, hr with
  | .error e, hr => exact hr
  | .ok .next, hr => exact hr.elim
  | .ok .brk, hr => exact hr.elim
  | .ok .cont, hr => exact hr.elim
  | .ok (.ret obj), hr =>
    obtain ⟨rfl, rfl⟩ := hr
    have hS : (s.heap.push (newSetO w)).get? s.heap.objs.size = some (newSetO w) := Heap.get?_push_size _ rfl
    have hT : Shared.TypeIs { s with heap := s.heap.push (newSetO w) } (.ref s.heap.objs.size) "set" := ⟨_, hS, rfl⟩
    have hli := F.called_set.init.lookup
    have hbi := F.called_set.init.bind (.ref s.heap.objs.size)
    repeat (any_goals (first | assumption | wp_step))
    refine codeAny_mono (codeAny_call_builtin (R := wants (fun r s₂ => r = .none ∧ ∃ h' tk c, s₂ = { s with heap := h', toks := tk } ∧ SetR w h' s.heap.objs.size (fun j => decide (j ∈ ns)) c ∧ c ≤ ns.length ∧
        (∀ b o, s.heap.get? b = some o → h'.get? b = some o)) E) F.called_set.init.plain F.entry_set_init (check_set_init_1 hT ?_)) fun r₂ s₂ hr₂ => ?_
    · obtain ⟨⟨ocls, odict, odata, oslots⟩, hol, hcl, nl, hdl⟩ := hl
      simp only at hcl hdl
      subst hcl hdl
      have hol' := Heap.get?_push_of_some (newSetO w) hol
      have hsls := F.sub_list_set
      have hslf := F.sub_list_frozenset
      have hne : (Value.type "list" == Value.type "dict") = false := by decide
      have hl1 : (s.heap.push (newSetO w)).IsList l items := ⟨_, hol', rfl, nl, rfl⟩
      unfold Builtin.«set.__init__» noKeywords Builtin.Frozenset.updateFrom
      generalize hPI : pyIter = PI
      wp_walk
      subst hPI
      refine wpAny_pyIter_list hl1 (wpAny_bind (wpAny_runValue ?_))
      have hlS : l < s.heap.objs.size := Heap.lt_size hol
      have hz1 : (s.heap.push (newSetO w)).objs.size = s.heap.objs.size + 1 := Heap.size_push ..
      have hneI : l ≠ (s.heap.push (newSetO w)).objs.size := by rw [hz1]; exact Nat.ne_of_lt (Nat.lt_succ_of_lt hlS)
      have hSf : s.heap.objs.size ∉ [(s.heap.push (newSetO w)).objs.size, l] := by
        rw [hz1]
        simp only [List.mem_cons, List.not_mem_nil, or_false, not_or]
        exact ⟨Nat.ne_of_lt (Nat.lt_succ_self _), Nat.ne_of_gt hlS⟩
      have hval : ∀ (i : Nat) (v : Value), items[i]? = some v → ∃ k t, ns[i]? = some k ∧ v = .int k t := fun i v hv => by
        have hi : i < ns.length := by rw [← hisz]; exact (Array.getElem?_eq_some_iff.mp hv).1
        obtain ⟨t, e⟩ := PyProof.Rows.IntsAre.int_at hit i v (by rw [Array.getElem?_toList]; exact hv)
        refine ⟨ns[i], t, List.getElem?_eq_getElem hi, ?_⟩
        rw [e, List.getD_eq_getElem?_getD, List.getElem?_eq_getElem hi] <;> rfl
      refine set_update_ints ((Walks.list (show A.in1.in1.in1.handled = none from hh) _ l hneI items).toS) s.heap.objs.size
        hSf ns hisz hb hval (items.size - 0) 0 _ (by omega) (Nat.zero_le _)
        ⟨⟨_, Heap.get?_push_size _ rfl, rfl, rfl⟩, (hl1.push _)⟩ ⟨0, Nat.le_refl 0, setR_new_at (Heap.get?_push_of_some _ hS)⟩ ?_
      intro s' c' hm hc' hS'
      obtain ⟨h', g2, d', tk', os'⟩ := s'
      have eg : g2 = s.gens := hm.gens
      have ed : d' = s.drawn := hm.drawn
      have eo : os' = s.os := hm.os
      subst eg ed eo
      refine wpAny_pure ?_
      show wpAny _ _ (ret Value.none) _ _ _
      rw [hisz] at hc'
      refine wpAny_pure ⟨rfl, h', tk', c', rfl, hS', hc', fun b o e => ?_⟩
      have hb0 : b < s.heap.objs.size := Heap.lt_size e
      refine hm.heap b o ?_ (Heap.get?_push_of_some _ (Heap.get?_push_of_some _ e))
      simp only [List.mem_cons, List.not_mem_nil, or_false, not_or]
      exact ⟨Nat.ne_of_lt hb0, by rw [hz1]; exact Nat.ne_of_lt (Nat.lt_succ_of_lt hb0)⟩
    · match r₂, hr₂ with
      | .error e, hr₂ => exact hr₂
      | .ok .next, hr₂ => exact hr₂.elim
      | .ok .brk, hr₂ => exact hr₂.elim
      | .ok .cont, hr₂ => exact hr₂.elim
      | .ok (.ret r), hr₂ =>
        obtain ⟨rfl, h', tk, c', rfl, hS', hc', hk'⟩ := hr₂
        repeat (any_goals (first | assumption | wp_step))
        exact h _ _ _ hS' hc' hk'
end
end L2
namespace Ip
open PySem L2
theorem asc_same : ∀ {a b : List Int}, a.Pairwise (· < ·) → b.Pairwise (· < ·) → (∀ k, k ∈ a ↔ k ∈ b) → a = b
  | [], [], _, _, _ => rfl
  | [], y :: ys, _, _, h => absurd ((h y).mpr List.mem_cons_self) (by simp)
  | x :: xs, [], _, _, h => absurd ((h x).mp List.mem_cons_self) (by simp)
  | x :: xs, y :: ys, ha, hb, h => by
    have ha' := List.pairwise_cons.mp ha
    have hb' := List.pairwise_cons.mp hb
    have e : x = y := by
      have h1 := (h x).mp List.mem_cons_self
      have h2 := (h y).mpr List.mem_cons_self
      rcases List.mem_cons.mp h1 with h1 | h1
      · exact h1
      · rcases List.mem_cons.mp h2 with h2 | h2
        · exact h2.symm
        · have := hb'.1 x h1
          have := ha'.1 y h2
          omega
    subst e
    congr 1
    refine asc_same ha'.2 hb'.2 fun k => ⟨fun m => ?_, fun m => ?_⟩
    · rcases List.mem_cons.mp ((h k).mp (List.mem_cons_of_mem _ m)) with e | m'
      · subst e; exact absurd (ha'.1 k m) (Int.lt_irrefl _)
      · exact m'
    · rcases List.mem_cons.mp ((h k).mpr (List.mem_cons_of_mem _ m)) with e | m'
      · subst e; exact absurd (hb'.1 k m) (Int.lt_irrefl _)
      · exact m'
/-- insertion into an ascending list of unlike ints -/
def insA (x : Int) : List Int → List Int
  | [] => [x]
  | y :: ys => if x < y then x :: y :: ys else if x = y then y :: ys else y :: insA x ys
/-- the members in order, each once -/
def srtd : List Int → List Int
  | [] => []
  | x :: xs => insA x (srtd xs)
theorem mem_insA {x k : Int} : ∀ {l : List Int}, k ∈ insA x l ↔ k = x ∨ k ∈ l
  | [] => by simp [insA]
  | y :: ys => by
    unfold insA
    split
    · simp
    · split
      · rename_i _ e; subst e; simp
      · rw [List.mem_cons, mem_insA, List.mem_cons]
        constructor
        · rintro (h | h | h) <;> simp [h]
        · rintro (h | h | h) <;> simp [h]
theorem insA_asc {x : Int} : ∀ {l : List Int}, l.Pairwise (· < ·) → (insA x l).Pairwise (· < ·)
  | [], _ => by simp [insA]
  | y :: ys, h => by
    have h' := List.pairwise_cons.mp h
    unfold insA
    split
    · rename_i hx
      refine List.pairwise_cons.mpr ⟨fun z hz => ?_, h⟩
      rcases List.mem_cons.mp hz with e | m
      · omega
      · have := h'.1 z m; omega
    · split
      · exact h
      · rename_i h1 h2
        refine List.pairwise_cons.mpr ⟨fun z hz => ?_, insA_asc h'.2⟩
        rcases mem_insA.mp hz with e | m
        · omega
        · exact h'.1 z m
theorem mem_srtd {k : Int} : ∀ {l : List Int}, k ∈ srtd l ↔ k ∈ l
  | [] => by simp [srtd]
  | x :: xs => by unfold srtd; rw [mem_insA, mem_srtd, List.mem_cons]
theorem srtd_asc : ∀ l : List Int, (srtd l).Pairwise (· < ·)
  | [] => by simp [srtd]
  | x :: xs => insA_asc (srtd_asc xs)
theorem nodup_sub : ∀ (a b : List Int), a.Nodup → (∀ x, x ∈ a → x ∈ b) → a.length ≤ b.length
  | [], _, _, _ => Nat.zero_le _
  | x :: a, b, nd, h => by
    have nd' := List.nodup_cons.mp nd
    have hx := h x List.mem_cons_self
    have := nodup_sub a (b.erase x) nd'.2 fun y hy => (List.mem_erase_of_ne (fun e => nd'.1 (by rw [← e]; exact hy))).mpr (h y (List.mem_cons_of_mem _ hy))
    rw [List.length_erase_of_mem hx] at this
    have := List.length_pos_of_mem hx
    rw [List.length_cons]
    omega
theorem srtd_nodup (l : List Int) : (srtd l).Nodup := (srtd_asc l).imp (fun h => Int.ne_of_lt h)
theorem srtd_len (l : List Int) : (srtd l).length ≤ l.length := nodup_sub _ _ (srtd_nodup l) fun _ h => mem_srtd.mp h
end Ip
namespace L2
open PySem PySem.Spec PyProof.Rows
def rSetOfL (K : PySem.W.Frag) (w : World) : List V → Hp → VK → Prop := fun vs H Q => ∃ (a : Addr) (ns : List Int), vs = [V.ref a] ∧ SqL K H a (ns.map V.int) ∧ ns.length ≤ 1000 ∧
  ∀ p, H p = none → Q (.ref p) (upd H p (SetO w p (fun j => decide (j ∈ ns)) (Ip.srtd ns).length))
theorem cr_setL {X : Cx} (hc : X.calm = true) : CallR X (.type "set") (rSetOfL X.K X.w) := by
  intro pins s σ H vs us Q I r h
  obtain ⟨a, ns, rfl, ha, hz, q⟩ := h
  rw [Vals.ref1 r]
  obtain ⟨its, rv, pl, _⟩ := I.list ha
  have hit : IntsAre its.toArray.toList ns := by simpa using Vals.ints rv
  refine set_of_list ns (I.ok.hd hc) pl.isList hit (by unfold scanBound; omega) fun h' tk c hS hc' hk => ?_
  have hn : H s.heap.objs.size = none := I.hok.fresh (Nat.le_refl _)
  have ec : c = (Ip.srtd ns).length := by
    obtain ⟨o, es, ep, t, _, _, _, _, nd, hm, _, _, hn, _⟩ := hS
    have e1 : (es.toList.map keyOf).length = c := by rw [List.length_map, ← hn]; simp
    have h1 := Ip.nodup_sub (es.toList.map keyOf) (Ip.srtd ns) nd fun x hx => Ip.mem_srtd.mpr (of_decide_eq_true ((hm x).mpr hx))
    have h2 := Ip.nodup_sub (Ip.srtd ns) (es.toList.map keyOf) (Ip.srtd_nodup ns) fun x hx => (hm x).mp (decide_eq_true (Ip.mem_srtd.mp hx))
    omega
  subst ec
  exact ⟨.ref s.heap.objs.size, _, I.laid hk (Nat.le_refl _) (setO_new hS), rfl, q _ hn⟩
/-- len of a set of ints -/
def rLenSetO (w : World) : List V → Hp → VK → Prop := fun vs H Q => ∃ (a : Addr) (S : Int → Bool) (n : Nat), vs = [V.ref a] ∧ H a = some (SetO w a S n) ∧ Q (.int n) H
theorem cr_lenSetO {X : Cx} : CallR X (.builtin "len") (rLenSetO X.w) := by
  intro pins s σ H vs us Q I r h
  obtain ⟨a, S, n, rfl, ha, q⟩ := h
  rw [Vals.ref1 r]
  obtain ⟨o, es, ep, t, ho, hex, hd, _, _, _, hb, hf, hn, _⟩ := setO_get I ha
  have hb : es.size < 4096 := by unfold scanBound at hb; omega
  exact call_len_set ho hex hd hf (by omega) ⟨.int n, H, I.tok _, ⟨_, by rw [hn]⟩, q⟩
end L2
namespace Ip
open PySem L2
section
variable {c : Cf}
def tSrtSet (a : WT Ar) : WT (List Da) := fun ρ P Px => a ρ (fun x ρ1 => ∃ ns, res x ρ1 = some (.list (ns.map .int)) ∧ ns.length < 64 ∧ P ((srtd ns).map .int) ρ1) Px
theorem it_sortedSet {K : PySem.W.Frag} {w : World} {ta : TE} {a : WT Ar} (h : IO c ta a) : IT c (tCB (rSortedSet w) (tCons (tCB (rSetOfL K w) (tCons ta tNil)) tNil)) (tSrtSet a) := ⟨fun F O ρ σ H Q P Px w' ht hP hX =>
  h.run F O ρ σ H _ _ Px w' ht (fun x ρ1 q F1 O1 v H1 s1 w1 r1 => by
    obtain ⟨ns, e, hl, hp⟩ := q
    obtain ⟨b, vs, rfl, hb, r⟩ := (w1.res r1 e).list w1
    rw [r.ints_inv] at hb
    refine ⟨b, ns, rfl, .inl (.inl hb), by omega, fun p hp' => ?_⟩
    obtain ⟨w2, s2⟩ := w1.newT hp' (SetO w p (fun j => decide (j ∈ ns)) (srtd ns).length)
    have hk := srtd_len ns
    refine ⟨p, _, _, rfl, upd_same, by omega, fun ms p2 ho hm hlen hn2 => ?_⟩
    have e2 : ms = srtd ns := asc_same ho (srtd_asc ns) fun z => by rw [hm z, mem_srtd]; simp
    subst e2
    obtain ⟨w3, s3⟩ := w2.newT hn2 (.lst ((srtd ns).map V.int))
    exact hP _ _ hp _ _ p2 _ _ ((s1.trans s2).trans s3) w3 upd_same (RpL.ints _) (w2.fnone hn2) own_same (fresh_of (s1.trans s2) hn2)) hX⟩
def tLenSet (a : WT Ar) : WT Da := fun ρ P Px => a ρ (fun x ρ1 => ∃ ns, res x ρ1 = some (.list (ns.map .int)) ∧ ns.length < 64 ∧ P (.int (srtd ns).length) ρ1) Px
theorem ie_lenSet {K : PySem.W.Frag} {w : World} {ta : TE} {a : WT Ar} (h : IO c ta a) : IE c (tCB (rLenSetO w) (tCons (tCB (rSetOfL K w) (tCons ta tNil)) tNil)) (tLenSet a) := ⟨fun F O ρ σ H Q P Px w' ht hP hX =>
  h.run F O ρ σ H _ _ Px w' ht (fun x ρ1 q F1 O1 v H1 s1 w1 r1 => by
    obtain ⟨ns, e, hl, hp⟩ := q
    obtain ⟨b, vs, rfl, hb, r⟩ := (w1.res r1 e).list w1
    rw [r.ints_inv] at hb
    refine ⟨b, ns, rfl, .inl (.inl hb), by omega, fun p hp' => ?_⟩
    obtain ⟨w2, s2⟩ := w1.newT hp' (SetO w p (fun j => decide (j ∈ ns)) (srtd ns).length)
    exact ⟨p, _, _, rfl, upd_same, hP _ _ hp _ _ _ _ (s1.trans s2) w2 (.int _)⟩) hX⟩
end
end Ip
end
section
set_option Elab.async false
set_option linter.all false
set_option maxRecDepth 100000
/-! More constructs. -/
namespace L2
open PySem PySem.Spec PyProof.Rows
theorem hu64 {k : Nat} {A : Around} (r : Room k A) : A.units + 64 < cLine := r.units
theorem hu65 {k : Nat} {A : Around} (r : Room k A) : A.units + 65 < cLine := by have := r.un; omega
/-- f(k = v, ..) -/
theorem pe_callK0 {X : Cx} {CX : CXT} {k : Nat} {f : Addr} {fd : FuncData} {ps ks : List Str} {sp : Sp} {E : XK} {x : Str} {p pos : Pos} {kws : List Keyword} {tk : TA} {g : List Value → List Value → List Value} {gV : List V → List V → List V}
    (F : FnOk X.prog X.w X.K X.mg X.base CX k f fd ps sp) (hr : Room k X.A) (hg : Gl X x) (hm : X.mg x = some (.ref f)) (hk : PySem.W.keepIn X.K (.ref f) = true) (hb : KBinds X.K fd ps ks g gV) (hx : Passes CX X E) (hkw : PK X kws tk)
    (hall : (backToKw pos (keywordEach kws X.env)).all (·.1.isSome) = true := by rfl) (hks : (backToKw pos (keywordEach kws X.env)).filterMap (·.1) = ks := by rfl) (hdb : (x == ("__debug__" : Str)) = false := by decide)
    (hpl : ((backTo pos (starEach [] X.env)).any (·.1) || (backToKw pos (keywordEach kws X.env)).any (·.1.isNone)) = false := by rfl) :
    PE X (.Call (.Name x p) [] kws pos) (tCallK sp gV E tNil tk) := by
  refine ⟨fun pins s σ H Q I h => ?_⟩
  refine wpAny_Call_Name_kw (ld_glob I hg hm ?_ hdb)
  refine PySem.W.callWith_KW0 (h₀ := X.base) I.ok.mod.kin hk hall ?_ hpl
  refine thn (hkw.run pos pins s σ H _ I h) fun ws s2 ⟨zs, H2, I2, rz, q2⟩ => ⟨I2.kIn, ?_⟩
  rw [hks]
  exact run_fnk F hr hb hx I2 (us := []) (vs := []) .nil rz q2
theorem kb_of {K : PySem.W.Frag} {x qual : Str} {st : Stmt} {f : Addr} {fd : FuncData} {ps ks : List Str} {g : List Value → List Value → List Value} {gV : List V → List V → List V} (F : Fun K x qual st f fd)
    (h : ∀ (kV doc pm : Value) (an : Option Addr) (cdv ct : Value) (us ws : List Value), (g us ws).length = ps.length → bindArgs (PySem.W.fnOf x qual (defArgs st) (defBody st) (defScope st) .none kV doc pm an cdv ct) ⟨us, ks.zip ws⟩ = pure (ps.zip (g us ws)))
    (rel : ∀ {vs : List V} {us : List Value} {zs : List V} {ws : List Value}, Vals vs us → Vals zs ws → Vals (gV vs zs) (g us ws)) : KBinds K fd ps ks g gV := by
  obtain ⟨oc, od, kV, doc, pm, an, cdv, ct, osl, rfl, lk, hcd⟩ := F.ex
  exact ⟨fun s us ws _ hl => .of_eq (h kV doc pm an cdv ct us ws hl), rel⟩
/-- repr of a bool -/
def boolText (b : Bool) : Str := if b then "True" else "False"
theorem call_reprB {X : Cx} : CallR X (.builtin "repr") (fun xs H Q => ∃ b, xs = [.bl b] ∧ Q (.str (boolText b)) H) := by
  intro pins s σ H xs us Q I r h
  obtain ⟨b, rfl, q⟩ := h
  obtain ⟨u, rfl, r1⟩ := vals1 r
  cases r1
  exact P.repr_of_bool ⟨.str (boolText b), H, I.tok _, ⟨_, rfl⟩, q⟩
end L2
namespace Ip
open PySem L2 PySem.Spec PyProof.Rows
section
variable {P : Program} {w : World} {K : PySem.W.Frag} {mg : Str → Option Value} {base : Heap}
/-- a def of which nothing is asked -/
theorem fn_never {x qual : Str} {st : Stmt} {f : Addr} {fd : FuncData} {N ps : List Str} {xc : Nat → Addr} {pins : List Nat} (Fu : Fun K x qual st f fd) (S : FnScope N ps (defScope st)) :
    FnOk P w K mg base CX0 1 f fd ps (spOf K xc pins ps.length (fun _ _ _ => False)) :=
  Fu.ok (k := 0) S (fun vs H Q E h => h.1) (fun cdv A outer s H vs Q E hr h => by obtain ⟨_, _, _, _, _, _, _, _, hf, _⟩ := h; exact hf.elim)
end
section
variable {c : Cf} {te ta tb : TE} {A B : WT Da} {a b : WT Ar} {C : WT Bool}
def pNeg : Da → Option Da
  | .int i => some (.int (-i))
  | _ => none
theorem uns_neg : UnS (rU fun i => .int (-i)) pNeg := fun c F O ρ σ H x d g Q w px hf k => by
  cases d <;> first | (cases hf; done) | skip
  cases hf
  cases px.int
  exact ⟨_, rfl, k F O _ H (Stp.refl _ _ _) w (.int _)⟩
def pPow : Da → Da → Option Da := pInt2 (fun i j => 0 ≤ j ∧ j ≤ 1000000 ∧ i.natAbs < 2 ^ 64) (fun i j => i ^ j.toNat)
theorem ops_pow : OpS (rI CPow fun i j => .int (i ^ j.toNat)) pPow := ops_int2 fun _ _ h => h
def tYesD : WT Bool := fun ρ P _ => P true ρ
theorem ib_yes : IB c tYes tYesD := ⟨fun F O ρ σ H Q P Px w ht hP hX => hP _ _ ht F O H (Stp.refl _ _ _) w⟩
def tIteT (C : WT Bool) (A B : WT (List Da)) : WT (List Da) := fun ρ P Px => C ρ (fun b ρ1 => (b = true ∧ A ρ1 P Px) ∨ (b = false ∧ B ρ1 P Px)) Px
theorem it_if {tt : TT} {A B : WT (List Da)} (hc : IB c tt C) (ha : IT c ta A) (hb : IT c tb B) : IT c (tIf tt ta tb) (tIteT C A B) := ⟨fun F O ρ σ H Q P Px w ht hP hX =>
  hc.run F O ρ σ H _ _ Px w ht (fun x ρ1 h1 F1 O1 H1 s1 w1 => by
    have back : ∀ {a : Addr}, (H1 a = none ∨ O1 a ≠ none) → (H a = none ∨ O a ≠ none) := fun {a} hn => by
      cases q : H a with
      | none => exact .inl rfl
      | some o =>
        refine .inr fun n => ?_
        rcases hn with hn | hn
        · rw [s1.keep a o q n] at hn; cases hn
        · exact hn (s1.no a (by rw [q]; exact fun z => nomatch z) n)
    rcases h1 with ⟨rfl, h1⟩ | ⟨rfl, h1⟩
    · rw [if_pos rfl]
      exact ha.run F1 O1 ρ1 σ H1 Q P Px w1 h1 (fun y ρ2 h2 F2 O2 u vs H2 s2 w2 e r hf ho hn => hP _ _ h2 F2 O2 u vs H2 (s1.trans s2) w2 e r hf ho (back hn)) (fun x ρ' p => (hX x ρ' p).back s1)
    · rw [if_neg (by decide)]
      exact hb.run F1 O1 ρ1 σ H1 Q P Px w1 h1 (fun y ρ2 h2 F2 O2 u vs H2 s2 w2 e r hf ho hn => hP _ _ h2 F2 O2 u vs H2 (s1.trans s2) w2 e r hf ho (back hn)) (fun x ρ' p => (hX x ρ' p).back s1)) hX⟩
/-! ### stars -/
def tAst (a : WT Ar) (as : WT (List Ar)) : WT (List Ar) := fun ρ P Px => a ρ (fun x ρ1 => ∃ d ds, res x ρ1 = some d ∧ seqD d = some ds ∧ as ρ1 (fun xs ρ2 => P (ds.map .v ++ xs) ρ2) Px) Px
theorem AL.of_rp {F : Hp} {σ : L2.St} : ∀ {ds : List Da} {vs us : List V} {xs : List Ar}, RpL F vs ds → AL F σ us xs → AL F σ (vs ++ us) (ds.map .v ++ xs)
  | [], _, _, _, h, g => by cases h; exact g
  | d :: ds, _, _, _, h, g => by
    cases h with
    | cons h1 h2 => exact ⟨h1, AL.of_rp h2 g⟩
theorem ia_star {K : PySem.W.Frag} {t : TA} {as : WT (List Ar)} (h1 : IO c te a) (h2 : IA c t as) : IA c (StX.tStar K te t) (tAst a as) := ⟨fun F O ρ σ H Q P Px w ht hP hX =>
  h1.run F O ρ σ H _ _ Px w ht (fun x ρ1 h1 F1 O1 v H1 s1 w1 r1 => by
    obtain ⟨d, ds, e, es, h1⟩ := h1
    obtain ⟨p, vs, rfl, sq, r⟩ := (w1.res r1 e).seq (K := K) w1 es
    refine ⟨p, vs, rfl, sq.symm, ?_⟩
    exact h2.run F1 O1 ρ1 σ H1 _ _ Px w1 h1 (fun xs ρ2 h2 F2 O2 us H2 s2 w2 r2 => hP _ _ h2 F2 O2 _ H2 (s1.trans s2) w2 (AL.of_rp (RpL.mono (w1.ext s2) _ _ r) r2)) (fun x ρ' p => (hX x ρ' p).back s1)) hX⟩

/-! ### comprehensions of two clauses -/
def lc2L (G : WG) (Tt : WT Bool) (T1 : WT (List Da)) (G1 : WG) (Tt1 : WT Bool) (A : WT Da) (vs vs1 : List Nat) (P : List Da → En → Prop) : List Da → List Da → En → Prop
  | acc, [], ρ => P acc ρ
  | acc, d :: ds, ρ => G d (wipeE ρ vs) (fun ρ2 => Tt ρ2 (fun b ρ3 => (b = true ∧ T1 ρ3 (fun es ρ4 => lcL G1 Tt1 A vs1 (fun acc' ρ5 => lc2L G Tt T1 G1 Tt1 A vs vs1 P acc' ds (backE ρ ρ5 vs)) (fun _ _ => False) acc es ρ4) (fun _ _ => False)) ∨
      (b = false ∧ lc2L G Tt T1 G1 Tt1 A vs vs1 P acc ds (backE ρ ρ3 vs))) (fun _ _ => False))
def tLc2D (T : WT (List Da)) (G : WG) (Tt : WT Bool) (T1 : WT (List Da)) (G1 : WG) (Tt1 : WT Bool) (A : WT Da) (vs vs1 : List Nat) : WT (List Da) := fun ρ P Px => T ρ (fun ds ρ1 => lc2L G Tt T1 G1 Tt1 A vs vs1 P [] ds ρ1) Px
theorem it_lc2 {wi wi1 : TI} {T T1 : WT (List Da)} {g g1 : TG} {G G1 : WG} {tt tt1 : TT} {Tt Tt1 : WT Bool} {vs ws vs1 ws1 : List Nat} (hw : ∀ j ∈ ws, j ∈ vs) (hw1 : ∀ j ∈ ws1, j ∈ vs1) (hv : ∀ j ∈ vs1, j ∈ vs)
    (hi : II c wi T) (hg : IG c g G ws) (htt : IB c tt Tt) (hi1 : II c wi1 T1) (hg1 : IG c g1 G1 ws1) (htt1 : IB c tt1 Tt1) (he : IE c te A) :
    IT c (tLc2 wi g tt wi1 g1 tt1 te vs vs1) (tLc2D T G Tt T1 G1 Tt1 A vs vs1) := ⟨fun F O ρ σ H Q P Px w ht hP hX =>
  hi.run F O ρ σ H _ _ _ w ht (fun ds ρ1 q F1 O1 J H1 s1 w1 rn D hD => by
    have fD : F1 D = none := w1.fnone hD
    obtain ⟨w1', s1'⟩ := w1.newT hD (.lst [])
    have fr := fresh_of s1 hD
    refine ⟨fun k m H' => m = ds.length - k ∧ k ≤ ds.length ∧ ∃ F' O' ρ' acc ys, Stp F O H F' O' H' ∧ (∀ a o, F1 a = some o → F' a = some o) ∧ W c.ca F' O' ρ' σ H' ∧ H' D = some (.lst acc) ∧ RpL F' acc ys ∧ F' D = none ∧ O' D = none ∧ lc2L G Tt T1 G1 Tt1 A vs vs1 P ys (ds.drop k) ρ',
      ⟨ds.length, by omega, Nat.zero_le _, F1, own O1 D none, ρ1, [], [], s1.trans s1', fun _ _ h => h, w1', upd_same, .nil, fD, own_same, q⟩, ?_⟩
    rintro k m H' ⟨rfl, hk, F', O', ρ', acc, ys, s', ext, w', hD', ra, fD', oD', hf⟩
    by_cases hlt : k < ds.length
    · rw [List.drop_eq_getElem_cons hlt] at hf
      have e1 : ds[k]? = some ds[k] := List.getElem?_eq_getElem hlt
      obtain ⟨go, yl⟩ := rn.turn F' O' ρ' σ H' k ds[k] ext w' e1
      refine .inr ⟨go, fun H2 => k + 1 ≤ ds.length ∧ ∃ F' O' ρ' acc ys, Stp F O H F' O' H2 ∧ (∀ a o, F1 a = some o → F' a = some o) ∧ W c.ca F' O' ρ' σ H2 ∧ H2 D = some (.lst acc) ∧ RpL F' acc ys ∧ F' D = none ∧ O' D = none ∧ lc2L G Tt T1 G1 Tt1 A vs vs1 P ys (ds.drop (k + 1)) ρ',
        fun H2 h => ⟨ds.length - (k + 1), by omega, rfl, h.1, h.2⟩, fun x H2 hy => ?_⟩
      obtain ⟨F2, O2, s2, w2, r2⟩ := yl x H2 hy
      have D2 := s2.keep D _ hD' oD'
      have O2D := s2.no D (by rw [hD']; exact fun z => nomatch z) oD'
      have F2D : F2 D = none := by rw [s2.nf D (by rw [hD']; exact fun z => nomatch z) oD']; exact fD'
      refine hg.run F2 O2 (wipeE ρ' vs) (L2.wipe σ vs) H2 x ds[k] _ _ (w2.wipe vs) r2 hf fun ρ3 h3 σ3 w3 o3 => ?_
      have hl3 : σ3.length = σ.length := by rw [o3.1, L2.wipe_length]
      have out3 : ∀ j, j ∉ vs → σ3[j]? = σ[j]? := fun j hj => by rw [o3.2 j (fun z => hj (hw j z)), wipe_get σ vs j hj]
      refine ⟨wipe_eq hl3 out3, ?_⟩
      refine htt.run F2 O2 ρ3 σ3 H2 _ _ _ w3 h3 (fun b ρ4 h4 F4 O4 H4 s4 w4 => ?_) (fun x ρ4 h4 => h4.elim)
      have D4 := s4.keep D _ D2 O2D
      have O4D := s4.no D (by rw [D2]; exact fun z => nomatch z) O2D
      have F4D : F4 D = none := by rw [s4.nf D (by rw [D2]; exact fun z => nomatch z) O2D]; exact F2D
      have sA : Stp F' O' H' F4 O4 H4 := s2.trans s4
      rcases h4 with ⟨rfl, h4⟩ | ⟨rfl, h4⟩
      · rw [if_pos rfl]
        refine hi1.run F4 O4 ρ4 σ3 H4 _ _ _ w4 h4 (fun es ρ5 h5 F5 O5 J1 H5 s5 w5 rn1 => ?_) (fun x ρ4 h4 => h4.elim)
        have D5 := s5.keep D _ D4 O4D
        have O5D := s5.no D (by rw [D4]; exact fun z => nomatch z) O4D
        have F5D : F5 D = none := by rw [s5.nf D (by rw [D4]; exact fun z => nomatch z) O4D]; exact F4D
        have sB : Stp F' O' H' F5 O5 H5 := sA.trans s5
        refine ⟨fun j n H6 => n = es.length - j ∧ j ≤ es.length ∧ ∃ F6 O6 ρ6 acc6 ys6, Stp F O H F6 O6 H6 ∧ (∀ a o, F5 a = some o → F6 a = some o) ∧ (∀ a o, F' a = some o → F6 a = some o) ∧ W c.ca F6 O6 ρ6 σ3 H6 ∧ H6 D = some (.lst acc6) ∧ RpL F6 acc6 ys6 ∧ F6 D = none ∧ O6 D = none ∧
            lcL G1 Tt1 A vs1 (fun acc' ρ5 => lc2L G Tt T1 G1 Tt1 A vs vs1 P acc' (ds.drop (k + 1)) (backE ρ' ρ5 vs)) (fun _ _ => False) ys6 (es.drop j) ρ6,
          ⟨es.length, by omega, Nat.zero_le _, F5, O5, ρ5, acc, ys, s'.trans sB, fun _ _ h => h, w'.ext sB, w5, D5, RpL.mono (w'.ext sB) _ _ ra, F5D, O5D, h5⟩, ?_⟩
        rintro j n H6 ⟨rfl, hj, F6, O6, ρ6, acc6, ys6, s6, ext6, ext6', w6, D6, r6, F6D, O6D, hf6⟩
        by_cases hlt1 : j < es.length
        · rw [List.drop_eq_getElem_cons hlt1] at hf6
          have e6 : es[j]? = some es[j] := List.getElem?_eq_getElem hlt1
          obtain ⟨go1, yl1⟩ := rn1.turn F6 O6 ρ6 σ3 H6 j es[j] ext6 w6 e6
          refine .inr ⟨go1, fun H9 => j + 1 ≤ es.length ∧ ∃ F6 O6 ρ6 acc6 ys6, Stp F O H F6 O6 H9 ∧ (∀ a o, F5 a = some o → F6 a = some o) ∧ (∀ a o, F' a = some o → F6 a = some o) ∧ W c.ca F6 O6 ρ6 σ3 H9 ∧ H9 D = some (.lst acc6) ∧ RpL F6 acc6 ys6 ∧ F6 D = none ∧ O6 D = none ∧
            lcL G1 Tt1 A vs1 (fun acc' ρ5 => lc2L G Tt T1 G1 Tt1 A vs vs1 P acc' (ds.drop (k + 1)) (backE ρ' ρ5 vs)) (fun _ _ => False) ys6 (es.drop (j + 1)) ρ6,
            fun H9 h => ⟨es.length - (j + 1), by omega, rfl, h.1, h.2⟩, fun x7 H7 hy7 => ?_⟩
          obtain ⟨F7, O7, s7, w7, r7⟩ := yl1 x7 H7 hy7
          have D7 := s7.keep D _ D6 O6D
          have O7D := s7.no D (by rw [D6]; exact fun z => nomatch z) O6D
          have F7D : F7 D = none := by rw [s7.nf D (by rw [D6]; exact fun z => nomatch z) O6D]; exact F6D
          refine hg1.run F7 O7 (wipeE ρ6 vs1) (L2.wipe σ3 vs1) H7 x7 es[j] _ _ (w7.wipe vs1) r7 hf6 fun ρ8 h8 σ8 w8 o8 => ?_
          have hl8 : σ8.length = σ3.length := by rw [o8.1, L2.wipe_length]
          have out8 : ∀ i, i ∉ vs1 → σ8[i]? = σ3[i]? := fun i hi' => by rw [o8.2 i (fun z => hi' (hw1 i z)), wipe_get σ3 vs1 i hi']
          refine ⟨wipe_eq hl8 out8, ?_⟩
          refine htt1.run F7 O7 ρ8 σ8 H7 _ _ _ w8 h8 (fun b ρ9 h9 F9 O9 H9 s9 w9 => ?_) (fun x ρ4 h4 => h4.elim)
          have D9 := s9.keep D _ D7 O7D
          have O9D := s9.no D (by rw [D7]; exact fun z => nomatch z) O7D
          have F9D : F9 D = none := by rw [s9.nf D (by rw [D7]; exact fun z => nomatch z) O7D]; exact F7D
          rcases h9 with ⟨rfl, h9⟩ | ⟨rfl, h9⟩
          · rw [if_pos rfl]
            refine he.run F9 O9 ρ9 σ8 H9 _ _ _ w9 h9 (fun y ρx hx Fx Ox v Hx sx wx rx => ?_) (fun x ρ4 h4 => h4.elim)
            have Dx := sx.keep D _ D9 O9D
            have OxD := sx.no D (by rw [D9]; exact fun z => nomatch z) O9D
            have FxD : Fx D = none := by rw [sx.nf D (by rw [D9]; exact fun z => nomatch z) O9D]; exact F9D
            have sC : Stp F6 O6 H6 Fx Ox Hx := (s7.trans s9).trans sx
            refine ⟨acc6, Dx, ?_, hlt1, Fx, Ox, backE ρ6 ρx vs1, acc6 ++ [v], ys6 ++ [y], (s6.trans sC).grow fr, fun a o h => w6.ext sC a o (ext6 a o h), fun a o h => w6.ext sC a o (ext6' a o h), (wx.back w6 (w6.ext sC) hl8 out8).grow _ FxD OxD, upd_same, RpL.app (RpL.mono (w6.ext sC) _ _ r6) (.cons rx .nil), FxD, OxD, hx.2⟩
            rw [r6.len]
            exact Nat.lt_of_lt_of_le hx.1 (by decide)
          · rw [if_neg (by decide)]
            have sC : Stp F6 O6 H6 F9 O9 H9 := s7.trans s9
            exact ⟨hlt1, F9, O9, backE ρ6 ρ9 vs1, acc6, ys6, s6.trans sC, fun a o h => w6.ext sC a o (ext6 a o h), fun a o h => w6.ext sC a o (ext6' a o h), w9.back w6 (w6.ext sC) hl8 out8, D9, RpL.mono (w6.ext sC) _ _ r6, F9D, O9D, h9⟩
        · rw [List.drop_of_length_le (show es.length ≤ j by omega)] at hf6
          exact .inl ⟨rn1.stop F6 O6 ρ6 σ3 H6 j ext6 w6 (by omega), hlt, F6, O6, backE ρ' ρ6 vs, acc6, ys6, s6, fun a o h => ext6' a o (ext a o h), w6.back w' ext6' hl3 out3, D6, r6, F6D, O6D, hf6⟩
      · rw [if_neg (by decide)]
        exact ⟨hlt, F4, O4, backE ρ' ρ4 vs, acc, ys, s'.trans sA, fun a o h => w'.ext sA a o (ext a o h), w4.back w' (w'.ext sA) hl3 out3, D4, RpL.mono (w'.ext sA) _ _ ra, F4D, O4D, h4⟩
    · have ek : k = ds.length := by omega
      rw [List.drop_of_length_le (by omega)] at hf
      exact .inl ⟨rn.stop F' O' ρ' σ H' k ext w' (by omega), hP _ _ hf F' O' D acc H' s' w' hD' ra fD' oD' fr⟩) hX⟩

/-! ### a table of the module, texts to texts -/
def pKd (t : List (Str × Str)) : Da → Option Da
  | .str x => (t.lookup x).map .str
  | _ => none
theorem ie_kd {K : PySem.W.Frag} {w : World} {d : Addr} {t : List (Str × Str)} (hd : ∀ x y, t.lookup x = some y → KDct K w d x (.str y)) (h : IO c tb b) : IE c (tOp (rIxD K w) (tC (.ref d)) tb) (tB1 (pKd t) b) := ⟨fun F O ρ σ H Q P Px w ht hP hX =>
  h.run F O ρ σ H _ _ Px w ht (fun x ρ1 h1 F1 O1 v H1 s1 w1 r1 => by
    obtain ⟨e, g, e1, eg, hp⟩ := h1
    have pd := w1.res r1 e1
    cases e <;> first | (cases eg; done) | skip
    rename_i z
    cases pd.str
    have eg : (t.lookup z).map PyData.str = some g := eg
    cases q : t.lookup z with
    | none => rw [q] at eg; cases eg
    | some y =>
      rw [q] at eg; cases eg
      exact ⟨d, z, .str y, rfl, rfl, hd z y q, hP _ _ hp F1 O1 _ H1 s1 w1 (.str y)⟩) hX⟩

/-! ### a table of texts in a slot -/
def strD (t : List (Str × Str)) : List (Key × Da) := t.map fun p => (.inr p.1, .str p.2)
def strV (t : List (Str × Str)) : List (Key × V) := t.map fun p => (.inr p.1, .str p.2)
def strP : List (Str × Str) → List (TE × TE)
  | [] => []
  | p :: r => (tC (.str p.1), tC (.str p.2)) :: strP r
theorem strP_run {σ : L2.St} : ∀ {t : List (Str × Str)} {H : Hp} {Q : List (V × V) → Hp → Prop}, Q ((strV t).map fun kv => (kV kv.1, kv.2)) H → tPairs (strP t) σ H Q
  | [], _, _, h => h
  | p :: r, H, Q, h => by
    show tPairs (strP r) σ H fun ps H3 => Q ((.str p.1, .str p.2) :: ps) H3
    exact strP_run (t := r) h
theorem strRp {F : Hp} : ∀ t : List (Str × Str), RpKV F (strV t) (strD t)
  | [] => .nil
  | p :: r => .cons (.str _) (strRp r)
def sDct (i : Nat) (t : List (Str × Str)) : WS := fun ρ e => e.nx (ρ.set i (.odK (strD t)))
theorem is_dct {i : Nat} {t : List (Str × Str)} (hp : i ∉ c.pins) (hl : t.length ≤ 15) (hm : mergeK [] (strV t) = strV t) : IS c (tAsg (tDisp (strP t)) (gName i)) (sDct i t) := ⟨fun F O ρ σ H D e w ht p => by
  intro q hq
  refine strP_run ⟨upd_same, strV t, rfl, by unfold strV; rw [List.length_map]; exact hl, ?_⟩
  rw [upd_upd, hm]
  obtain ⟨w1, s1⟩ := w.newT hq (.dK (strV t))
  have fq := w.fnone hq
  exact p.nx _ ht F (own (own O q none) q (some i)) _ _ (s1.own (.inl hq)) (w1.setO fq own_same i (.odK (strD t)) ⟨q, strV t, rfl, upd_same, strRp t, own_same⟩) (Pin.set hp)⟩
def kOf : Da → Option Key
  | .int i => some (.inl i)
  | .str x => some (.inr x)
  | _ => none
def lookK (kds : List (Key × Da)) (k : Key) : Option Da := (kds.find? fun kv => decide (kv.1 = k)).map (·.2)
theorem RpKV.look {F : Hp} {k : Key} {d : Da} : ∀ {kvs : List (Key × V)} {kds : List (Key × Da)}, RpKV F kvs kds → lookK kds k = some d → ∃ v, valV kvs k = some v ∧ Rp F v d
  | _, _, .nil, h => by cases h
  | _, _, .cons (k := k') (v := v') (d := d') (kvs := kvs) (kds := kds) h1 h2, h => by
    unfold lookK at h
    unfold valV
    rw [List.find?_cons] at h ⊢
    by_cases z : k' = k
    · rw [decide_eq_true z] at h ⊢
      cases h
      exact ⟨_, rfl, h1⟩
    · rw [decide_eq_false z] at h ⊢
      exact RpKV.look h2 h
def tDgK (i : Nat) (b : WT Ar) : WT Da := fun ρ P Px => (∃ kds, ρ[i]? = some (.odK kds)) ∧ b ρ (fun x ρ1 => ∃ kds y k d, ρ1[i]? = some (.odK kds) ∧ res x ρ1 = some y ∧ kOf y = some k ∧ lookK kds k = some d ∧ P d ρ1) Px
theorem W.odAt {ca : Addr} {F H : Hp} {O : Ow} {ρ : En} {σ : L2.St} (w : W ca F O ρ σ H) {i : Nat} {ds : List (Key × Da)} (h : ρ[i]? = some (.odK ds)) : ∃ a vs, σ[i]? = some (some (.ref a)) ∧ H a = some (.dK vs) ∧ RpKV F vs ds ∧ O a = some i ∧ i < ρ.length := by
  obtain ⟨o, eo, a, vs, e, h1, r, q⟩ := w.sl i _ h
  subst e
  exact ⟨a, vs, eo, h1, r, q, (List.getElem?_eq_some_iff.mp h).1⟩
theorem ie_dgetK {i : Nat} (h : IO c tb b) : IE c (tDGet (tVar i) tb) (tDgK i b) := ⟨fun F O ρ σ H Q P Px w ht hP hX => by
  obtain ⟨⟨k0, h0⟩, ht⟩ := ht
  obtain ⟨a, vs0, hv, _⟩ := w.odAt h0
  refine ⟨.ref a, hv, h.run F O ρ σ H _ _ Px w ht (fun x ρ1 h1 F1 O1 v H1 s1 w1 r1 => ?_) hX⟩
  obtain ⟨kds, y, k, d, e1, ey, ek, el, hp⟩ := h1
  obtain ⟨a', vs, hv', hH, rk, _, _⟩ := w1.odAt e1
  rw [hv] at hv'; cases hv'
  obtain ⟨u, hu, ru⟩ := rk.look el
  have pd := w1.res r1 ey
  refine ⟨a, u, rfl, ?_, hP _ _ hp F1 O1 _ H1 s1 w1 ru⟩
  have ev : v = kV k := by
    cases y <;> first | (cases ek; done) | skip
    · cases ek; exact pd.int
    · cases ek; exact pd.str
  rw [ev, ← hu]
  exact DGet.k hH⟩

/-! ### calls by keywords -/
def pick {α : Type} (idx : List Nat) (xs : List α) : List α := idx.filterMap fun i => xs[i]?
theorem AL.pick {F : Hp} {σ : L2.St} {zs : List V} {xs : List Ar} (al : AL F σ zs xs) : ∀ {idx : List Nat}, (∀ i ∈ idx, i < xs.length) → AL F σ (pick idx zs) (pick idx xs)
  | [], _ => trivial
  | i :: idx, h => by
    have hi := h i List.mem_cons_self
    have e : xs[i]? = some xs[i] := List.getElem?_eq_getElem hi
    obtain ⟨v, hv, r⟩ := AL.at al e
    unfold Ip.pick
    rw [List.filterMap_cons, List.filterMap_cons, hv, e]
    exact ⟨r, AL.pick al fun j hj => h j (List.mem_cons_of_mem _ hj)⟩
def tCalK (f : Fn) (pins : List Nat) (n : Nat) (idx : List Nat) (as : WT (List Ar)) : WT Da := fun ρ P Px => as ρ (fun zs ρ1 => (∀ i ∈ idx, i < zs.length) ∧ zs.length = idx.length ∧ (pick idx zs).length = n ∧ (lents (pick idx zs)).Nodup ∧ (lpos 0 (pick idx zs)).all (fun j => pins.contains j) = true ∧
  f (psOf (pick idx zs) ρ1) (fun d ps => okB (pick idx zs) (psOf (pick idx zs) ρ1) ps ∧ P d (wb (pick idx zs) ps ρ1)) (fun x ps => okB (pick idx zs) (psOf (pick idx zs) ρ1) ps ∧ Px x (wb (pick idx zs) ps ρ1))) Px
theorem ie_callK0 {f : Fn} {pins : List Nat} {n : Nat} {idx : List Nat} {t : TA} {as : WT (List Ar)} {E : XK} {gV : List V → List V → List V} (hg : ∀ zs : List V, zs.length = idx.length → gV [] zs = pick idx zs) (h0 : ∀ ps P Px Px', f ps P Px → f ps P Px') (h : IA c t as) :
    IE c (tCallK (spOf c.K c.xc pins n f) gV E tNil t) (tCalK f pins n idx as) := ⟨fun F O ρ σ H Q P Px w ht hP hX =>
  h.run F O ρ σ H _ _ Px w ht (fun zs ρ1 q F1 O1 vs H1 s1 w1 al => by
    obtain ⟨hi, hl, ql, nd, hp, hf⟩ := q
    show spOf c.K c.xc pins n f (gV [] vs) H1 Q E
    rw [hg vs (by rw [al.len, hl])]
    exact call_run (P := P) (Px := fun _ _ => False) w1 (al.pick hi) ql nd hp (h0 _ _ _ _ hf) (fun d ρ' p F' O' v H' s' w' r => hP d ρ' p F' O' v H' (s1.trans s') w' r) fun x ρ' p => p.elim) hX⟩
def pRepr : Da → Option Da
  | .bool b => some (.str (boolText b))
  | _ => none
theorem calls_repr : CallS (fun xs H Q => ∃ b, xs = [.bl b] ∧ Q (.str (boolText b)) H) (f1 pRepr) := fun c F O ρ σ H vs ds g Q w h hf k => by
  obtain ⟨d, e0, hg⟩ := f1_inv hf
  subst e0
  clear hf
  obtain ⟨v, rfl, pd⟩ := h.one
  cases d <;> first | (cases hg; done) | skip
  cases hg
  cases pd.bl
  exact ⟨_, rfl, k F O _ H (Stp.refl _ _ _) w (.str _)⟩
end
end Ip
end
section
set_option Elab.async false
set_option linter.all false
set_option maxRecDepth 100000
/-! The deal of a law: cells from which numbers are drawn. -/
namespace Ip
open PySem L2 PySem.Spec PyProof.Rows
theorem lay_ints : ∀ ns : List Int, PyData.canLayAll0 (ns.map PyData.int) = true
  | [] => rfl
  | n :: ns => by
    show (PyData.canLay0 (.int n) && PyData.canLayAll0 (ns.map PyData.int)) = true
    rw [lay_ints ns]; rfl
theorem dep_ints : ∀ ns : List Int, PyData.depthAll (ns.map PyData.int) ≤ 1
  | [] => by unfold PyData.depthAll; exact Nat.zero_le _
  | n :: ns => by
    rw [List.map_cons]
    unfold PyData.depthAll
    have := dep_ints ns
    have h : PyData.depth (.int n) ≤ 1 := by unfold PyData.depth; omega
    omega
theorem shaped_ints (ns : List Int) : SeqAt.shaped (.list (ns.map PyData.int)) = true := by
  unfold SeqAt.shaped
  rw [Bool.and_eq_true]
  refine ⟨by unfold PyData.canLay0; exact lay_ints ns, decide_eq_true ?_⟩
  unfold PyData.depth
  have := dep_ints ns
  omega
theorem eqv_nil (ns : List Int) : PyData.eqv (.list (ns.map PyData.int)) (.list []) = decide (ns = []) := by
  cases ns with
  | nil => rfl
  | cons n ns => rfl
section
variable {ca : Addr} {F H : Hp} {O : Ow} {ρ : En} {σ : L2.St}
theorem W.dlAt (w : W ca F O ρ σ H) {i : Nat} {cs : List Int} {b : Int} (h : ρ[i]? = some (.dl cs b)) :
    ∃ a, σ[i]? = some (some (.ref a)) ∧ H a = some (.lst [.ref ca, .int b]) ∧ H ca = some (.lst (cs.map V.int)) ∧ O a = some i ∧ O ca = some i ∧ a ≠ ca ∧ i < ρ.length := by
  obtain ⟨o, eo, a, e, h1, h2, q1, q2, ne⟩ := w.sl i _ h
  subst e
  exact ⟨a, eo, h1, h2, q1, q2, ne, (List.getElem?_eq_some_iff.mp h).1⟩
/-- the deal's things are laid anew -/
theorem W.mutD (w : W ca F O ρ σ H) {i : Nat} {cs : List Int} {b : Int} (h : ρ[i]? = some (.dl cs b)) {cs' : List Int} {b' : Int} {H' : Hp} {a : Addr} (hv : σ[i]? = some (some (.ref a)))
    (h1 : H' a = some (.lst [.ref ca, .int b'])) (h2 : H' ca = some (.lst (cs'.map V.int))) (h3 : ∀ x, x ≠ a → x ≠ ca → H' x = H x) : W ca F O (ρ.set i (.dl cs' b')) σ H' ∧ Stp F O H F O H' := by
  obtain ⟨a', hv', g1, g2, q1, q2, ne, hl⟩ := w.dlAt h
  rw [hv] at hv'; cases hv'
  have fa : F a = none := w.ow a (by rw [q1]; exact fun z => nomatch z)
  have fc : F ca = none := w.ow ca (by rw [q2]; exact fun z => nomatch z)
  refine ⟨⟨fun x o hx => ?_, w.ow, by rw [List.length_set]; exact w.len, fun j s hj => ?_⟩, ⟨fun x o hx n => ?_, fun _ _ _ => rfl, fun _ _ n => n⟩⟩
  · rw [h3 x (fun z => by rw [z, fa] at hx; cases hx) (fun z => by rw [z, fc] at hx; cases hx)]; exact w.sub x o hx
  · by_cases z : i = j
    · subst z
      rw [List.getElem?_set_self hl] at hj
      cases hj
      exact ⟨_, hv, a, rfl, h1, h2, q1, q2, ne⟩
    · rw [List.getElem?_set_ne z] at hj
      obtain ⟨o, eo, r'⟩ := w.sl j s hj
      refine ⟨o, eo, r'.on (fun _ _ h => h) fun x u q hx => ⟨?_, q⟩⟩
      rw [h3 x (fun e => by rw [e, q1] at q; cases q; exact z rfl) (fun e => by rw [e, q2] at q; cases q; exact z rfl)]; exact hx
  · rw [h3 x (fun z => by rw [z, q1] at n; cases n) (fun z => by rw [z, q2] at n; cases n)]; exact hx
end
section
variable {c : Cf} {te ti : TE} {A : WT Da} {b : WT Ar} {K : PySem.W.Frag} {i : Nat}
/-- deal[0] -/
theorem deal0 {F H : Hp} {O : Ow} {ρ : En} {σ : L2.St} (w : W c.ca F O ρ σ H) {cs : List Int} {b : Int} (h : ρ[i]? = some (.dl cs b)) {Q : VK} (q : Q (.ref c.ca) H) : tOp (rIx K) (tVar i) (tC (.int 0)) σ H Q := by
  obtain ⟨a, hv, g1, g2, q1, q2, ne, hl⟩ := w.dlAt h
  exact ⟨.ref a, hv, .inl ⟨a, _, 0, .ref c.ca, rfl, rfl, .inl (.inl g1), rfl, q⟩⟩
def tDlNe (i : Nat) : WT Da := fun ρ P _ => ∃ cs b, ρ[i]? = some (.dl cs b) ∧ P (.bool (!decide (cs = []))) ρ
theorem ie_dlNe : IE c (tOp (rNeD K) (tOp (rIx K) (tVar i) (tC (.int 0))) (tLst tNil)) (tDlNe i) := ⟨fun F O ρ σ H Q P Px w ht hP hX => by
  obtain ⟨cs, b, h, hp⟩ := ht
  obtain ⟨a, hv, g1, g2, q1, q2, ne, hl⟩ := w.dlAt h
  refine deal0 (c := c) w h ⟨by decide, fun p hp' => ?_⟩
  obtain ⟨w2, s2⟩ := w.newT hp' (.lst [])
  have g2' : upd H p (.lst []) c.ca = some (.lst (cs.map V.int)) := by rw [upd_ne (fun z => by rw [← z, g2] at hp'; cases hp')]; exact g2
  have r1 : Rp (upd H p (.lst [])) (.ref c.ca) (.list (cs.map PyData.int)) := .lst g2' (RpL.ints cs)
  have r2 : Rp (upd H p (.lst [])) (.ref p) (.list []) := .lst upd_same .nil
  refine ⟨_, _, Rp.dp _ _ r1, Rp.dp _ _ r2, shaped_ints cs, by decide +kernel, ?_⟩
  rw [eqv_nil]
  exact hP _ _ hp F _ _ _ s2 w2 (.bl _)⟩
def tDlIx (i : Nat) (b : WT Ar) : WT Da := fun ρ P Px => (∃ cs b, ρ[i]? = some (.dl cs b)) ∧ b ρ (fun x ρ1 => ∃ cs bb j v, ρ1[i]? = some (.dl cs bb) ∧ res x ρ1 = some (.int j) ∧ atI cs j = some v ∧ P (.int v) ρ1) Px
theorem atI_ints {cs : List Int} {j v : Int} (h : atI cs j = some v) : atI (cs.map V.int) j = some (.int v) := by
  unfold atI at h ⊢
  rw [List.length_map]
  cases q : ixN cs.length j with
  | none => rw [q] at h; cases h
  | some k =>
    rw [q] at h
    show (cs.map V.int)[k]? = _
    rw [List.getElem?_map, show cs[k]? = some v from h]; rfl
theorem ie_dlIx (hb : IO c ti b) : IE c (tOp (rIx K) (tOp (rIx K) (tVar i) (tC (.int 0))) ti) (tDlIx i b) := ⟨fun F O ρ σ H Q P Px w ht hP hX => by
  obtain ⟨⟨cs0, b0, h0⟩, ht⟩ := ht
  refine deal0 (c := c) w h0 (hb.run F O ρ σ H _ _ Px w ht (fun x ρ1 q F1 O1 v H1 s1 w1 r1 => ?_) hX)
  obtain ⟨cs, bb, j, u, h1, e, hj, hp⟩ := q
  obtain ⟨a, hv, g1, g2, q1, q2, ne, hl⟩ := w1.dlAt h1
  cases (w1.res r1 e).int
  exact .inl ⟨_, _, j, .int u, rfl, rfl, .inl (.inl g2), atI_ints hj, hP _ _ hp F1 O1 _ H1 s1 w1 (.int u)⟩⟩
def tDlPop (i : Nat) : WT Da := fun ρ P _ => ∃ cs k b, ρ[i]? = some (.dl (cs ++ [k]) b) ∧ P (.int k) (ρ.set i (.dl cs b))
theorem ie_dlPop : IE c (tBM0 K "list" rPop (tOp (rIx K) (tVar i) (tC (.int 0)))) (tDlPop i) := ⟨fun F O ρ σ H Q P Px w ht hP hX => by
  obtain ⟨cs, k, b, h, hp⟩ := ht
  obtain ⟨a, hv, g1, g2, q1, q2, ne, hl⟩ := w.dlAt h
  refine deal0 (c := c) w h ⟨.inl ⟨rfl, _, .inl (.inl g2)⟩, c.ca, (cs ++ [k]).map V.int, .int k, rfl, rfl, g2, by simp, ?_⟩
  have e : ((cs ++ [k]).map V.int).dropLast = cs.map V.int := by rw [List.map_append, List.map_singleton, List.dropLast_concat]
  rw [e]
  obtain ⟨w2, s2⟩ := w.mutD h (cs' := cs) (b' := b) (H' := upd H c.ca (.lst (cs.map V.int))) hv (by rw [upd_ne ne]; exact g1) upd_same fun x _ z => upd_ne z
  exact hP _ _ hp F O _ _ s2 w2 (.int k)⟩
def sDlApp (i : Nat) (A : WT Da) : WS := fun ρ e => (∃ cs b, ρ[i]? = some (.dl cs b)) ∧ A ρ (fun d ρ1 => ∃ cs b k, ρ1[i]? = some (.dl cs b) ∧ d = .int k ∧ cs.length < 100000 ∧ e.nx (ρ1.set i (.dl (cs ++ [k]) b))) e.er
theorem is_dlApp (h : IE c te A) : IS c (tDrop (tBM K "list" rAppend (tOp (rIx K) (tVar i) (tC (.int 0))) (tCons te tNil))) (sDlApp i A) := ⟨fun F O ρ σ H D e w ht p => by
  obtain ⟨⟨cs0, b0, h0⟩, ht⟩ := ht
  obtain ⟨a, hv, g1, g2, q1, q2, ne, hl⟩ := w.dlAt h0
  refine deal0 (c := c) w h0 ⟨.inl ⟨rfl, _, .inl (.inl g2)⟩, ?_⟩
  refine h.run F O ρ σ H _ _ _ w ht (fun d ρ1 q F1 O1 v H1 s1 w1 r1 => ?_) p.px
  obtain ⟨cs, b, k, h1, ed, hz, hp⟩ := q
  subst ed
  cases r1
  obtain ⟨a', hv', g1, g2, q1, q2, ne, hl⟩ := w1.dlAt h1
  refine ⟨c.ca, cs.map V.int, .int k, rfl, rfl, g2, by rw [List.length_map]; exact Nat.lt_of_lt_of_le hz (by decide), ?_⟩
  have e2 : cs.map V.int ++ [.int k] = (cs ++ [k]).map V.int := by rw [List.map_append, List.map_singleton]
  rw [e2]
  obtain ⟨w2, s2⟩ := w1.mutD h1 (cs' := cs ++ [k]) (b' := b) (H' := upd H1 c.ca (.lst ((cs ++ [k]).map V.int))) hv' (by rw [upd_ne ne]; exact g1) upd_same fun x _ z => upd_ne z
  exact p.nx _ hp F1 O1 σ _ (s1.trans s2) w2 (Pin.refl _ _)⟩
def tDlB (i : Nat) : WT Da := fun ρ P _ => ∃ cs b, ρ[i]? = some (.dl cs b) ∧ P (.int b) ρ
theorem ie_dlB : IE c (tOp (rIx K) (tVar i) (tC (.int 1))) (tDlB i) := ⟨fun F O ρ σ H Q P Px w ht hP hX => by
  obtain ⟨cs, b, h, hp⟩ := ht
  obtain ⟨a, hv, g1, g2, q1, q2, ne, hl⟩ := w.dlAt h
  exact ⟨.ref a, hv, .inl ⟨a, _, 1, .int b, rfl, rfl, .inl (.inl g1), rfl, hP _ _ hp F O _ H (Stp.refl _ _ _) w (.int b)⟩⟩⟩
def sDlB (i : Nat) (A : WT Da) : WS := fun ρ e => A ρ (fun d ρ1 => ∃ cs b k, ρ1[i]? = some (.dl cs b) ∧ d = .int k ∧ e.nx (ρ1.set i (.dl cs k))) e.er
theorem is_dlB (h : IE c te A) : IS c (tAsg te (gSub (tVar i) (tC (.int 1)) rSetL)) (sDlB i A) := ⟨fun F O ρ σ H D e w ht p =>
  h.run F O ρ σ H _ _ _ w ht (fun d ρ1 q F1 O1 v H1 s1 w1 r1 => by
    obtain ⟨cs, b, k, h1, ed, hp⟩ := q
    subst ed
    cases r1
    obtain ⟨a, hv, g1, g2, q1, q2, ne, hl⟩ := w1.dlAt h1
    refine ⟨.ref a, hv, a, _, 1, 1, rfl, rfl, g1, rfl, ?_⟩
    obtain ⟨w2, s2⟩ := w1.mutD h1 (cs' := cs) (b' := k) (H' := upd H1 a (.lst [.ref c.ca, .int k])) hv upd_same (by rw [upd_ne ne.symm]; exact g2) fun x z _ => upd_ne z
    exact p.nx _ hp F1 O1 σ _ (s1.trans s2) w2 (Pin.refl _ _)) p.px⟩
/-- script[:m] -/
def tScr (K : PySem.W.Frag) (i : Nat) : WT Da := fun ρ P _ => ∃ ns, ρ[i]? = some (.scr K ns) ∧ ∀ ms : List Int, ms.length ≤ ns.length → (∀ m ∈ ms, m ∈ ns) → P (.list (ms.map PyData.int)) ρ
theorem cut_ints (ns : List Int) (lo hi : Option Int) : ∃ ms : List Int, cutV (ns.map V.int) lo hi = ms.map V.int ∧ ms.length ≤ ns.length ∧ ∀ m ∈ ms, m ∈ ns := by
  refine ⟨(ns.drop (HT.sIx (ns.map V.int).length 0 lo)).take (HT.sIx (ns.map V.int).length (ns.map V.int).length hi - HT.sIx (ns.map V.int).length 0 lo), ?_, ?_, fun m hm => ?_⟩
  · unfold cutV
    rw [List.map_take, List.map_drop]
  · rw [List.length_take, List.length_drop]; omega
  · exact List.mem_of_mem_drop (List.mem_of_mem_take hm)
theorem ie_scr {tl th : TO} {lo hi : Option Int} (h1 : ∀ σ H (Q : Option Int → Hp → Prop), Q lo H → tl σ H Q) (h2 : ∀ σ H (Q : Option Int → Hp → Prop), Q hi H → th σ H Q) : IE c (tSl (rSlU K) (tVar i) tl th) (tScr K i) := ⟨fun F O ρ σ H Q P Px w ht hP hX => by
  obtain ⟨ns, h, hp⟩ := ht
  obtain ⟨o, eo, a, e, hs⟩ := w.sl i _ h
  subst e
  have hs' := SqL.on w.sub hs
  refine ⟨.ref a, eo, h1 _ _ _ (h2 _ _ _ (.inr ⟨a, _, rfl, hs', ?_⟩))⟩
  obtain ⟨ms, em, hm, hmm⟩ := cut_ints ns lo hi
  rw [em]
  exact new_lst w (RpL.ints ms) fun F' O' v H' s' w' r' => hP _ _ (hp ms hm hmm) F' O' v H' s' w' r'⟩
/-- the law's first statement, the deal, and what comes behind it -/
theorem law_run {f : Fn} {xc : Nat → Addr} {E : XK} {D : Ends} {t : TS} {S : WS} {salt : Int} {m : Nat} {ns : List Int} {l : Addr} {H : Hp} {e : Ed} {EX : L2.St → XK}
    (hl : SqL K H l (ns.map V.int)) (his : ∀ ca, IS ⟨K, ca, [], EX, xc⟩ t S)
    (hf : ∀ (P : Da → List Sl → Prop) (Px : Ex → List Sl → Prop), (∀ (cs : List Int) (b : Int) (ps : List Sl), cs.length ≤ ns.length → b.natAbs < 2 ^ 31 → P (.list [.list (cs.map PyData.int), .int b]) ps) → f [.scr K ns, .fz (.int salt)] P Px)
    (hm : ∀ (cs : List Int) (b : Int), cs.length ≤ ns.length → b.natAbs < 2 ^ 31 → S (.un :: .dl cs b :: List.replicate m .un) e)
    (he : ∀ ca F O H1 (cs : List Int) (b : Int) a, W ca F O (.un :: .dl cs b :: List.replicate m .un) (some (.ref l) :: some (.ref a) :: List.replicate m none) H1 → Pst ⟨K, ca, [], EX, xc⟩ F O (some (.ref l) :: some (.ref a) :: List.replicate m none) H1 D e) :
    tSeq (tAsg (tCall (spOf K xc [] 2 f) [] E (tCons (tVar 0) (tCons (tC (.int salt)) tNil))) (gName 1)) t D (some (.ref l) :: none :: List.replicate m none) H := by
  show tAsg _ _ { D with nx := fun σ1 H1 => t D σ1 H1 } _ _
  refine ⟨.ref l, rfl, rfl, l, H, fun _ => none, [.scr K ns, .fz (.int salt)], fun d ps => ∃ (cs : List Int) (b : Int), cs.length ≤ ns.length ∧ b.natAbs < 2 ^ 31 ∧ d = .list [.list (cs.map PyData.int), .int b], fun _ _ => False, ?_, ?_, ?_, fun x ps' h => h.elim⟩
  · refine ⟨fun _ _ h => h, fun b h => absurd rfl h, rfl, fun i s hs => ?_⟩
    match i, hs with
    | 0, hs => cases hs; exact ⟨_, rfl, l, rfl, hl⟩
    | 1, hs => cases hs; exact ⟨_, rfl, _, rfl, .int _⟩
    | i + 2, hs => cases hs
  · exact hf _ _ fun cs b ps h1 h2 => ⟨cs, b, h1, h2, rfl⟩
  · rintro d ps' ⟨cs, b, h1, h2, rfl⟩ F' O' σ' v H' s' w' _ r
    cases r with
    | lst ha hr =>
      rename_i a vs
      cases hr with
      | cons hc hr =>
        cases hr with
        | cons hb hr =>
          cases hr
          cases hb
          cases hc with
          | lst hca hcs =>
            rename_i ca us
            have eu := RpL.ints_inv hcs
            subst eu
            have ne : a ≠ ca := fun z => by
              subst z
              rw [ha] at hca
              have := HO.lst.inj (Option.some.inj hca)
              cases cs with
              | nil => cases this
              | cons x xs => cases this
            have ww : W ca (fun _ => none) (fun x => if x = a ∨ x = ca then some 1 else none) (.un :: .dl cs b :: List.replicate m .un) (some (.ref l) :: some (.ref a) :: List.replicate m none) H' := by
              refine ⟨fun _ _ h => (by cases h), fun _ _ => rfl, (by simp), fun i s hs => ?_⟩
              match i, hs with
              | 0, hs => cases hs; exact ⟨_, rfl, trivial⟩
              | 1, hs => cases hs; exact ⟨_, rfl, a, rfl, w'.sub _ _ ha, w'.sub _ _ hca, if_pos (.inl rfl), if_pos (.inr rfl), ne⟩
              | i + 2, hs =>
                have hs : (List.replicate m Sl.un)[i]? = some s := hs
                have hi := (List.getElem?_eq_some_iff.mp hs).1
                rw [List.length_replicate] at hi
                rw [List.getElem?_replicate, if_pos hi] at hs
                cases hs
                exact ⟨none, by show (List.replicate m (none : Option V))[i]? = _; rw [List.getElem?_replicate, if_pos hi], trivial⟩
            exact (his ca).run _ _ _ _ H' D e ww (hm cs b h1 h2) (he _ _ _ _ _ _ _ ww)
end
end Ip
end
section
set_option Elab.async false
set_option linter.all false
set_option maxRecDepth 100000
set_option maxHeartbeats 4000000
/-! An own exception over ValueError whose __init__ begins with super().__init__(a text). -/
namespace Ip
open PySem L2 PySem.Spec PyProof.Rows NdefX
section
variable {prog : Program} {w : World} {A : Around} {E : Value → Shared → Prop} {h : Heap} {g : Array GenState} {d : Drawn} {t : Nat} {os : OsState} {B i newId : String} {bmB : List Value}
variable {nm q : Str} {C N : Addr} {bs bm : List Value} {hdct : Bool} {sn : List Str} {sub : List Value} {ab : Bool} {col : Option Bool} {dd : Option Addr} {k0 k1 k2 k3 k5 : Option Value}
/-- the bound __init__ is called -/
theorem mw_call (FB : ExcBaseFacts B newId i bmB) {u e t0 : Addr} {dv : Option Addr} {rest : List Value} {Q : Value → Shared → Prop}
    (hC : h.get? C = some (excClassObj nm q C N bs bm hdct sn sub ab col dd k0 k1 k2 k3 k5 newId)) (he : h.get? e = some ({ cls := .ref C, dict := dv, data := .fields #[.ref t0, .none, .none, .none, .bool false, .none] } : Obj))
    (hu : h.get? u = some (PySem.W.kxs_mw i e)) (hz : rest.length ≤ sizeLine)
    (hq : ∀ h' t1, (∀ b o, b ≠ e → h.get? b = some o → h'.get? b = some o) → h'.get? e = some ({ cls := .ref C, dict := dv, data := .fields #[.ref t1, .none, .none, .none, .bool false, .none] } : Obj) → Q .none ⟨h', g, d, t, os⟩) :
    wpAny (model prog w) A (call (.ref u) rest) Q E ⟨h, g, d, t, os⟩ := by
  refine wpAny_call (codeAny_of_tree ?_)
  show wpAny _ A.in1 (callAny (.ref u) ⟨rest, []⟩) _ _ _
  simp only [callAny]
  refine wpAny_bind (wpAny_load hu ?_)
  simp only [PySem.W.kxs_mw, show (Value.type "method-wrapper" == Value.type "method" || Value.type "method-wrapper" == Value.type "builtin_function_or_method" || Value.type "method-wrapper" == Value.type "method-wrapper") = true by decide, if_true]
  refine PySem.W.KFB.if_so (by decide) ?_
  refine wpAny_bind (PySem.W.check_bound_init FB.toExcCallFacts hC he rfl ?_)
  refine wpAny_bind (wpAny_pure (wpAny_pure ?_))
  refine ⟨plainId_quiet FB.init.plain _, codeAny_builtin FB.initEntry ?_⟩
  exact PySem.W.exc_init_tree (cls := .ref C) (t0 := t0) (dv := dv) (c2 := .none) (c3 := .none) (b4 := .bool false) he hz fun h' k e' _ => hq h' _ k e'
end
section
variable {P : Program} {w : World} {K : PySem.W.Frag} {mg : Str → Option Value} {base : Heap} {CX : CXT}
def spSuI (C : Addr) (x : Str) : Sp := fun vs H Q _ => ∃ (e : Addr) (y : V), vs = [.ref e, y] ∧ H e = some (exo e C none) ∧ ∀ dx, H dx = none → dx ≠ e → Q .non (upd (upd H dx (exd dx [(x, y)])) e (exo e C (some dx)))
theorem super_init_ok {name qual x msg : Str} {params : Arguments} {scope : Scope} {kV doc pm ct oc ccl cl : Value} {an od cdd cld : Option Addr} {osl ccs csl : Array (Option Value)} {vs : Array Value} {file : Str} {tf : Tok} {f cc cda C : Addr} {ar : Arg} {j : Nat}
    {p0 p1 p2 p3 p4 p5 p6 p7 p8 p9 : Pos} {cd : ClassData}
    (lk : K.lookup f = some ⟨oc, od, .func (PySem.W.fnX name qual params [.Expr (.Call (.Attribute (.Call (.Name "super" p0) [] [] p1) "__init__" p2) [.Constant (.str msg) j p3] [] p4) p5, .Assign [.Attribute (.Name "self" p6) x p7] (.Name x p8) p9] scope [("__class__", cc)] .none kV doc pm an (.ref cda) ct), osl⟩)
    (hev : ∀ env : Env, ∃ pl : Sem Bool, eval (.Call (.Attribute (.Call (.Name "super" p0) [] [] p1) "__init__" p2) [.Constant (.str msg) j p3] [] p4) env = (do
      let ov ← attributeBase (.Call (.Name "super" p0) [] [] p1) "__init__" env (eval (.Call (.Name "super" p0) [] [] p1) env)
      standAt p2.atName
      let (f, first) ← holding [ov] (getMethod ov "__init__" pl)
      callWith p4 f first (backTo p4 (starEach [.Constant (.str msg) j p3] env)) []))
    (hcd : PySem.W.codeIn K (.ref cda) qual = true)
    (S : NScope ["self", x, "__class__"] ["self", x] ["__class__"] scope) (hp : (params.posonlyargs ++ params.args).head? = some ar) (har : ar.arg = "self")
    (hcode : K.lookup cda = some ⟨ccl, cdd, .fields vs, ccs⟩) (hvs : vs[2]? = some (.str file tf)) (hfile : ((P.main.file : Str) == file) = true)
    (hcell : K.lookup cc = some ⟨cl, cld, .cell (some (.ref C)), csl⟩) (hD : PySem.W.clsIn K C = some cd) (hsub : PySem.W.mroIn K C (.ref C) = some true) (hsuper : mg "super" = none)
    (hks : scope.names.lookup ("super" : Str) = some .globalImplicit) (hkc : scope.names.lookup ("__class__" : Str) = some .free)
    (htop : (P.main.scope.names.lookup ("super" : Str)).isSome = false) (ho : PySem.W.nsIn K cStatics "thirdparty.any" = some none)
    (hm : PySem.W.ks_superIn K C C "__init__" = some (some (.builtin "ValueError.__init__"))) (hB : PySem.W.subIn K (.ref C) (.type "ValueError") = some true)
    (T : OexC K C) (hno : PySem.W.findIn K (.ref C) x = some none) (hx : (x == ("__debug__" : Str)) = false) (hx2 : (x == ("__classdict__" : Str)) = false) :
    FnOk P w K mg base CX 2 f (PySem.W.fnX name qual params [.Expr (.Call (.Attribute (.Call (.Name "super" p0) [] [] p1) "__init__" p2) [.Constant (.str msg) j p3] [] p4) p5, .Assign [.Attribute (.Name "self" p6) x p7] (.Name x p8) p9] scope [("__class__", cc)] .none kV doc pm an (.ref cda) ct) ["self", x] (spSuI C x) := by
  refine ⟨fun vs H Q E h => (by obtain ⟨e, y, rfl, _⟩ := h; rfl), fun A outer s H args us vs' Q E hr e0 hbd r hsp => ?_⟩
  obtain ⟨e, y, rfl, he, hq⟩ := hsp
  have KX : K.In s.heap := e0.mod.kin.keeps fun b o e => (e0.bs b o e).1
  have lim : s.heap.NoLimit := e0.mod.nolimit.keeps fun b o e => (e0.bs b o e).1
  cases r with
  | @cons _ u0 _ ur ra rw' =>
  obtain rfl : u0 = Value.ref e := ra
  cases rw' with
  | @cons _ u1 _ ur2 ry rn =>
  cases rn
  have hxs : ("self" : Str) ≠ x := fun z => by
    have := S.nd
    rw [← z] at this
    exact absurd this (by decide)
  refine ks_codeAny_call_defAt hr.depth (KX _ _ lk) rfl lim (PySem.W.codeRec_of KX hcd) rfl hbd S.nocell (fun ⟨n, _⟩ hy => S.par n (List.of_mem_zip hy).1) (fun h₁ hns kp => ?_) S.co S.gen S.kind
  have kin1 : K.In h₁ := fun b o z => kp b o (KX b o z)
  have CA : CellsAt [("__class__", cc)] ["__class__"] [none] s.heap H := by
    refine ⟨rfl, fun y c z => ?_, fun y1 y2 c z1 z2 => ?_, fun i y hi => ?_⟩
    · have ez : c = cc := by
        have := PySem.mem_of_lookup z
        simp only [List.mem_singleton] at this
        exact (Prod.mk.inj this).2
      subst ez
      exact ⟨(e0.bs _ _ (e0.mod.kin _ _ hcell)).2, some (.ref C), _, KX _ _ hcell, rfl⟩
    · have m1 := PySem.mem_of_lookup z1
      have m2 := PySem.mem_of_lookup z2
      simp only [List.mem_singleton] at m1 m2
      rw [(Prod.mk.inj m1).1, (Prod.mk.inj m2).1]
    · match i, hi with
      | 0, hi =>
        cases hi
        exact ⟨cc, rfl, fun v z => by cases z⟩
      | i + 1, hi => simp at hi
  have rr : Vals [V.ref e, y] [Value.ref e, u1] := .cons (show RelV (.ref e) (.ref e) from rfl) (.cons ry .nil)
  have I := inv_startN (CX := CX) (P := P) (w := w) (base := base) (mg := mg) (E := E) (f := f) (tk := s.toks + (List.zip (["self", x] : List Str) [Value.ref e, u1]).length) (F := ⟨name, qual, params, [], scope, [("__class__", cc)], cda⟩) S hr.hd e0 rfl rr CA hns kp
  have fin : ∀ {σ' : L2.St} {H' : Hp} {v : V} {u : Value} {s' : Shared}, L2.Inv (ncx CX P w K mg base ["self", x, "__class__"] ⟨name, qual, params, [], scope, [("__class__", cc)], cda⟩ f A outer s H E) [] σ' H' s' → L2.RelV v u → Q v H' → CE outer P w H s Q u s' :=
    fun {σ' H' v u s'} J rv q => ⟨v, H', J.os, J.bare, J.base, J.hok, rv, q⟩
  obtain ⟨t1, hoe⟩ := exo_at I.hok he
  obtain ⟨nm, q, N, bs, bm, sn, sub, ab, col, dd, k0, k1, k2, k3, k5, hC, hbm⟩ := T.cls
  have hoe : h₁.get? e = some ({ cls := .ref C, dict := none, data := .fields #[.ref t1, .none, .none, .none, .bool false, .none] } : Obj) := hoe
  have hC1 := kin1 _ _ hC
  have ndr : (List.zip (["self", x] : List Str) [Value.ref e, u1]).reverse.lookup ("self" : Str) = some (.ref e) := by
    show List.lookup _ [(x, u1), (("self" : Str), Value.ref e)] = _
    rw [List.lookup_cons, show (("self" : Str) == x) = false from by simpa using hxs]
    rfl
  obtain ⟨mb, b1, b2⟩ := I.mod.blt
  obtain ⟨pl, hpl⟩ := hev (envF ⟨name, qual, params, [], scope, [("__class__", cc)], cda⟩ f s.heap.objs.size)
  refine ks_wpAt_execs_cons (ks_wpAt_Expr_any (hi := I.quiet) (ks_wpAt_MethodCall (pl := pl) ?_ hpl))
  refine ks_wpAt_super_base (env := envF ⟨name, qual, params, [], scope, [("__class__", cc)], cda⟩ f s.heap.objs.size) hks hkc rfl rfl (kin1 _ _ lk) rfl hp rfl (kin1 _ _ hcode) rfl hvs hfile htop ?_
  refine PySem.W.ks_loadName_global S.kind hks (Calls.loadGlobal_builtin (env := envF ⟨name, qual, params, [], scope, [("__class__", cc)], cda⟩ f s.heap.objs.size) (I.mod.glob.keeps I.bk) hsuper (b1.keeps I.bk) ((b2 _ (by decide)).trans PyProof.Rows.Boot.«super») ⟨rfl, ?_⟩)
  refine wpAny_loadName_free S.kind hkc rfl ⟨_, kin1 _ _ hcell, rfl⟩ ?_
  rw [har]
  refine wpAny_loadName_local S.kind (S.par _ List.mem_cons_self) hns ndr ?_
  refine ks_wpAny_isType_cls hC1 rfl ⟨rfl, ?_⟩
  refine ks_wpAny_call_super hC1 rfl hoe rfl (fun c z => by cases z) (PySem.W.looks_mroIn kin1 hsub) (fun h2 eso k2 => ?_)
  have kin2 : K.In h2 := fun b o z => k2 b o (kin1 b o z)
  have hoe2 := k2 _ _ hoe
  have hlc : PySem.W.Looks (model P w) h2 (mroOf (.ref C)) cd.mro := (PySem.W.looks_clsIn kin2 hD).andThen .now
  have hI : PySem.W.Looks (model P w) h2 (isInstance (.ref e) (.type "ValueError")) true := (PySem.W.InstAt.type (⟨hoe2, rfl, rfl, trivial⟩ : PySem.W.InstAt h2 e _ C none)).andThen (PySem.W.looks_subIn kin2 hB)
  have hmI : PySem.W.alongIn K "__init__" ((cd.mro.dropWhile (· != .ref C)).drop 1) = some (some (.builtin "ValueError.__init__")) := by
    unfold PySem.W.ks_superIn at hm
    rw [hD] at hm
    exact hm
  have ne : e ≠ C := fun z => by
    rw [z, hC1] at hoe
    cases hoe
  refine PySem.W.kxs_getMethod PySem.W.kxs_ValueError eso (PySem.W.looks_opaque kin2 ho) hlc rfl kin2 hmI hI ne rfl ?_
  refine PySem.W.kxs_callWith (i := "ValueError.__init__") (x := e) rfl (Calls.evalArgs_plain (Calls.spliced_cons (Calls.Constant_str (k := j) (pos := p3) (Calls.spliced_nil ?_))))
  have k3 : ∀ b o, h2.get? b = some o → (h2.push (PySem.W.kxs_mw "ValueError.__init__" e)).get? b = some o := fun b o z => Heap.get?_push_of_some _ z
  have hmw : (h2.push (PySem.W.kxs_mw "ValueError.__init__" e)).get? h2.objs.size = some (PySem.W.kxs_mw "ValueError.__init__" e) := Heap.get?_push_at rfl rfl
  refine ⟨hmw, ?_⟩
  refine mw_call F.excBase_ValueError (k3 _ _ (k2 _ _ hC1)) (k3 _ _ hoe2) hmw (show 1 ≤ sizeLine from by decide +kernel) fun h4 t4 k4 he4 => ?_
  have I3 := I.kept (h' := h2.push (PySem.W.kxs_mw "ValueError.__init__" e)) (t' := 0) (fun b o z => k3 b o (k2 b o z))
  have J := fun tk => I3.write (h' := h4) (t' := tk) (x := e) (e := e) (o := exo e C none) (by rw [he]; exact True.intro) (.inl rfl) k4 ⟨_, he4⟩ (exo_ok he4)
  have eu : upd H e (exo e C none) = H := by
    funext b
    by_cases hb : b = e
    · rw [hb, upd_same, he]
    · rw [upd_ne hb]
  rw [eu] at J
  refine wpAt_of_wpAny (wpAny_mono ((pss_one (ps_ost (pos := p9) (p' := p7) (pe_var (pos := p6) (X := ncx CX P w K mg base ["self", x, "__class__"] ⟨name, qual, params, [], scope, [("__class__", cc)], cda⟩ f A outer s H E) (i := 0) rfl (.inl (S.par _ List.mem_cons_self))) (pe_var (pos := p8) (i := 1) rfl (.inl (S.par _ (List.mem_cons_of_mem _ List.mem_cons_self))) hx hx2))).run [] _ _ H { nx := fun _ H' => Q .non H', rt := Q } (J _) ?_) (fun fl s' hs => ?_) fun e s' hs => hs)
  · refine ⟨y, rfl, .ref e, rfl, e, C, rfl, T, hno, .inl ⟨he, fun dx n1 n2 => hq dx n1 n2⟩⟩
  · cases fl with
    | ret u =>
      obtain ⟨v, σ', H', J, rv, q⟩ := hs
      exact fin J rv q
    | next =>
      obtain ⟨σ', H', J, q⟩ := hs
      exact fin (v := V.non) (u := Value.none) J rfl q
    | brk =>
      obtain ⟨_, _, _, q⟩ := hs
      exact False.elim q
    | cont =>
      obtain ⟨_, _, _, q⟩ := hs
      exact False.elim q
end
end Ip
end
section
set_option Elab.async false
set_option linter.all false
set_option maxRecDepth 100000
set_option maxHeartbeats 4000000
/-! Errors: raise, calls that let them out, try. -/
namespace Ip
open PySem L2 PySem.Spec PyProof.Rows
def clsStmt (s : Stmt) (i : Nat) : Stmt := match s with
  | .ClassDef _ _ _ b .. => b.getD i (.Pass ⟨0, 0, 0, 0⟩)
  | _ => .Pass ⟨0, 0, 0, 0⟩
def lookA (l : List (Nat × Addr)) (i : Nat) : Addr := (l.lookup i).getD 0
def lookD (d : FuncData) (l : List (Nat × FuncData)) (i : Nat) : FuncData := (l.lookup i).getD d
theorem kd_nil {P : Str → Str → Prop} : ∀ x y, ([] : List (Str × Str)).lookup x = some y → P x y := fun _ _ h => by cases h
theorem kd_cons {P : Str → Str → Prop} {a b : Str} {t : List (Str × Str)} (h1 : P a b) (h2 : ∀ x y, t.lookup x = some y → P x y) : ∀ x y, ((a, b) :: t).lookup x = some y → P x y := fun x y h => by
  rw [List.lookup_cons] at h
  cases z : (x == a) with
  | true => rw [z] at h; rw [eq_of_beq z]; cases h; exact h1
  | false => rw [z] at h; exact h2 x y h
theorem takes_no {X : Cx} {W : WX} (h : ∀ c d σ H, W c d σ H → False) : Takes X W := fun u s' ⟨a, B, sI, pins, σ, H, cls, d, e, I, nb, up, sky, na, os, ag, w⟩ => (h _ _ _ _ w).elim
theorem op_eqS {X : Cx} {k : Nat} {a : Addr} {pn : List (Addr × Obj)} (hr : Room k X.A) : OpR (X.suite a pn) (compareOp .Eq) (rEqD X.K) := op_eqD (X := X.suite a pn) (show X.A.units + 64 < cLine from hu64 hr)
theorem op_neS {X : Cx} {k : Nat} {a : Addr} {pn : List (Addr × Obj)} (hr : Room k X.A) : OpR (X.suite a pn) (compareOp .NotEq) (rNeD X.K) := op_neD (X := X.suite a pn) (show X.A.units + 64 < cLine from hu64 hr)
/-- the law's promise -/
def spLaw (K : PySem.W.Frag) : Sp := fun vs H Q _ => ∃ (a : Addr) (ns : List Int), vs = [.ref a] ∧ SqL K H a (ns.map V.int) ∧ ns.length ≤ 63 ∧ ∀ H', Q (.bl true) H'
def edLaw : Ed := { nx := fun _ => False, rt := fun d _ => d = .bool true, bk := fun _ => False, ct := fun _ => False, er := fun _ _ => False }
theorem edLaw_ok {c : Cf} {F H : Hp} {O : Ow} {σ : L2.St} {Q : VK} (q : ∀ H', Q (.bl true) H') : Pst c F O σ H { nx := fun _ H' => Q .non H', rt := Q } edLaw :=
  ⟨fun _ z => z.elim, fun d ρ' e F' O' σ' v H' s' w' _ r => by
    have e : d = .bool true := e
    subst e
    cases r
    exact q _, fun _ z => z.elim, fun _ z => z.elim, fun _ _ z => z.elim⟩
/-- a call that may let an error out, which W takes -/
def tCallX (sp : Sp) (W : WX) (t : TA) : TE := fun σ H Q => t σ H fun vs H1 => sp vs H1 Q fun cls d H' => W cls d σ H'
theorem pe_callX {X : Cx} {W : WX} {k : Nat} {f : Addr} {fd : FuncData} {ps : List Str} {sp : Sp} {x : Str} {p pos : Pos} {e : Expr} {es : List Expr} {t : TA}
    (F : FnOk X.prog X.w X.K X.mg X.base (L2.CX X.prog X.w) k f fd ps sp) (hr : Room k X.A) (hg : Gl X x) (hm : X.mg x = some (.ref f)) (hk : PySem.W.keepIn X.K (.ref f) = true) (hb : Binds X.K fd ps []) (tk : Takes X W)
    (ha : PA X (e :: es) t) (hdb : (x == ("__debug__" : Str)) = false := by decide) (he : starEach (e :: es) X.env = (false, eval e X.env) :: starEach es X.env := by rfl) (hpl : (backTo pos (starEach es X.env)).any (·.1) = false := by rfl) :
    PE X (.Call (.Name x p) (e :: es) [] pos) (tCallX sp W t) := by
  refine ⟨fun pins s σ H Q I h => ?_⟩
  refine wpAny_Call_Name_kw (ld_glob I hg hm ?_ hdb)
  refine PySem.W.callWith_K (h₀ := X.base) I.ok.mod.kin hk (thn (ha.run pos pins s σ H _ I h) fun us s1 ⟨vs, H1, I1, r, q⟩ => ⟨I1.kIn, ?_⟩) he hpl
  have r2 : Vals (vs ++ []) (us ++ []) := r.append .nil
  rw [List.append_nil, List.append_nil] at r2
  have hl : us.length = ps.length := by rw [← r2.length]; exact F.len _ _ _ _ q
  have hbb := hb s1 us I1.kIn (by rw [List.append_nil]; exact hl)
  rw [List.append_nil] at hbb
  refine wpAny_call (codeAny_mono (F.run X.A X.stack s1 H1 ⟨us, []⟩ us vs Q _ hr I1.env0 hbb r2 q) fun r s' hq => ?_)
  cases r with
  | error e => exact tk e s' (XE.of_call I1 (fun cls d H' h => h) hq)
  | ok fl =>
    cases fl with
    | ret u => exact I1.after hq
    | next => exact False.elim hq
    | brk => exact False.elim hq
    | cont => exact False.elim hq
/-- f(k = v, ..) -/
def tCallXK (sp : Sp) (gV : List V → List V → List V) (W : WX) (t : TA) : TE := fun σ H Q => t σ H fun zs H1 => sp (gV [] zs) H1 Q fun cls d H' => W cls d σ H'
theorem pe_callXK {X : Cx} {W : WX} {k : Nat} {f : Addr} {fd : FuncData} {ps ks : List Str} {sp : Sp} {x : Str} {p pos : Pos} {kws : List Keyword} {tk : TA} {g : List Value → List Value → List Value} {gV : List V → List V → List V}
    (F : FnOk X.prog X.w X.K X.mg X.base (L2.CX X.prog X.w) k f fd ps sp) (hr : Room k X.A) (hg : Gl X x) (hm : X.mg x = some (.ref f)) (hk : PySem.W.keepIn X.K (.ref f) = true) (hb : KBinds X.K fd ps ks g gV) (tke : Takes X W) (hkw : PK X kws tk)
    (hall : (backToKw pos (keywordEach kws X.env)).all (·.1.isSome) = true := by rfl) (hks : (backToKw pos (keywordEach kws X.env)).filterMap (·.1) = ks := by rfl) (hdb : (x == ("__debug__" : Str)) = false := by decide)
    (hpl : ((backTo pos (starEach [] X.env)).any (·.1) || (backToKw pos (keywordEach kws X.env)).any (·.1.isNone)) = false := by rfl) :
    PE X (.Call (.Name x p) [] kws pos) (tCallXK sp gV W tk) := by
  refine ⟨fun pins s σ H Q I h => ?_⟩
  refine wpAny_Call_Name_kw (ld_glob I hg hm ?_ hdb)
  refine PySem.W.callWith_KW0 (h₀ := X.base) I.ok.mod.kin hk hall ?_ hpl
  refine thn (hkw.run pos pins s σ H _ I h) fun ws s2 ⟨zs, H2, I2, rz, q2⟩ => ⟨I2.kIn, ?_⟩
  rw [hks]
  have r2 := hb.rel (vs := []) (us := []) .nil rz
  have hl : (g [] ws).length = ps.length := by rw [← r2.length]; exact F.len _ _ _ _ q2
  refine wpAny_call (codeAny_mono (F.run X.A X.stack s2 H2 ⟨[], ks.zip ws⟩ (g [] ws) (gV [] zs) Q _ hr I2.env0 (hb.to s2 [] ws I2.kIn hl) r2 q2) fun r s' hq => ?_)
  cases r with
  | error e => exact tke e s' (XE.of_call I2 (fun cls d H' h => h) hq)
  | ok fl =>
    cases fl with
    | ret u => exact I2.after hq
    | next => exact False.elim hq
    | brk => exact False.elim hq
    | cont => exact False.elim hq
section
variable {c : Cf} {te ta tb : TE} {A B : WT Da} {a b : WT Ar}
theorem ie_callX {f : Fn} {pins : List Nat} {n : Nat} {t : TA} {as : WT (List Ar)} (h : IA c t as) : IE c (tCallX (spOf c.K c.xc pins n f) (fun cls d σ H => c.E σ cls d H) t) (tCal f pins n as) := ⟨fun F O ρ σ H Q P Px w ht hP hX =>
  h.run F O ρ σ H _ _ Px w ht (fun xs ρ1 q F1 O1 vs H1 s1 w1 al => by
    obtain ⟨ql, nd, hp, hf⟩ := q
    exact call_run (P := P) (Px := Px) w1 al ql nd hp hf (fun d ρ' p F' O' v H' s' w' r => hP d ρ' p F' O' v H' (s1.trans s') w' r) fun x ρ' p F' O' cls d H' s' w' r => hX x ρ' p F' O' cls d H' (s1.trans s') w' r) hX⟩
def tCalKX (f : Fn) (pins : List Nat) (n : Nat) (idx : List Nat) (as : WT (List Ar)) : WT Da := tCalK f pins n idx as
theorem ie_callXK {f : Fn} {pins : List Nat} {n : Nat} {idx : List Nat} {t : TA} {as : WT (List Ar)} {gV : List V → List V → List V} (hg : ∀ zs : List V, zs.length = idx.length → gV [] zs = pick idx zs) (h : IA c t as) :
    IE c (tCallXK (spOf c.K c.xc pins n f) gV (fun cls d σ H => c.E σ cls d H) t) (tCalK f pins n idx as) := ⟨fun F O ρ σ H Q P Px w ht hP hX =>
  h.run F O ρ σ H _ _ Px w ht (fun zs ρ1 q F1 O1 vs H1 s1 w1 al => by
    obtain ⟨hi, hl, ql, nd, hp, hf⟩ := q
    show spOf c.K c.xc pins n f (gV [] vs) H1 Q _
    rw [hg vs (by rw [al.len, hl])]
    exact call_run (P := P) (Px := Px) w1 (al.pick hi) ql nd hp hf (fun d ρ' p F' O' v H' s' w' r => hP d ρ' p F' O' v H' (s1.trans s') w' r) fun x ρ' p F' O' cls d H' s' w' r => hX x ρ' p F' O' cls d H' (s1.trans s') w' r) hX⟩
/-- raise C(e), C's __init__ by super() -/
def sRaise (k : Nat) (A : WT Da) : WS := fun ρ e => A ρ (fun d ρ1 => e.er ⟨k, d⟩ ρ1) e.er
theorem is_raise {k : Nat} {C : Addr} (hk : c.xc k = C) (h : IE c te A) : IS c (fun _ σ H => tMkO C (spSuI C "at") [] (tCons te tNil) σ H fun cls d H' => c.E σ cls d H') (sRaise k A) := ⟨fun F O ρ σ H D e w ht p =>
  h.run F O ρ σ H _ _ _ w ht (fun d ρ1 q F1 O1 v H1 s1 w1 r1 => by
    refine ⟨(show 1 ≤ 1000 from by decide), fun x hx => ⟨x, v, rfl, upd_same, fun dx h1 h2 => ⟨rfl, dx, [("at", v)], upd_same, ?_, ?_, ?_⟩⟩⟩
    · rw [upd_ne h2, upd_same]
    · rw [upd_ne h2] at h1; exact h1
    · rw [upd_ne h2] at h1
      have eH : upd (del (upd (upd (upd H1 x (exo x C none)) dx (exd dx [("at", v)])) x (exo x C (some dx))) x) dx (.xd [("at", v)]) = upd H1 dx (.xd [("at", v)]) := by
        funext y
        by_cases z1 : y = dx
        · subst z1; rw [upd_same, upd_same]
        · rw [upd_ne z1, upd_ne z1]
          by_cases z2 : y = x
          · subst z2; rw [del_same, hx]
          · rw [del_ne z2, upd_ne z2, upd_ne z1, upd_ne z2]
      rw [eH]
      obtain ⟨w2, s2⟩ := w1.newF h1 (.xd [("at", v)])
      exact p.er _ _ q _ _ σ _ _ _ (s1.trans s2) w2 (Pin.refl _ _) ⟨by rw [hk], dx, v, rfl, upd_same, Rp.mono (w1.ext s2) _ _ r1⟩) p.px⟩
/-- try: S, except C as n: U -/
def sTry (k i : Nat) (S : WS) (U : Addr → Addr → WS) : WS := fun ρ e => S ρ { e with er := fun x ρ1 => x.cls = k ∧ ∀ a dx, U a dx (ρ1.set i (.xs a dx x.at_)) { nx := fun ρ2 => e.nx (ρ2.set i .un), rt := e.rt, bk := fun ρ2 => e.bk (ρ2.set i .un), ct := fun ρ2 => e.ct (ρ2.set i .un), er := fun _ _ => False } }
theorem W.setU {ca : Addr} {F H : Hp} {O : Ow} {ρ : En} {σ : L2.St} (w : W ca F O ρ σ H) (i : Nat) {o : Option V} {s : Sl} (hs : SR ca F O H i o s) : W ca F O (ρ.set i s) (σ.set i o) H :=
  ⟨w.sub, w.ow, by rw [List.length_set, List.length_set]; exact w.len, fun j t hj => by
    by_cases z : i = j
    · subst z
      have hl : i < ρ.length := by
        have := (List.getElem?_eq_some_iff.mp hj).1
        rw [List.length_set] at this; exact this
      rw [List.getElem?_set_self hl] at hj
      cases hj
      exact ⟨o, List.getElem?_set_self (by rw [← w.len]; exact hl), hs⟩
    · rw [List.getElem?_set_ne z] at hj ⊢
      exact w.sl j t hj⟩
def tTry (K : PySem.W.Frag) (cv : Value) (i : Nat) (tb : WX → TS) (ts : Addr → Value → Option Addr → TS) (Wout : WX) : TS := fun D σ H => tb (wAs K cv i ts Wout D) D σ H
theorem ps_tryA {X : Cx} {x n : Str} {cv : Value} {i : Nat} {body suite : List Stmt} {b₀ : Stmt} {np pos pos' : Pos} {tb : WX → TS} {ts : Addr → Value → Option Addr → TS} {Wout : WX} (hs : X.stack = X.env :: X.outer) (hf : X.env.frame = some X.env.locals) (hN : X.N.Nodup) (hi : X.N[i]? = some n) (hln : X.env.kindOf n = some .local) (hc : Names X x cv) (tk : Takes X Wout)
    (hb : ∀ (W : WX) (pn : List (Addr × Obj)) (xe : Value → Shared → Prop), Takes (X.tr pn xe) W → PassesOwn (model X.prog X.w) X.A X.env xe → PSs (X.tr pn xe) body (tb W))
    (hsu : ∀ (a : Addr) (oe : Obj) (cls : Value) (d : Option Addr) (pn : List (Addr × Obj)), Zc cls d oe → (∃ vs, oe.data = .fields vs) → PSs (X.suite a ((a, oe) :: pn)) (b₀ :: suite) (ts a cls d)) :
    PS X (.Try body [.ExceptHandler (some (.Name x np)) (some n) (b₀ :: suite) pos'] [] [] pos) (tTry X.K cv i tb ts Wout) := ps_try_as hs hf hN hi hln hc tk hb hsu
theorem is_try {cv : Value} {tb : WX → TS} {ts : Addr → Value → Option Addr → TS} {Wout : WX} {k i : Nat} {S : WS} {U : Addr → Addr → WS} (hp : i ∉ c.pins) (hk : PySem.W.exmOne c.K (.ref (c.xc k)) cv = some true)
    (hb : ∀ E', IS ⟨c.K, c.ca, c.pins, E', c.xc⟩ (tb fun cls d σ H => E' σ cls d H) S) (hu : ∀ a dx E', IS ⟨c.K, c.ca, c.pins, E', c.xc⟩ (ts a (.ref (c.xc k)) (some dx)) (U a dx)) :
    IS c (tTry c.K cv i tb ts Wout) (sTry k i S U) := ⟨fun F O ρ σ H D e w ht p => by
  refine (hb fun σ cls d H => wAs c.K cv i ts Wout D cls d σ H).run F O ρ σ H D _ w ht ⟨p.nx, p.rt, p.bk, p.ct, ?_⟩
  rintro x ρ1 ⟨ek, hU⟩ F1 O1 σ1 cls d H1 s1 w1 pin1 ⟨ec, dx, v, ed, hd, r⟩
  subst ec ed
  rw [ek]
  refine ⟨true, hk, fun _ a ha => ?_, fun z => nomatch z⟩
  have w2 := w1.setU i (o := some (.ref a)) (s := .xs a dx x.at_) ⟨v, rfl, hd, r⟩
  have un : ∀ {F' H' : Hp} {O' : Ow} {ρ' : En} {σ' : L2.St}, W c.ca F' O' ρ' σ' H' → W c.ca F' O' (ρ'.set i .un) (σ'.set i none) H' := fun w => w.setU i (o := none) (s := .un) trivial
  have pin2 : Pin c σ (σ1.set i (some (.ref a))) := Pin.trans pin1 (Pin.set hp)
  refine (hu a dx fun _ _ _ _ => False).run F1 O1 _ _ H1 _ _ w2 (hU a dx) ⟨?_, ?_, ?_, ?_, fun _ _ z => z.elim⟩
  · exact fun ρ' h F' O' σ' H' s' w' q => p.nx _ h F' O' _ H' (s1.trans s') (un w') ((Pin.trans pin2 q).trans (Pin.set hp))
  · exact fun d' ρ' h F' O' σ' v' H' s' w' q r' => p.rt d' ρ' h F' O' σ' v' H' (s1.trans s') w' (Pin.trans pin2 q) r'
  · exact fun ρ' h F' O' σ' H' s' w' q => p.bk _ h F' O' _ H' (s1.trans s') (un w') ((Pin.trans pin2 q).trans (Pin.set hp))
  · exact fun ρ' h F' O' σ' H' s' w' q => p.ct _ h F' O' _ H' (s1.trans s') (un w') ((Pin.trans pin2 q).trans (Pin.set hp))⟩
/-- the error's at -/
def tAt (i : Nat) (a dx : Addr) : WT Da := fun ρ P _ => ∃ d, ρ[i]? = some (.xs a dx d) ∧ P d ρ
theorem ie_at {i k : Nat} {a dx : Addr} : IE c (L2.tXf a (.ref (c.xc k)) (some dx) (c.xc k) "at" (tVar i)) (tAt i a dx) := ⟨fun F O ρ σ H Q P Px w ht hP hX => by
  obtain ⟨d, h, hp⟩ := ht
  obtain ⟨o, eo, v, e, hd, r⟩ := w.sl i _ h
  subst e
  exact ⟨.ref a, eo, rfl, rfl, dx, _, v, rfl, w.sub _ _ hd, rfl, hP _ _ hp F O _ H (Stp.refl _ _ _) w r⟩⟩
end
end Ip
end
section
set_option Elab.async false
set_option linter.all false
set_option maxRecDepth 100000
namespace Ip
open PySem L2
@[simp] theorem sim_tE (A : WT Da) (ρ : En) (P : Ar → En → Prop) (Px : Ex → En → Prop) : Ip.tE A ρ P Px = (A ρ (fun d ρ' => P (.v d) ρ') Px) := id rfl
@[simp] theorem sim_tLu (i : Nat) (ρ : En) (P : Ar → En → Prop) (x2 : Ex → En → Prop) : Ip.tLu i ρ P x2 = ((∃ s, ρ[i]? = some s ∧ notUn s) ∧ P (.l i) ρ) := id rfl
@[simp] theorem sim_tV (i : Nat) (ρ : En) (P : Da → En → Prop) (x2 : Ex → En → Prop) : Ip.tV i ρ P x2 = (tVs i ρ P ρ[i]?) := id rfl
@[simp] theorem sim_tK (d : Da) (ρ : En) (P : Da → En → Prop) (x2 : Ex → En → Prop) : Ip.tK d ρ P x2 = (P d ρ) := id rfl
@[simp] theorem sim_tB2 (f : Da → Da → Option Da) (A B : WT Ar) (ρ : En) (P : Da → En → Prop) (Px : Ex → En → Prop) : Ip.tB2 f A B ρ P Px = (A ρ (fun x ρ1 => B ρ1 (fun y ρ2 => ∃ d e g, res x ρ2 = some d ∧ res y ρ2 = some e ∧ f d e = some g ∧ P g ρ2) Px) Px) := id rfl
@[simp] theorem sim_tB1 (f : Da → Option Da) (A : WT Ar) (ρ : En) (P : Da → En → Prop) (Px : Ex → En → Prop) : Ip.tB1 f A ρ P Px = (A ρ (fun x ρ1 => ∃ d g, res x ρ1 = some d ∧ f d = some g ∧ P g ρ1) Px) := id rfl
@[simp] theorem sim_tAnd2 (A B : WT Da) (ρ : En) (P : Da → En → Prop) (Px : Ex → En → Prop) : Ip.tAnd2 A B ρ P Px = (A ρ (fun x ρ1 => (x = .bool true ∧ B ρ1 P Px) ∨ (x = .bool false ∧ P (.bool false) ρ1)) Px) := id rfl
@[simp] theorem sim_tOr2 (A B : WT Da) (ρ : En) (P : Da → En → Prop) (Px : Ex → En → Prop) : Ip.tOr2 A B ρ P Px = (A ρ (fun x ρ1 => (x = .bool true ∧ P (.bool true) ρ1) ∨ (x = .bool false ∧ B ρ1 P Px)) Px) := id rfl
@[simp] theorem sim_tNot1 (A : WT Da) (ρ : En) (P : Da → En → Prop) (Px : Ex → En → Prop) : Ip.tNot1 A ρ P Px = (A ρ (fun x ρ1 => ∃ b, x = .bool b ∧ P (.bool (!b)) ρ1) Px) := id rfl
@[simp] theorem sim_tIte (C : WT Bool) (A B : WT Da) (ρ : En) (P : Da → En → Prop) (Px : Ex → En → Prop) : Ip.tIte C A B ρ P Px = (C ρ (fun b ρ1 => (b = true ∧ A ρ1 P Px) ∨ (b = false ∧ B ρ1 P Px)) Px) := id rfl
@[simp] theorem sim_tTst (A : WT Da) (ρ : En) (P : Bool → En → Prop) (Px : Ex → En → Prop) : Ip.tTst A ρ P Px = (A ρ (fun d ρ' => ∃ b, d = .bool b ∧ P b ρ') Px) := id rfl
@[simp] theorem sim_tbAnd (A B : WT Bool) (ρ : En) (P : Bool → En → Prop) (Px : Ex → En → Prop) : Ip.tbAnd A B ρ P Px = (A ρ (fun b ρ1 => (b = true ∧ B ρ1 P Px) ∨ (b = false ∧ P false ρ1)) Px) := id rfl
@[simp] theorem sim_tbOr (A B : WT Bool) (ρ : En) (P : Bool → En → Prop) (Px : Ex → En → Prop) : Ip.tbOr A B ρ P Px = (A ρ (fun b ρ1 => (b = true ∧ P true ρ1) ∨ (b = false ∧ B ρ1 P Px)) Px) := id rfl
@[simp] theorem sim_tbNot (A : WT Bool) (ρ : En) (P : Bool → En → Prop) (Px : Ex → En → Prop) : Ip.tbNot A ρ P Px = (A ρ (fun b ρ1 => P (!b) ρ1) Px) := id rfl
@[simp] theorem sim_tA0 (ρ : En) (P : (List Ar) → En → Prop) (x2 : Ex → En → Prop) : Ip.tA0  ρ P x2 = (P [] ρ) := id rfl
@[simp] theorem sim_tA (a : WT Ar) (as : WT (List Ar)) (ρ : En) (P : (List Ar) → En → Prop) (Px : Ex → En → Prop) : Ip.tA a as ρ P Px = (a ρ (fun x ρ1 => as ρ1 (fun xs ρ2 => P (x :: xs) ρ2) Px) Px) := id rfl
@[simp] theorem sim_tTupD (as : WT (List Ar)) (ρ : En) (P : Da → En → Prop) (Px : Ex → En → Prop) : Ip.tTupD as ρ P Px = (as ρ (fun xs ρ1 => ∃ ds, frzL xs = some ds ∧ ds.length ≤ 100000 ∧ P (.tuple ds) ρ1) Px) := id rfl
@[simp] theorem sim_tFr (T : WT (List Da)) (ρ : En) (P : Da → En → Prop) (Px : Ex → En → Prop) : Ip.tFr T ρ P Px = (T ρ (fun ds ρ' => P (.list ds) ρ') Px) := id rfl
@[simp] theorem sim_tLstD (as : WT (List Ar)) (ρ : En) (P : (List Da) → En → Prop) (Px : Ex → En → Prop) : Ip.tLstD as ρ P Px = (as ρ (fun xs ρ1 => ∃ ds, frzL xs = some ds ∧ ds.length ≤ 100000 ∧ P ds ρ1) Px) := id rfl
@[simp] theorem sim_sNext (ρ : En) (e : Ed) : Ip.sNext  ρ e = (e.nx ρ) := id rfl
@[simp] theorem sim_sSeq (S U : WS) (ρ : En) (e : Ed) : Ip.sSeq S U ρ e = (S ρ { e with nx := fun ρ1 => U ρ1 e }) := id rfl
@[simp] theorem sim_sRet (A : WT Da) (ρ : En) (e : Ed) : Ip.sRet A ρ e = (A ρ e.rt e.er) := id rfl
@[simp] theorem sim_sRetN (ρ : En) (e : Ed) : Ip.sRetN  ρ e = (e.rt .none ρ) := id rfl
@[simp] theorem sim_sIf (C : WT Bool) (S U : WS) (ρ : En) (e : Ed) : Ip.sIf C S U ρ e = (C ρ (fun b ρ1 => (b = true ∧ S ρ1 e) ∨ (b = false ∧ U ρ1 e)) e.er) := id rfl
@[simp] theorem sim_sDrop (A : WT Da) (ρ : En) (e : Ed) : Ip.sDrop A ρ e = (A ρ (fun _ ρ1 => e.nx ρ1) e.er) := id rfl
@[simp] theorem sim_sNever (_ : En) (x1 : Ed) : Ip.sNever  x0 x1 = (False) := id rfl
@[simp] theorem sim_sSet (i : Nat) (A : WT Da) (ρ : En) (e : Ed) : Ip.sSet i A ρ e = (A ρ (fun d ρ1 => e.nx (ρ1.set i (.fz d))) e.er) := id rfl
@[simp] theorem sim_sSetT (i : Nat) (T : WT (List Da)) (ρ : En) (e : Ed) : Ip.sSetT i T ρ e = (T ρ (fun ds ρ1 => e.nx (ρ1.set i (.ol ds))) e.er) := id rfl
@[simp] theorem sim_sAsg (A : WT Da) (G : WG) (ρ : En) (e : Ed) : Ip.sAsg A G ρ e = (A ρ (fun d ρ1 => G d ρ1 e.nx) e.er) := id rfl
@[simp] theorem sim_sFor (T : WT (List Da)) (G : WG) (B : WS) (ρ : En) (e : Ed) : Ip.sFor T G B ρ e = (T ρ (fun ds ρ1 => forL G B e ds ρ1) e.er) := id rfl
@[simp] theorem sim_sWhile (C : WT Bool) (B : WS) (ρ : En) (e : Ed) : Ip.sWhile C B ρ e = (∃ I : Nat → En → Prop, (∃ n, I n ρ) ∧ ∀ n ρ, I n ρ →
  C ρ (fun b ρ1 => (b = true ∧ B ρ1 { e with nx := fun ρ2 => ∃ m, m < n ∧ I m ρ2, ct := fun ρ2 => ∃ m, m < n ∧ I m ρ2, bk := e.nx }) ∨ (b = false ∧ e.nx ρ1)) e.er) := id rfl
@[simp] theorem sim_tLcD (T : WT (List Da)) (G : WG) (Tt : WT Bool) (A : WT Da) (vs : List Nat) (ρ : En) (P : (List Da) → En → Prop) (Px : Ex → En → Prop) : Ip.tLcD T G Tt A vs ρ P Px = (T ρ (fun ds ρ1 => lcL G Tt A vs P Px [] ds ρ1) Px) := id rfl
@[simp] theorem sim_tCal (f : Fn) (pins : List Nat) (n : Nat) (as : WT (List Ar)) (ρ : En) (P : Da → En → Prop) (Px : Ex → En → Prop) : Ip.tCal f pins n as ρ P Px = (as ρ (fun xs ρ1 => xs.length = n ∧ (lents xs).Nodup ∧ (lpos 0 xs).all (fun j => pins.contains j) = true ∧
  f (psOf xs ρ1) (fun d ps => okB xs (psOf xs ρ1) ps ∧ P d (wb xs ps ρ1)) (fun x ps => okB xs (psOf xs ρ1) ps ∧ Px x (wb xs ps ρ1))) Px) := id rfl
@[simp] theorem sim_tChn (f g : Da → Da → Option Da) (a b e : WT Ar) (ρ : En) (P : Da → En → Prop) (Px : Ex → En → Prop) : Ip.tChn f g a b e ρ P Px = (a ρ (fun x ρ1 => b ρ1 (fun y ρ2 => ∃ d1 d2 k, res x ρ2 = some d1 ∧ res y ρ2 = some d2 ∧ f d1 d2 = some (.bool k) ∧
  ((k = true ∧ e ρ2 (fun z ρ3 => ∃ d2' d3 h, res y ρ3 = some d2' ∧ res z ρ3 = some d3 ∧ g d2' d3 = some h ∧ P h ρ3) Px) ∨ (k = false ∧ P (.bool false) ρ2))) Px) Px) := id rfl
@[simp] theorem sim_tO0 (ρ : En) (P : (Option Int) → En → Prop) (x2 : Ex → En → Prop) : Ip.tO0  ρ P x2 = (P none ρ) := id rfl
@[simp] theorem sim_tO1 (a : WT Ar) (ρ : En) (P : (Option Int) → En → Prop) (Px : Ex → En → Prop) : Ip.tO1 a ρ P Px = (a ρ (fun x ρ1 => ∃ i, res x ρ1 = some (.int i) ∧ P (some i) ρ1) Px) := id rfl
@[simp] theorem sim_tSlD (a : WT Ar) (lo hi : WT (Option Int)) (ρ : En) (P : Da → En → Prop) (Px : Ex → En → Prop) : Ip.tSlD a lo hi ρ P Px = (a ρ (fun x ρ1 => lo ρ1 (fun l ρ2 => hi ρ2 (fun h ρ3 => ∃ d g, res x ρ3 = some d ∧ pSl d l h = some g ∧ P g ρ3) Px) Px) Px) := id rfl
@[simp] theorem sim_tRevD (a : WT Ar) (ρ : En) (P : (List Da) → En → Prop) (Px : Ex → En → Prop) : Ip.tRevD a ρ P Px = (a ρ (fun x ρ1 => ∃ ds, res x ρ1 = some (.list ds) ∧ P ds.reverse ρ1) Px) := id rfl
@[simp] theorem sim_tCb (f : List Da → Option Da) (as : WT (List Ar)) (ρ : En) (P : Da → En → Prop) (Px : Ex → En → Prop) : Ip.tCb f as ρ P Px = (as ρ (fun xs ρ1 => ∃ ds g, resL xs ρ1 = some ds ∧ f ds = some g ∧ P g ρ1) Px) := id rfl
@[simp] theorem sim_tCbT (f : List Da → Option (List Da)) (as : WT (List Ar)) (ρ : En) (P : (List Da) → En → Prop) (Px : Ex → En → Prop) : Ip.tCbT f as ρ P Px = (as ρ (fun xs ρ1 => ∃ ds g, resL xs ρ1 = some ds ∧ f ds = some g ∧ P g ρ1) Px) := id rfl
@[simp] theorem sim_sApp (i : Nat) (A : WT Da) (ρ : En) (e : Ed) : Ip.sApp i A ρ e = ((∃ ds, ρ[i]? = some (.ol ds)) ∧ A ρ (fun d ρ1 => ∃ ds, ρ1[i]? = some (.ol ds) ∧ ds.length < 100000 ∧ e.nx (ρ1.set i (.ol (ds ++ [d])))) e.er) := id rfl
@[simp] theorem sim_sExt (i : Nat) (a : WT Ar) (ρ : En) (e : Ed) : Ip.sExt i a ρ e = ((∃ ds, ρ[i]? = some (.ol ds)) ∧ a ρ (fun x ρ1 => ∃ ds es, ρ1[i]? = some (.ol ds) ∧ res x ρ1 = some (.list es) ∧ ds.length + es.length ≤ 100000 ∧ e.nx (ρ1.set i (.ol (ds ++ es)))) e.er) := id rfl
@[simp] theorem sim_tPopAt (i : Nat) (a : WT Ar) (ρ : En) (P : Da → En → Prop) (Px : Ex → En → Prop) : Ip.tPopAt i a ρ P Px = ((∃ ds, ρ[i]? = some (.ol ds)) ∧ a ρ (fun x ρ1 => ∃ ds j k d, ρ1[i]? = some (.ol ds) ∧ res x ρ1 = some (.int j) ∧ ixN ds.length j = some k ∧ ds.length ≤ 100000 ∧ ds[k]? = some d ∧ P d (ρ1.set i (.ol (ds.eraseIdx k)))) Px) := id rfl
@[simp] theorem sim_tPop (i : Nat) (ρ : En) (P : Da → En → Prop) (x2 : Ex → En → Prop) : Ip.tPop i ρ P x2 = (∃ ds d, ρ[i]? = some (.ol (ds ++ [d])) ∧ P d (ρ.set i (.ol ds))) := id rfl
@[simp] theorem sim_sSetIx (i : Nat) (A : WT Da) (b : WT Ar) (ρ : En) (e : Ed) : Ip.sSetIx i A b ρ e = (A ρ (fun d ρ1 => (∃ ds, ρ1[i]? = some (.ol ds)) ∧ b ρ1 (fun x ρ2 => ∃ ds j k, ρ2[i]? = some (.ol ds) ∧ res x ρ2 = some (.int j) ∧ ixN ds.length j = some k ∧ e.nx (ρ2.set i (.ol (ds.set k d)))) e.er) e.er) := id rfl
@[simp] theorem sim_tMet (f : Da → Da → Option Da) (a b : WT Ar) (ρ : En) (P : Da → En → Prop) (Px : Ex → En → Prop) : Ip.tMet f a b ρ P Px = (a ρ (fun x ρ1 => (∃ ds, res x ρ1 = some (.list ds)) ∧ b ρ1 (fun y ρ2 => ∃ d e g, res x ρ2 = some d ∧ res y ρ2 = some e ∧ f d e = some g ∧ P g ρ2) Px) Px) := id rfl
@[simp] theorem sim_tSeqI (A : WT Da) (ρ : En) (P : (List Da) → En → Prop) (Px : Ex → En → Prop) : Ip.tSeqI A ρ P Px = (A ρ (fun d ρ1 => ∃ ds, seqD d = some ds ∧ P ds ρ1) Px) := id rfl
@[simp] theorem sim_tRg1 (as : WT (List Ar)) (ρ : En) (P : (List Da) → En → Prop) (Px : Ex → En → Prop) : Ip.tRg1 as ρ P Px = (as ρ (fun xs ρ1 => ∃ j, resL xs ρ1 = some [.int j] ∧ -(2 ^ 62) ≤ j ∧ j < 2 ^ 62 ∧ P (rng 0 j.toNat) ρ1) Px) := id rfl
@[simp] theorem sim_tRg2 (as : WT (List Ar)) (ρ : En) (P : (List Da) → En → Prop) (Px : Ex → En → Prop) : Ip.tRg2 as ρ P Px = (as ρ (fun xs ρ1 => ∃ i j, resL xs ρ1 = some [.int i, .int j] ∧ (-(2 ^ 62) ≤ i ∧ i < 2 ^ 62 ∧ -(2 ^ 62) ≤ j ∧ j < 2 ^ 62) ∧ P (rng i (j - i).toNat) ρ1) Px) := id rfl
@[simp] theorem sim_tEnI (A : WT Da) (ρ : En) (P : (List Da) → En → Prop) (Px : Ex → En → Prop) : Ip.tEnI A ρ P Px = (A ρ (fun d ρ1 => ∃ ds, seqD d = some ds ∧ P (enumF 0 ds) ρ1) Px) := id rfl
@[simp] theorem sim_tXf (A : WT Da) (ρ : En) (P : Ax → En → Prop) (Px : Ex → En → Prop) : Ip.tXf A ρ P Px = (A ρ (fun d ρ' => P (.f d) ρ') Px) := id rfl
@[simp] theorem sim_tXt (T : WT (List Da)) (ρ : En) (P : Ax → En → Prop) (Px : Ex → En → Prop) : Ip.tXt T ρ P Px = (T ρ (fun d ρ' => P (.t d) ρ') Px) := id rfl
@[simp] theorem sim_tX0 (ρ : En) (P : (List Ax) → En → Prop) (x2 : Ex → En → Prop) : Ip.tX0  ρ P x2 = (P [] ρ) := id rfl
@[simp] theorem sim_tXc (a : WT Ax) (as : WT (List Ax)) (ρ : En) (P : (List Ax) → En → Prop) (Px : Ex → En → Prop) : Ip.tXc a as ρ P Px = (a ρ (fun x ρ1 => as ρ1 (fun xs ρ2 => P (x :: xs) ρ2) Px) Px) := id rfl
@[simp] theorem sim_sPar (i j : Nat) (as : WT (List Ax)) (ρ : En) (e : Ed) : Ip.sPar i j as ρ e = (as ρ (fun xs ρ1 => ∃ x y, xs = [x, y] ∧ e.nx (setX (setX ρ1 i x) j y)) e.er) := id rfl
@[simp] theorem sim_sPar3 (i j l : Nat) (as : WT (List Ax)) (ρ : En) (e : Ed) : Ip.sPar3 i j l as ρ e = (as ρ (fun xs ρ1 => ∃ x y z, xs = [x, y, z] ∧ e.nx (setX (setX (setX ρ1 i x) j y) l z)) e.er) := id rfl
@[simp] theorem sim_tB2T (f : Da → Da → Option (List Da)) (A B : WT Ar) (ρ : En) (P : (List Da) → En → Prop) (Px : Ex → En → Prop) : Ip.tB2T f A B ρ P Px = (A ρ (fun x ρ1 => B ρ1 (fun y ρ2 => ∃ d e g, res x ρ2 = some d ∧ res y ρ2 = some e ∧ f d e = some g ∧ P g ρ2) Px) Px) := id rfl
@[simp] theorem sim_tR1 (a : WT Ar) (ρ : En) (P : (Int × Int) → En → Prop) (Px : Ex → En → Prop) : Ip.tR1 a ρ P Px = (a ρ (fun x ρ1 => ∃ j, res x ρ1 = some (.int j) ∧ P (0, j) ρ1) Px) := id rfl
@[simp] theorem sim_tR2 (a b : WT Ar) (ρ : En) (P : (Int × Int) → En → Prop) (Px : Ex → En → Prop) : Ip.tR2 a b ρ P Px = (a ρ (fun x ρ1 => b ρ1 (fun y ρ2 => ∃ i j, res x ρ2 = some (.int i) ∧ res y ρ2 = some (.int j) ∧ P (i, j) ρ2) Px) Px) := id rfl
@[simp] theorem sim_tLRg (r : WT (Int × Int)) (ρ : En) (P : (List Da) → En → Prop) (Px : Ex → En → Prop) : Ip.tLRg r ρ P Px = (r ρ (fun b ρ1 => -100000 ≤ b.1 ∧ b.2 ≤ 100000 ∧ b.1 ≤ 100000 ∧ -100000 ≤ b.2 ∧ P (rng b.1 (b.2 - b.1).toNat) ρ1) Px) := id rfl
@[simp] theorem sim_tTRg (r : WT (Int × Int)) (ρ : En) (P : Da → En → Prop) (Px : Ex → En → Prop) : Ip.tTRg r ρ P Px = (r ρ (fun b ρ1 => -100000 ≤ b.1 ∧ b.2 ≤ 100000 ∧ b.1 ≤ 100000 ∧ -100000 ≤ b.2 ∧ P (.tuple (rng b.1 (b.2 - b.1).toNat)) ρ1) Px) := id rfl
@[simp] theorem sim_tSrtSet (a : WT Ar) (ρ : En) (P : (List Da) → En → Prop) (Px : Ex → En → Prop) : Ip.tSrtSet a ρ P Px = (a ρ (fun x ρ1 => ∃ ns, res x ρ1 = some (.list (ns.map .int)) ∧ ns.length < 64 ∧ P ((srtd ns).map .int) ρ1) Px) := id rfl
@[simp] theorem sim_tLenSet (a : WT Ar) (ρ : En) (P : Da → En → Prop) (Px : Ex → En → Prop) : Ip.tLenSet a ρ P Px = (a ρ (fun x ρ1 => ∃ ns, res x ρ1 = some (.list (ns.map .int)) ∧ ns.length < 64 ∧ P (.int (srtd ns).length) ρ1) Px) := id rfl
@[simp] theorem sim_tYesD (ρ : En) (P : Bool → En → Prop) (x2 : Ex → En → Prop) : Ip.tYesD  ρ P x2 = (P true ρ) := id rfl
@[simp] theorem sim_tIteT (C : WT Bool) (A B : WT (List Da)) (ρ : En) (P : (List Da) → En → Prop) (Px : Ex → En → Prop) : Ip.tIteT C A B ρ P Px = (C ρ (fun b ρ1 => (b = true ∧ A ρ1 P Px) ∨ (b = false ∧ B ρ1 P Px)) Px) := id rfl
@[simp] theorem sim_tAst (a : WT Ar) (as : WT (List Ar)) (ρ : En) (P : (List Ar) → En → Prop) (Px : Ex → En → Prop) : Ip.tAst a as ρ P Px = (a ρ (fun x ρ1 => ∃ d ds, res x ρ1 = some d ∧ seqD d = some ds ∧ as ρ1 (fun xs ρ2 => P (ds.map .v ++ xs) ρ2) Px) Px) := id rfl
@[simp] theorem sim_tLc2D (T : WT (List Da)) (G : WG) (Tt : WT Bool) (T1 : WT (List Da)) (G1 : WG) (Tt1 : WT Bool) (A : WT Da) (vs vs1 : List Nat) (ρ : En) (P : (List Da) → En → Prop) (Px : Ex → En → Prop) : Ip.tLc2D T G Tt T1 G1 Tt1 A vs vs1 ρ P Px = (T ρ (fun ds ρ1 => lc2L G Tt T1 G1 Tt1 A vs vs1 P [] ds ρ1) Px) := id rfl
@[simp] theorem sim_sDct (i : Nat) (t : List (Str × Str)) (ρ : En) (e : Ed) : Ip.sDct i t ρ e = (e.nx (ρ.set i (.odK (strD t)))) := id rfl
@[simp] theorem sim_tDgK (i : Nat) (b : WT Ar) (ρ : En) (P : Da → En → Prop) (Px : Ex → En → Prop) : Ip.tDgK i b ρ P Px = ((∃ kds, ρ[i]? = some (.odK kds)) ∧ b ρ (fun x ρ1 => ∃ kds y k d, ρ1[i]? = some (.odK kds) ∧ res x ρ1 = some y ∧ kOf y = some k ∧ lookK kds k = some d ∧ P d ρ1) Px) := id rfl
@[simp] theorem sim_tCalK (f : Fn) (pins : List Nat) (n : Nat) (idx : List Nat) (as : WT (List Ar)) (ρ : En) (P : Da → En → Prop) (Px : Ex → En → Prop) : Ip.tCalK f pins n idx as ρ P Px = (as ρ (fun zs ρ1 => (∀ i ∈ idx, i < zs.length) ∧ zs.length = idx.length ∧ (pick idx zs).length = n ∧ (lents (pick idx zs)).Nodup ∧ (lpos 0 (pick idx zs)).all (fun j => pins.contains j) = true ∧
  f (psOf (pick idx zs) ρ1) (fun d ps => okB (pick idx zs) (psOf (pick idx zs) ρ1) ps ∧ P d (wb (pick idx zs) ps ρ1)) (fun x ps => okB (pick idx zs) (psOf (pick idx zs) ρ1) ps ∧ Px x (wb (pick idx zs) ps ρ1))) Px) := id rfl
@[simp] theorem sim_tDlNe (i : Nat) (ρ : En) (P : Da → En → Prop) (x2 : Ex → En → Prop) : Ip.tDlNe i ρ P x2 = (∃ cs b, ρ[i]? = some (.dl cs b) ∧ P (.bool (!decide (cs = []))) ρ) := id rfl
@[simp] theorem sim_tDlIx (i : Nat) (b : WT Ar) (ρ : En) (P : Da → En → Prop) (Px : Ex → En → Prop) : Ip.tDlIx i b ρ P Px = ((∃ cs b, ρ[i]? = some (.dl cs b)) ∧ b ρ (fun x ρ1 => ∃ cs bb j v, ρ1[i]? = some (.dl cs bb) ∧ res x ρ1 = some (.int j) ∧ atI cs j = some v ∧ P (.int v) ρ1) Px) := id rfl
@[simp] theorem sim_tDlPop (i : Nat) (ρ : En) (P : Da → En → Prop) (x2 : Ex → En → Prop) : Ip.tDlPop i ρ P x2 = (∃ cs k b, ρ[i]? = some (.dl (cs ++ [k]) b) ∧ P (.int k) (ρ.set i (.dl cs b))) := id rfl
@[simp] theorem sim_sDlApp (i : Nat) (A : WT Da) (ρ : En) (e : Ed) : Ip.sDlApp i A ρ e = ((∃ cs b, ρ[i]? = some (.dl cs b)) ∧ A ρ (fun d ρ1 => ∃ cs b k, ρ1[i]? = some (.dl cs b) ∧ d = .int k ∧ cs.length < 100000 ∧ e.nx (ρ1.set i (.dl (cs ++ [k]) b))) e.er) := id rfl
@[simp] theorem sim_tDlB (i : Nat) (ρ : En) (P : Da → En → Prop) (x2 : Ex → En → Prop) : Ip.tDlB i ρ P x2 = (∃ cs b, ρ[i]? = some (.dl cs b) ∧ P (.int b) ρ) := id rfl
@[simp] theorem sim_sDlB (i : Nat) (A : WT Da) (ρ : En) (e : Ed) : Ip.sDlB i A ρ e = (A ρ (fun d ρ1 => ∃ cs b k, ρ1[i]? = some (.dl cs b) ∧ d = .int k ∧ e.nx (ρ1.set i (.dl cs k))) e.er) := id rfl
@[simp] theorem sim_tScr (K : PySem.W.Frag) (i : Nat) (ρ : En) (P : Da → En → Prop) (x2 : Ex → En → Prop) : Ip.tScr K i ρ P x2 = (∃ ns, ρ[i]? = some (.scr K ns) ∧ ∀ ms : List Int, ms.length ≤ ns.length → (∀ m ∈ ms, m ∈ ns) → P (.list (ms.map PyData.int)) ρ) := id rfl
@[simp] theorem sim_sRaise (k : Nat) (A : WT Da) (ρ : En) (e : Ed) : Ip.sRaise k A ρ e = (A ρ (fun d ρ1 => e.er ⟨k, d⟩ ρ1) e.er) := id rfl
@[simp] theorem sim_sTry (k i : Nat) (S : WS) (U : Addr → Addr → WS) (ρ : En) (e : Ed) : Ip.sTry k i S U ρ e = (S ρ { e with er := fun x ρ1 => x.cls = k ∧ ∀ a dx, U a dx (ρ1.set i (.xs a dx x.at_)) { nx := fun ρ2 => e.nx (ρ2.set i .un), rt := e.rt, bk := fun ρ2 => e.bk (ρ2.set i .un), ct := fun ρ2 => e.ct (ρ2.set i .un), er := fun _ _ => False } }) := id rfl
@[simp] theorem sim_tAt (i : Nat) (a dx : Addr) (ρ : En) (P : Da → En → Prop) (x2 : Ex → En → Prop) : Ip.tAt i a dx ρ P x2 = (∃ d, ρ[i]? = some (.xs a dx d) ∧ P d ρ) := id rfl
@[simp] theorem sim_cal (f : Fn) (pins : List Nat) (n : Nat) (as : WT (List Ar)) (ρ : En) (P : Da → En → Prop) (Px : Ex → En → Prop) : tCal f pins n as ρ P Px = (as ρ (fun xs ρ1 => xs.length = n ∧ (lents xs).Nodup ∧ (lpos 0 xs).all (fun j => pins.contains j) = true ∧
  f (psOf xs ρ1) (fun d ps => okB xs (psOf xs ρ1) ps ∧ P d (wb xs ps ρ1)) (fun x ps => okB xs (psOf xs ρ1) ps ∧ Px x (wb xs ps ρ1))) Px) := id rfl
end Ip
end
section
set_option Elab.async false
set_option linter.all false
set_option maxRecDepth 100000
namespace Ip
open PySem L2
/-! ### what the words over data give, as rows for simp -/
section
variable {α : Type} (d e : Da) (ds es : List Da) (i j : Int) (k : Nat) (ρ : En) (as : List Ar) (x y : Str) (b c : Bool) (g : Da → Option Da) (h : Da → Da → Option Da)
@[simp] theorem v_res1 : res (.v d) ρ = some d := id rfl
@[simp] theorem v_res2 : res (.l k) ρ = slv ρ[k]? := id rfl
@[simp] theorem v_slv1 : slv (some (.fz d)) = some d := id rfl
@[simp] theorem v_slv2 : slv (some (.ol ds)) = some (.list ds) := id rfl
@[simp] theorem v_tVs1 (P : Da → En → Prop) : tVs k ρ P (some (.fz d)) = P d ρ := id rfl
@[simp] theorem v_tVs2 (P : Da → En → Prop) : tVs k ρ P (some (.ol ds)) = P (.list ds) (ρ.set k (.fz (.list ds))) := id rfl
@[simp] theorem v_notUn1 : notUn (.fz d) = True := id rfl
@[simp] theorem v_notUn2 : notUn (.ol ds) = True := id rfl
@[simp] theorem v_notUn3 (cs : List Int) : notUn (.dl cs i) = True := id rfl
@[simp] theorem v_resL0 : resL [] ρ = some [] := id rfl
@[simp] theorem v_resL1 (a : Ar) : resL (a :: as) ρ = (res a ρ).bind fun d => (resL as ρ).map (d :: ·) := by
  show (match res a ρ, resL as ρ with | some d, some ds => some (d :: ds) | _, _ => none) = _
  cases res a ρ with
  | none => rfl
  | some d => cases resL as ρ <;> rfl
@[simp] theorem v_frzL0 : frzL [] = some [] := id rfl
@[simp] theorem v_frzL1 : frzL (.v d :: as) = (frzL as).map (d :: ·) := id rfl
@[simp] theorem v_f1 : f1 g [d] = g d := id rfl
@[simp] theorem v_f2 : f2 h [d, e] = h d e := id rfl
@[simp] theorem v_f1T (t : Da → Option (List Da)) : f1T t [d] = t d := id rfl
@[simp] theorem v_len1 : pLen (.list ds) = some (.int ds.length) := id rfl
@[simp] theorem v_len2 : pLen (.tuple ds) = some (.int ds.length) := id rfl
@[simp] theorem v_int : pInt (.int i) = some (.int i) := id rfl
@[simp] theorem v_abs : pAbs (.int i) = some (.int (if i < 0 then -i else i)) := id rfl
@[simp] theorem v_neg : pNeg (.int i) = some (.int (-i)) := id rfl
@[simp] theorem v_add : pAdd (.int i) (.int j) = some (.int (i + j)) := id rfl
theorem v_addT : pAdd (.tuple ds) (.tuple es) = if ds.length + es.length ≤ 100000 then some (.tuple (ds ++ es)) else none := rfl
theorem v_addL : pAdd (.list ds) (.list es) = if ds.length + es.length ≤ 100000 then some (.list (ds ++ es)) else none := rfl
@[simp] theorem v_sub : pSub (.int i) (.int j) = some (.int (i - j)) := id rfl
@[simp] theorem v_lt : pLt (.int i) (.int j) = some (.bool (decide (i < j))) := id rfl
@[simp] theorem v_le : pLe (.int i) (.int j) = some (.bool (decide (i ≤ j))) := id rfl
@[simp] theorem v_gt : pGt (.int i) (.int j) = some (.bool (decide (j < i))) := id rfl
@[simp] theorem v_ge : pGe (.int i) (.int j) = some (.bool (decide (j ≤ i))) := id rfl
theorem v_mod : pMod (.int i) (.int j) = if 0 < j then some (.int (i % j)) else none := rfl
theorem v_div : pDiv (.int i) (.int j) = if 0 < j ∧ j < 1073741824 then some (.int (i / j)) else none := rfl
theorem v_mul : pMul (.int i) (.int j) = if i.natAbs.log2 < bitCap ∧ j.natAbs.log2 < bitCap then some (.int (i * j)) else none := rfl
theorem shaped_int : SeqAt.shaped (.int i) = true := by
  unfold SeqAt.shaped
  rw [Bool.and_eq_true]
  exact ⟨rfl, decide_eq_true (by unfold PyData.depth; omega)⟩
@[simp] theorem v_eqI : pEq (.int i) (.int j) = some (.bool (i == j)) := by
  unfold pEq
  rw [if_pos ⟨shaped_int i, shaped_int j⟩]; rfl
@[simp] theorem v_neI : pNe (.int i) (.int j) = some (.bool (!(i == j))) := by
  unfold pNe
  rw [if_pos ⟨shaped_int i, shaped_int j⟩]; rfl
theorem shaped_str (h : PyData.strOk x = true) : SeqAt.shaped (.str x) = true := by
  unfold SeqAt.shaped
  rw [Bool.and_eq_true]
  exact ⟨h, decide_eq_true (by unfold PyData.depth; omega)⟩
theorem v_eqS (hx : PyData.strOk x = true) (hy : PyData.strOk y = true) : pEq (.str x) (.str y) = some (.bool (x == y)) := by
  unfold pEq
  rw [if_pos ⟨shaped_str x hx, shaped_str y hy⟩]; rfl
@[simp] theorem v_ix1 : pIx (.list ds) (.int i) = atI ds i := id rfl
@[simp] theorem v_ix2 : pIx (.tuple ds) (.int i) = atI ds i := id rfl
theorem atI_nat {α : Type} {l : List α} {k : Nat} {a : α} (h : l[k]? = some a) : atI l (k : Int) = some a := by
  have hk := (List.getElem?_eq_some_iff.mp h).1
  unfold atI ixN
  rw [if_pos (by omega), if_pos (by omega)]
  exact h
@[simp] theorem v_at0 (a : α) (l : List α) : atI (a :: l) 0 = some a := atI_nat (k := 0) rfl
@[simp] theorem v_at1 (a b : α) (l : List α) : atI (a :: b :: l) 1 = some b := atI_nat (k := 1) rfl
theorem v_atLast (a : α) (l : List α) : atI (l ++ [a]) (-1) = some a := by
  unfold atI ixN
  rw [if_neg (by omega), List.length_append, List.length_singleton, if_pos (by omega)]
  show (l ++ [a])[((-1 : Int) + ((l.length + 1 : Nat) : Int)).toNat]? = _
  rw [show ((-1 : Int) + ((l.length + 1 : Nat) : Int)).toNat = l.length by omega]
  exact List.getElem?_concat_length
@[simp] theorem v_seq1 : seqD (.list ds) = some ds := id rfl
@[simp] theorem v_seq2 : seqD (.tuple ds) = some ds := id rfl
@[simp] theorem v_isi_tup : pIsi "tuple" (.tuple ds) = some (.bool true) := id rfl
@[simp] theorem v_isi_str : pIsi "str" (.str x) = some (.bool true) := id rfl
@[simp] theorem v_isi_int : pIsi "int" (.int i) = some (.bool true) := id rfl
@[simp] theorem v_isi_int2 : pIsi "bool" (.int i) = some (.bool false) := id rfl
@[simp] theorem v_isB (n : Bool) : pIsN n (.bool b) (.bool c) = some (.bool (if n then !(decide (b = c)) else decide (b = c))) := id rfl
@[simp] theorem v_isNone (n : Bool) : pIsN n d .none = some (.bool (if n then !isNoneD d else isNoneD d)) := by cases d <;> rfl
@[simp] theorem v_tup1 : pTupOf (.list ds) = some (.tuple ds) := id rfl
@[simp] theorem v_tup2 : pTupOf (.tuple ds) = some (.tuple ds) := id rfl
@[simp] theorem v_lst1 : pListOf (.list ds) = some ds := id rfl
@[simp] theorem v_lst2 : pListOf (.tuple ds) = some ds := id rfl
@[simp] theorem v_repr : pRepr (.bool b) = some (.str (boolText b)) := id rfl
@[simp] theorem v_psOf0 : psOf [] ρ = [] := id rfl
@[simp] theorem v_psOf1 : psOf (.v d :: as) ρ = .fz d :: psOf as ρ := id rfl
@[simp] theorem v_psOf2 : psOf (.l k :: as) ρ = (ρ[k]?).getD .un :: psOf as ρ := id rfl
@[simp] theorem v_lents0 : lents [] = [] := id rfl
@[simp] theorem v_lents1 : lents (.v d :: as) = lents as := id rfl
@[simp] theorem v_lents2 : lents (.l k :: as) = k :: lents as := id rfl
@[simp] theorem v_lpos0 : lpos k [] = [] := id rfl
@[simp] theorem v_lpos1 : lpos k (.v d :: as) = lpos (k + 1) as := id rfl
@[simp] theorem v_lpos2 (m : Nat) : lpos k (.l m :: as) = k :: lpos (k + 1) as := id rfl
@[simp] theorem v_okB0 : okB [] [] [] = True := id rfl
@[simp] theorem v_okB1 (p r : Sl) (ps rs : List Sl) : okB (.v d :: as) (p :: ps) (r :: rs) = okB as ps rs := id rfl
@[simp] theorem v_okB2 (p r : Sl) (ps rs : List Sl) : okB (.l k :: as) (p :: ps) (r :: rs) = (kindOk p r ∧ okB as ps rs) := id rfl
@[simp] theorem v_kind1 (cs cs' : List Int) : kindOk (.dl cs i) (.dl cs' j) = True := id rfl
@[simp] theorem v_wb0 (ss : List Sl) : wb [] ss ρ = ρ := id rfl
@[simp] theorem v_wb1 (s : Sl) (ss : List Sl) : wb (.v d :: as) (s :: ss) ρ = wb as ss ρ := id rfl
@[simp] theorem v_wb2 (s : Sl) (ss : List Sl) : wb (.l k :: as) (s :: ss) ρ = wb as ss (ρ.set k s) := id rfl
@[simp] theorem v_gs0 (P : En → Prop) : gs0 ds ρ P = (ds = [] ∧ P ρ) := id rfl
@[simp] theorem v_gs1 (G : WG) (Gs : WGs) (P : En → Prop) : gs1 G Gs ds ρ P = (∃ d r, ds = d :: r ∧ G d ρ (fun ρ1 => Gs r ρ1 P)) := id rfl
@[simp] theorem v_gN (P : En → Prop) : gN k d ρ P = P (ρ.set k (.fz d)) := id rfl
@[simp] theorem v_gT (n : Nat) (Gs : WGs) (P : En → Prop) : gT n Gs d ρ P = (∃ ds, d = .tuple ds ∧ ds.length = n ∧ Gs ds ρ P) := id rfl
@[simp] theorem v_setX1 : setX ρ k (.f d) = ρ.set k (.fz d) := id rfl
@[simp] theorem v_setX2 : setX ρ k (.t ds) = ρ.set k (.ol ds) := id rfl
@[simp] theorem v_wipe0 : wipeE ρ [] = ρ := id rfl
@[simp] theorem v_wipe1 (v : Nat) (vs : List Nat) : wipeE ρ (v :: vs) = (wipeE ρ vs).set v .un := id rfl
@[simp] theorem v_back0 (ρ0 : En) : backE ρ0 ρ [] = ρ := id rfl
@[simp] theorem v_back1 (ρ0 : En) (v : Nat) (vs : List Nat) : backE ρ0 ρ (v :: vs) = (backE ρ0 ρ vs).set v (keepS ρ0[v]?) := id rfl
@[simp] theorem v_keep1 : keepS (some (.fz d)) = .fz d := id rfl
@[simp] theorem v_keep2 : keepS (some .un) = .un := id rfl
theorem log2_lt {i : Int} {m : Nat} (h : i.natAbs < 2 ^ m) (hm : m ≤ bitCap) (h0 : 0 < m) : i.natAbs.log2 < bitCap := by
  by_cases z : i.natAbs = 0
  · rw [z]; show 0 < bitCap; omega
  · exact Nat.lt_of_lt_of_le ((Nat.log2_lt z).mpr h) hm
theorem mulOk {m : Nat} (h1 : i.natAbs < 2 ^ m) (h2 : j.natAbs < 2 ^ m) (hm : m ≤ bitCap) (h0 : 0 < m) : pMul (.int i) (.int j) = some (.int (i * j)) := by
  rw [v_mul, if_pos ⟨log2_lt h1 hm h0, log2_lt h2 hm h0⟩]
theorem modOk (h : 0 < j) : pMod (.int i) (.int j) = some (.int (i % j)) := by rw [v_mod, if_pos h]
theorem divOk (h : 0 < j) (h2 : j < 1073741824) : pDiv (.int i) (.int j) = some (.int (i / j)) := by rw [v_div, if_pos ⟨h, h2⟩]
end
end Ip
end
section
set_option Elab.async false
set_option linter.all false
set_option maxRecDepth 100000
namespace Ip
open PySem L2
/-! ### loops by what they keep -/
abbrev noX : Ex → En → Prop := fun _ _ => False
/-- a comprehension: what it keeps, what each result is -/
theorem lc_inv {G : WG} {A : WT Da} {vs : List Nat} {P : List Da → En → Prop} {Px : Ex → En → Prop} (I : En → Prop) : ∀ (ds acc : List Da) (ρ : En) (Y : Nat → Da → Prop), I ρ → acc.length + ds.length ≤ 100000 →
    (∀ i d ρ, ds[i]? = some d → I ρ → ∀ R : Da → En → Prop, (∀ y ρ4, Y i y → I (backE ρ ρ4 vs) → R y ρ4) → G d (wipeE ρ vs) (fun ρ2 => A ρ2 R noX)) →
    (∀ ys ρ', I ρ' → ys.length = ds.length → (∀ i y, ys[i]? = some y → Y i y) → P (acc ++ ys) ρ') → lcL G tYesD A vs P Px acc ds ρ
  | [], acc, ρ, Y, h0, hl, hs, hp => by
    have := hp [] ρ h0 rfl (fun i y h => by simp at h)
    rw [List.append_nil] at this
    exact this
  | d :: ds, acc, ρ, Y, h0, hl, hs, hp => by
    rw [List.length_cons] at hl
    have step := hs 0 d ρ rfl h0 (fun y ρ4 => acc.length < 100000 ∧ lcL G tYesD A vs P Px (acc ++ [y]) ds (backE ρ ρ4 vs)) (fun y ρ4 hy h4 => ⟨by omega, ?_⟩)
    · unfold lcL
      have key : ∀ ρ2, (A ρ2 (fun y ρ4 => acc.length < 100000 ∧ lcL G tYesD A vs P Px (acc ++ [y]) ds (backE ρ ρ4 vs)) noX) = tYesD ρ2 (fun b ρ3 => (b = true ∧ A ρ3 (fun y ρ4 => acc.length < 100000 ∧ lcL G tYesD A vs P Px (acc ++ [y]) ds (backE ρ ρ4 vs)) (fun _ _ => False)) ∨
        (b = false ∧ lcL G tYesD A vs P Px acc ds (backE ρ ρ3 vs))) (fun _ _ => False) := fun ρ2 => by
        unfold tYesD
        simp
      simp only [← key]
      exact step
    · refine lc_inv I ds (acc ++ [y]) _ (fun i z => Y (i + 1) z) h4 (by rw [List.length_append, List.length_singleton]; omega) (fun i e ρ he hi => hs (i + 1) e ρ (by simpa using he) hi) (fun ys ρ' hi hy2 hY => ?_)
      have := hp (y :: ys) ρ' hi (by rw [List.length_cons, List.length_cons, hy2]) (fun i z hz => by
        cases i with
        | zero => simp at hz; rw [← hz]; exact hy
        | succ i => exact hY i z (by simpa using hz))
      rw [List.append_assoc]
      exact this
/-- a comprehension that leaves the names as they were, each result by its element -/
theorem lc_det {G : WG} {Tt : WT Bool} {A : WT Da} {vs : List Nat} {P : List Da → En → Prop} {Px : Ex → En → Prop} {ρ : En} (f : Da → Option Da) : ∀ (ds acc : List Da), acc.length + ds.length ≤ 100000 →
    (∀ d ∈ ds, ∀ (S1 : Da → En → Prop) (S0 : En → Prop), (∀ y, f d = some y → ∀ ρ4, backE ρ ρ4 vs = ρ → S1 y ρ4) → (f d = none → ∀ ρ3, backE ρ ρ3 vs = ρ → S0 ρ3) →
      G d (wipeE ρ vs) (fun ρ2 => Tt ρ2 (fun b ρ3 => (b = true ∧ A ρ3 S1 noX) ∨ (b = false ∧ S0 ρ3)) noX)) →
    P (acc ++ ds.filterMap f) ρ → lcL G Tt A vs P Px acc ds ρ
  | [], acc, hl, hs, hp => by
    rw [List.filterMap_nil, List.append_nil] at hp
    exact hp
  | d :: ds, acc, hl, hs, hp => by
    rw [List.length_cons] at hl
    unfold lcL
    refine hs d List.mem_cons_self _ _ (fun y hy ρ4 e4 => ⟨by omega, ?_⟩) (fun hn ρ3 e3 => ?_)
    · rw [e4]
      refine lc_det f ds _ (by rw [List.length_append, List.length_singleton]; omega) (fun e he => hs e (List.mem_cons_of_mem _ he)) ?_
      rw [List.filterMap_cons, hy] at hp
      rw [List.append_assoc]
      exact hp
    · rw [e3]
      refine lc_det f ds _ (by omega) (fun e he => hs e (List.mem_cons_of_mem _ he)) ?_
      rw [List.filterMap_cons, hn] at hp
      exact hp
/-- for: what holds ahead of turn i -/
theorem for_inv {G : WG} {B : WS} {e : Ed} : ∀ (ds : List Da) (ρ : En) (I : Nat → En → Prop), I 0 ρ →
    (∀ i d ρ, ds[i]? = some d → I i ρ → ∀ N : En → Prop, (∀ ρ', I (i + 1) ρ' → N ρ') → G d ρ (fun ρ1 => B ρ1 { e with nx := N, ct := N, bk := e.nx })) → (∀ ρ, I ds.length ρ → e.nx ρ) → forL G B e ds ρ
  | [], ρ, I, h0, hs, hn => hn ρ h0
  | d :: ds, ρ, I, h0, hs, hn => by
    unfold forL
    refine hs 0 d ρ rfl h0 _ fun ρ' h' => ?_
    exact for_inv ds ρ' (fun i => I (i + 1)) h' (fun i e ρ he hi => hs (i + 1) e ρ (by simpa using he) hi) (fun ρ hi => hn ρ hi)
end Ip
end
section
set_option Elab.async false
set_option linter.all false
set_option maxRecDepth 100000
set_option maxHeartbeats 4000000
namespace K84
open PySem L2 Ip PySem.Spec PyProof.Rows
/-! ### the text -/
def XC (A : Nat → Addr) : Nat → Addr := fun k => match k with | 0 => A 9 | _ => 0
def topS (i : Nat) : Stmt := PySem.Challenge.pw_morelistpicks_k84_whole_conditions_over.main.body.getD i (.Pass ⟨0, 0, 0, 0⟩)
abbrev s_is_integer : Stmt := topS 1
abbrev s_is_number : Stmt := topS 2
abbrev s_is_index : Stmt := topS 3
abbrev s_is_row_of : Stmt := topS 4
abbrev s_element : Stmt := topS 6
abbrev s_choice_count : Stmt := topS 12
abbrev s_choices : Stmt := topS 13
abbrev s_is_row_within : Stmt := topS 20
abbrev s_is_sum_tree : Stmt := topS 21
abbrev s_form_degree : Stmt := topS 22
abbrev s_is_condition : Stmt := topS 23
abbrev s_sum_worth : Stmt := topS 24
abbrev s_holds : Stmt := topS 25
abbrev s_held : Stmt := topS 26
abbrev s_pairs_of : Stmt := topS 27
abbrev s_straight_of : Stmt := topS 28
abbrev s_straight : Stmt := topS 29
abbrev s__law_draw : Stmt := topS 31
abbrev s__law_any : Stmt := topS 32
abbrev s__law_of : Stmt := topS 33
abbrev s__law_mixed : Stmt := topS 34
abbrev s__law_element : Stmt := topS 35
abbrev s__law_great : Stmt := topS 36
abbrev s__law_row : Stmt := topS 37
abbrev s__law_sizes : Stmt := topS 38
abbrev s__law_choices : Stmt := topS 39
abbrev s__law_sum_worth : Stmt := topS 40
abbrev s__law_holds : Stmt := topS 41
abbrev s__law_paired : Stmt := topS 42
abbrev s__law_inward : Stmt := topS 43
abbrev s__law_leaf : Stmt := topS 44
abbrev s__law_sum : Stmt := topS 45
abbrev s__law_condition : Stmt := topS 46
abbrev s__law_bad_sum : Stmt := topS 47
abbrev s__law_spoilt : Stmt := topS 48
abbrev s_law : Stmt := topS 49
theorem sc_is_integer : FnScope ["value"] ["value"] (defScope s_is_integer) := ⟨rfl, rfl, rfl, by decide +kernel, rfl, by decide +kernel, by decide +kernel⟩
theorem sc_is_number : FnScope ["value"] ["value"] (defScope s_is_number) := ⟨rfl, rfl, rfl, by decide +kernel, rfl, by decide +kernel, by decide +kernel⟩
theorem sc_is_index : FnScope ["value", "many"] ["value", "many"] (defScope s_is_index) := ⟨rfl, rfl, rfl, by decide +kernel, rfl, by decide +kernel, by decide +kernel⟩
theorem sc_is_row_of : FnScope ["value", "sizes"] ["value", "sizes"] (defScope s_is_row_of) := ⟨rfl, rfl, rfl, by decide +kernel, rfl, by decide +kernel, by decide +kernel⟩
theorem sc_element : FnScope ["p", "number"] ["p", "number"] (defScope s_element) := ⟨rfl, rfl, rfl, by decide +kernel, rfl, by decide +kernel, by decide +kernel⟩
theorem sc_choice_count : FnScope ["lists", "found", "row"] ["lists"] (defScope s_choice_count) := ⟨rfl, rfl, rfl, by decide +kernel, rfl, by decide +kernel, by decide +kernel⟩
theorem sc_choices : FnScope ["lists", "found", "row", "choice", "one"] ["lists"] (defScope s_choices) := ⟨rfl, rfl, rfl, by decide +kernel, rfl, by decide +kernel, by decide +kernel⟩
theorem sc_is_row_within : FnScope ["value", "most"] ["value", "most"] (defScope s_is_row_within) := ⟨rfl, rfl, rfl, by decide +kernel, rfl, by decide +kernel, by decide +kernel⟩
theorem sc_is_sum_tree : FnScope ["n", "value", "word", "inner", "part"] ["n", "value"] (defScope s_is_sum_tree) := ⟨rfl, rfl, rfl, by decide +kernel, rfl, by decide +kernel, by decide +kernel⟩
theorem sc_form_degree : FnScope ["tree", "word", "inner", "found", "part"] ["tree"] (defScope s_form_degree) := ⟨rfl, rfl, rfl, by decide +kernel, rfl, by decide +kernel, by decide +kernel⟩
theorem sc_is_condition : FnScope ["n", "value", "word", "inner", "part"] ["n", "value"] (defScope s_is_condition) := ⟨rfl, rfl, rfl, by decide +kernel, rfl, by decide +kernel, by decide +kernel⟩
theorem sc_sum_worth : FnScope ["p", "tree", "choice", "word", "inner", "found", "part", "by"] ["p", "tree", "choice"] (defScope s_sum_worth) := ⟨rfl, rfl, rfl, by decide +kernel, rfl, by decide +kernel, by decide +kernel⟩
theorem sc_holds : FnScope ["p", "condition", "choice", "word", "inner", "worths", "part"] ["p", "condition", "choice"] (defScope s_holds) := ⟨rfl, rfl, rfl, by decide +kernel, rfl, by decide +kernel, by decide +kernel⟩
theorem sc_held : FnScope ["p", "lists", "condition", "choice"] ["p", "lists", "condition"] (defScope s_held) := ⟨rfl, rfl, rfl, by decide +kernel, rfl, by decide +kernel, by decide +kernel⟩
theorem sc_pairs_of : FnScope ["word", "inner", "at", "one", "other"] ["word", "inner"] (defScope s_pairs_of) := ⟨rfl, rfl, rfl, by decide +kernel, rfl, by decide +kernel, by decide +kernel⟩
theorem sc_straight_of : FnScope ["condition", "is_turned", "word", "inner", "told", "parts", "pair", "part"] ["condition", "is_turned"] (defScope s_straight_of) := ⟨rfl, rfl, rfl, by decide +kernel, rfl, by decide +kernel, by decide +kernel⟩
theorem sc_straight : FnScope ["condition"] ["condition"] (defScope s_straight) := ⟨rfl, rfl, rfl, by decide +kernel, rfl, by decide +kernel, by decide +kernel⟩
theorem sc__law_draw : FnScope ["script", "salt", "cells", "blend", "cell"] ["script", "salt"] (defScope s__law_draw) := ⟨rfl, rfl, rfl, by decide +kernel, rfl, by decide +kernel, by decide +kernel⟩
theorem sc__law_any : FnScope ["deal", "bound", "rest"] ["deal", "bound"] (defScope s__law_any) := ⟨rfl, rfl, rfl, by decide +kernel, rfl, by decide +kernel, by decide +kernel⟩
theorem sc__law_of : FnScope ["deal", "some"] ["deal", "some"] (defScope s__law_of) := ⟨rfl, rfl, rfl, by decide +kernel, rfl, by decide +kernel, by decide +kernel⟩
theorem sc__law_mixed : FnScope ["deal", "some", "left", "found"] ["deal", "some"] (defScope s__law_mixed) := ⟨rfl, rfl, rfl, by decide +kernel, rfl, by decide +kernel, by decide +kernel⟩
theorem sc__law_element : FnScope ["p", "number"] ["p", "number"] (defScope s__law_element) := ⟨rfl, rfl, rfl, by decide +kernel, rfl, by decide +kernel, by decide +kernel⟩
theorem sc__law_great : FnScope ["deal", "digits", "found", "turn"] ["deal", "digits"] (defScope s__law_great) := ⟨rfl, rfl, rfl, by decide +kernel, rfl, by decide +kernel, by decide +kernel⟩
theorem sc__law_row : FnScope ["deal", "p", "length", "digits", "some", "found", "step"] ["deal", "p", "length", "digits"] (defScope s__law_row) := ⟨rfl, rfl, rfl, by decide +kernel, rfl, by decide +kernel, by decide +kernel⟩
theorem sc__law_sizes : FnScope ["deal", "n", "most", "found", "left", "at", "great"] ["deal", "n", "most"] (defScope s__law_sizes) := ⟨rfl, rfl, rfl, by decide +kernel, rfl, by decide +kernel, by decide +kernel⟩
theorem sc__law_choices : FnScope ["lists", "found", "row", "later", "choice", "one"] ["lists"] (defScope s__law_choices) := ⟨rfl, rfl, rfl, by decide +kernel, rfl, by decide +kernel, by decide +kernel⟩
theorem sc__law_sum_worth : FnScope ["tree", "choice", "found", "part", "by"] ["tree", "choice"] (defScope s__law_sum_worth) := ⟨rfl, rfl, rfl, by decide +kernel, rfl, by decide +kernel, by decide +kernel⟩
theorem sc__law_holds : FnScope ["p", "condition", "choice", "good", "worths", "same", "part", "at", "one"] ["p", "condition", "choice"] (defScope s__law_holds) := ⟨rfl, rfl, rfl, by decide +kernel, rfl, by decide +kernel, by decide +kernel⟩
theorem sc__law_paired : FnScope ["condition", "word", "parts", "found", "at", "other", "part"] ["condition"] (defScope s__law_paired) := ⟨rfl, rfl, rfl, by decide +kernel, rfl, by decide +kernel, by decide +kernel⟩
theorem sc__law_inward : FnScope ["tree", "turned", "word", "parts", "other", "part"] ["tree", "turned"] (defScope s__law_inward) := ⟨rfl, rfl, rfl, by decide +kernel, rfl, by decide +kernel, by decide +kernel⟩
theorem sc__law_leaf : FnScope ["deal", "n"] ["deal", "n"] (defScope s__law_leaf) := ⟨rfl, rfl, rfl, by decide +kernel, rfl, by decide +kernel, by decide +kernel⟩
theorem sc__law_sum : FnScope ["deal", "n", "deep", "room", "form", "found", "turn", "at"] ["deal", "n", "deep", "room"] (defScope s__law_sum) := ⟨rfl, rfl, rfl, by decide +kernel, rfl, by decide +kernel, by decide +kernel⟩
theorem sc__law_condition : FnScope ["deal", "n", "deep", "form", "found", "turn", "at"] ["deal", "n", "deep"] (defScope s__law_condition) := ⟨rfl, rfl, rfl, by decide +kernel, rfl, by decide +kernel, by decide +kernel⟩
theorem sc__law_bad_sum : FnScope ["deal", "n", "one", "last", "odd"] ["deal", "n"] (defScope s__law_bad_sum) := ⟨rfl, rfl, rfl, by decide +kernel, rfl, by decide +kernel, by decide +kernel⟩
theorem sc__law_spoilt : FnScope ["deal", "n", "condition", "word", "inner", "at"] ["deal", "n", "condition"] (defScope s__law_spoilt) := ⟨rfl, rfl, rfl, by decide +kernel, rfl, by decide +kernel, by decide +kernel⟩
theorem sc_law : FnScope ["script", "deal", "p", "n", "condition", "told", "lists", "due", "choice", "good", "wide", "wrong", "size"] ["script"] (defScope s_law) := ⟨rfl, rfl, rfl, by decide +kernel, rfl, by decide +kernel, by decide +kernel⟩
abbrev c_MOST_CHOICES : Int := 20000
abbrev c_MOST_FORM : Int := 4
abbrev c_MOST_NUMBER : Int := 1000000000000000000000000000000
abbrev c_MOST_PARTS : Int := 10
abbrev c_MOST_SUMS : Int := 5
abbrev t_OTHER : List (Str × Str) := [("all", "some"), ("some", "all"), ("like", "unlike"), ("unlike", "like")]
structure Tx (P : Program) (K : PySem.W.Frag) (mg : Str → Option Value) (w : World) (A : Nat → Addr) (D : Nat → FuncData) : Prop where
  F_is_integer : Fun K "is_integer" "is_integer" s_is_integer (A 1) (D 1)
  g_is_integer : mg "is_integer" = some (.ref (A 1))
  F_is_number : Fun K "is_number" "is_number" s_is_number (A 2) (D 2)
  g_is_number : mg "is_number" = some (.ref (A 2))
  F_is_index : Fun K "is_index" "is_index" s_is_index (A 3) (D 3)
  g_is_index : mg "is_index" = some (.ref (A 3))
  F_is_row_of : Fun K "is_row_of" "is_row_of" s_is_row_of (A 4) (D 4)
  g_is_row_of : mg "is_row_of" = some (.ref (A 4))
  F_element : Fun K "element" "element" s_element (A 6) (D 6)
  g_element : mg "element" = some (.ref (A 6))
  F_choice_count : Fun K "choice_count" "choice_count" s_choice_count (A 12) (D 12)
  g_choice_count : mg "choice_count" = some (.ref (A 12))
  F_choices : Fun K "choices" "choices" s_choices (A 13) (D 13)
  g_choices : mg "choices" = some (.ref (A 13))
  F_is_row_within : Fun K "is_row_within" "is_row_within" s_is_row_within (A 20) (D 20)
  g_is_row_within : mg "is_row_within" = some (.ref (A 20))
  F_is_sum_tree : Fun K "is_sum_tree" "is_sum_tree" s_is_sum_tree (A 21) (D 21)
  g_is_sum_tree : mg "is_sum_tree" = some (.ref (A 21))
  F_form_degree : Fun K "form_degree" "form_degree" s_form_degree (A 22) (D 22)
  g_form_degree : mg "form_degree" = some (.ref (A 22))
  F_is_condition : Fun K "is_condition" "is_condition" s_is_condition (A 23) (D 23)
  g_is_condition : mg "is_condition" = some (.ref (A 23))
  F_sum_worth : Fun K "sum_worth" "sum_worth" s_sum_worth (A 24) (D 24)
  g_sum_worth : mg "sum_worth" = some (.ref (A 24))
  F_holds : Fun K "holds" "holds" s_holds (A 25) (D 25)
  g_holds : mg "holds" = some (.ref (A 25))
  F_held : Fun K "held" "held" s_held (A 26) (D 26)
  g_held : mg "held" = some (.ref (A 26))
  F_pairs_of : Fun K "pairs_of" "pairs_of" s_pairs_of (A 27) (D 27)
  g_pairs_of : mg "pairs_of" = some (.ref (A 27))
  F_straight_of : Fun K "straight_of" "straight_of" s_straight_of (A 28) (D 28)
  g_straight_of : mg "straight_of" = some (.ref (A 28))
  F_straight : Fun K "straight" "straight" s_straight (A 29) (D 29)
  g_straight : mg "straight" = some (.ref (A 29))
  F__law_draw : Fun K "_law_draw" "_law_draw" s__law_draw (A 31) (D 31)
  g__law_draw : mg "_law_draw" = some (.ref (A 31))
  F__law_any : Fun K "_law_any" "_law_any" s__law_any (A 32) (D 32)
  g__law_any : mg "_law_any" = some (.ref (A 32))
  F__law_of : Fun K "_law_of" "_law_of" s__law_of (A 33) (D 33)
  g__law_of : mg "_law_of" = some (.ref (A 33))
  F__law_mixed : Fun K "_law_mixed" "_law_mixed" s__law_mixed (A 34) (D 34)
  g__law_mixed : mg "_law_mixed" = some (.ref (A 34))
  F__law_element : Fun K "_law_element" "_law_element" s__law_element (A 35) (D 35)
  g__law_element : mg "_law_element" = some (.ref (A 35))
  F__law_great : Fun K "_law_great" "_law_great" s__law_great (A 36) (D 36)
  g__law_great : mg "_law_great" = some (.ref (A 36))
  F__law_row : Fun K "_law_row" "_law_row" s__law_row (A 37) (D 37)
  g__law_row : mg "_law_row" = some (.ref (A 37))
  F__law_sizes : Fun K "_law_sizes" "_law_sizes" s__law_sizes (A 38) (D 38)
  g__law_sizes : mg "_law_sizes" = some (.ref (A 38))
  F__law_choices : Fun K "_law_choices" "_law_choices" s__law_choices (A 39) (D 39)
  g__law_choices : mg "_law_choices" = some (.ref (A 39))
  F__law_sum_worth : Fun K "_law_sum_worth" "_law_sum_worth" s__law_sum_worth (A 40) (D 40)
  g__law_sum_worth : mg "_law_sum_worth" = some (.ref (A 40))
  F__law_holds : Fun K "_law_holds" "_law_holds" s__law_holds (A 41) (D 41)
  g__law_holds : mg "_law_holds" = some (.ref (A 41))
  F__law_paired : Fun K "_law_paired" "_law_paired" s__law_paired (A 42) (D 42)
  g__law_paired : mg "_law_paired" = some (.ref (A 42))
  F__law_inward : Fun K "_law_inward" "_law_inward" s__law_inward (A 43) (D 43)
  g__law_inward : mg "_law_inward" = some (.ref (A 43))
  F__law_leaf : Fun K "_law_leaf" "_law_leaf" s__law_leaf (A 44) (D 44)
  g__law_leaf : mg "_law_leaf" = some (.ref (A 44))
  F__law_sum : Fun K "_law_sum" "_law_sum" s__law_sum (A 45) (D 45)
  g__law_sum : mg "_law_sum" = some (.ref (A 45))
  F__law_condition : Fun K "_law_condition" "_law_condition" s__law_condition (A 46) (D 46)
  g__law_condition : mg "_law_condition" = some (.ref (A 46))
  F__law_bad_sum : Fun K "_law_bad_sum" "_law_bad_sum" s__law_bad_sum (A 47) (D 47)
  g__law_bad_sum : mg "_law_bad_sum" = some (.ref (A 47))
  F__law_spoilt : Fun K "_law_spoilt" "_law_spoilt" s__law_spoilt (A 48) (D 48)
  g__law_spoilt : mg "_law_spoilt" = some (.ref (A 48))
  F_law : Fun K "law" "law" s_law (A 49) (D 49)
  g_law : mg "law" = some (.ref (A 49))
  z_abs : mg "abs" = none
  z_all : mg "all" = none
  z_any : mg "any" = none
  z_bool : mg "bool" = none
  z_enumerate : mg "enumerate" = none
  z_int : mg "int" = none
  z_isinstance : mg "isinstance" = none
  z_len : mg "len" = none
  z_list : mg "list" = none
  z_max : mg "max" = none
  z_min : mg "min" = none
  z_range : mg "range" = none
  z_repr : mg "repr" = none
  z_set : mg "set" = none
  z_sorted : mg "sorted" = none
  z_str : mg "str" = none
  z_sum : mg "sum" = none
  z_super : mg "super" = none
  z_tuple : mg "tuple" = none
  c_MOST_CHOICES : ∃ u, mg "MOST_CHOICES" = some u ∧ RelV (.int c_MOST_CHOICES) u
  c_MOST_FORM : ∃ u, mg "MOST_FORM" = some u ∧ RelV (.int c_MOST_FORM) u
  c_MOST_NUMBER : ∃ u, mg "MOST_NUMBER" = some u ∧ RelV (.int c_MOST_NUMBER) u
  c_MOST_PARTS : ∃ u, mg "MOST_PARTS" = some u ∧ RelV (.int c_MOST_PARTS) u
  c_MOST_SUMS : ∃ u, mg "MOST_SUMS" = some u ∧ RelV (.int c_MOST_SUMS) u
  c_OTHER : ∃ u, mg "OTHER" = some u ∧ RelV (.ref (A 19)) u
  d_OTHER : ∀ x y, t_OTHER.lookup x = some y → KDct K w (A 19) x (.str y)
  gc_Refused : mg "Refused" = some (.ref (A 9))
  x_Refused : OexC K (A 9)
  i_Refused : PySem.W.findIn K (.ref (A 9)) "__init__" = some (some (.ref (A 1009)))
  t_Refused : PySem.W.typeIn K (.ref (A 1009)) = some (.type "function")
  n_Refused : ∀ {CX : CXT} {base : Heap}, FnOk P w K mg base CX 2 (A 1009) (D 1009) ["self", "at"] (spSuI (A 9) "at")
  bi_Refused : Binds K (D 1009) ["self", "at"] []
  xf_Refused : XfC K (A 9)
  e_Refused : PySem.W.exmOne K (.ref (A 9)) (.ref (A 9)) = some true
  na_Refused : PySem.W.findIn K (.ref (A 9)) "at" = some none
section
variable {P : Program} {K : PySem.W.Frag} {mg : Str → Option Value} {w : World} {A : Nat → Addr} {D : Nat → FuncData}
theorem b_is_integer (T : Tx P K mg w A D) : Binds K (D 1) ["value"] [] := T.F_is_integer.binds fun _ _ _ _ _ _ us hl => match us, hl with | [_], _ => rfl
theorem b_is_number (T : Tx P K mg w A D) : Binds K (D 2) ["value"] [] := T.F_is_number.binds fun _ _ _ _ _ _ us hl => match us, hl with | [_], _ => rfl
theorem b_is_index (T : Tx P K mg w A D) : Binds K (D 3) ["value", "many"] [] := T.F_is_index.binds fun _ _ _ _ _ _ us hl => match us, hl with | [_, _], _ => rfl
theorem b_is_row_of (T : Tx P K mg w A D) : Binds K (D 4) ["value", "sizes"] [] := T.F_is_row_of.binds fun _ _ _ _ _ _ us hl => match us, hl with | [_, _], _ => rfl
theorem b_element (T : Tx P K mg w A D) : Binds K (D 6) ["p", "number"] [] := T.F_element.binds fun _ _ _ _ _ _ us hl => match us, hl with | [_, _], _ => rfl
theorem b_choice_count (T : Tx P K mg w A D) : Binds K (D 12) ["lists"] [] := T.F_choice_count.binds fun _ _ _ _ _ _ us hl => match us, hl with | [_], _ => rfl
theorem b_choices (T : Tx P K mg w A D) : Binds K (D 13) ["lists"] [] := T.F_choices.binds fun _ _ _ _ _ _ us hl => match us, hl with | [_], _ => rfl
theorem b_is_row_within (T : Tx P K mg w A D) : Binds K (D 20) ["value", "most"] [] := T.F_is_row_within.binds fun _ _ _ _ _ _ us hl => match us, hl with | [_, _], _ => rfl
theorem b_is_sum_tree (T : Tx P K mg w A D) : Binds K (D 21) ["n", "value"] [] := T.F_is_sum_tree.binds fun _ _ _ _ _ _ us hl => match us, hl with | [_, _], _ => rfl
theorem b_form_degree (T : Tx P K mg w A D) : Binds K (D 22) ["tree"] [] := T.F_form_degree.binds fun _ _ _ _ _ _ us hl => match us, hl with | [_], _ => rfl
theorem b_is_condition (T : Tx P K mg w A D) : Binds K (D 23) ["n", "value"] [] := T.F_is_condition.binds fun _ _ _ _ _ _ us hl => match us, hl with | [_, _], _ => rfl
theorem b_sum_worth (T : Tx P K mg w A D) : Binds K (D 24) ["p", "tree", "choice"] [] := T.F_sum_worth.binds fun _ _ _ _ _ _ us hl => match us, hl with | [_, _, _], _ => rfl
theorem b_holds (T : Tx P K mg w A D) : Binds K (D 25) ["p", "condition", "choice"] [] := T.F_holds.binds fun _ _ _ _ _ _ us hl => match us, hl with | [_, _, _], _ => rfl
theorem b_held (T : Tx P K mg w A D) : Binds K (D 26) ["p", "lists", "condition"] [] := T.F_held.binds fun _ _ _ _ _ _ us hl => match us, hl with | [_, _, _], _ => rfl
theorem b_pairs_of (T : Tx P K mg w A D) : Binds K (D 27) ["word", "inner"] [] := T.F_pairs_of.binds fun _ _ _ _ _ _ us hl => match us, hl with | [_, _], _ => rfl
theorem b_straight_of (T : Tx P K mg w A D) : Binds K (D 28) ["condition", "is_turned"] [] := T.F_straight_of.binds fun _ _ _ _ _ _ us hl => match us, hl with | [_, _], _ => rfl
theorem b_straight (T : Tx P K mg w A D) : Binds K (D 29) ["condition"] [] := T.F_straight.binds fun _ _ _ _ _ _ us hl => match us, hl with | [_], _ => rfl
theorem b__law_draw (T : Tx P K mg w A D) : Binds K (D 31) ["script", "salt"] [] := T.F__law_draw.binds fun _ _ _ _ _ _ us hl => match us, hl with | [_, _], _ => rfl
theorem b__law_any (T : Tx P K mg w A D) : Binds K (D 32) ["deal", "bound"] [] := T.F__law_any.binds fun _ _ _ _ _ _ us hl => match us, hl with | [_, _], _ => rfl
theorem b__law_of (T : Tx P K mg w A D) : Binds K (D 33) ["deal", "some"] [] := T.F__law_of.binds fun _ _ _ _ _ _ us hl => match us, hl with | [_, _], _ => rfl
theorem b__law_mixed (T : Tx P K mg w A D) : Binds K (D 34) ["deal", "some"] [] := T.F__law_mixed.binds fun _ _ _ _ _ _ us hl => match us, hl with | [_, _], _ => rfl
theorem b__law_element (T : Tx P K mg w A D) : Binds K (D 35) ["p", "number"] [] := T.F__law_element.binds fun _ _ _ _ _ _ us hl => match us, hl with | [_, _], _ => rfl
theorem b__law_great (T : Tx P K mg w A D) : Binds K (D 36) ["deal", "digits"] [] := T.F__law_great.binds fun _ _ _ _ _ _ us hl => match us, hl with | [_, _], _ => rfl
theorem b__law_row (T : Tx P K mg w A D) : Binds K (D 37) ["deal", "p", "length", "digits"] [] := T.F__law_row.binds fun _ _ _ _ _ _ us hl => match us, hl with | [_, _, _, _], _ => rfl
theorem b__law_sizes (T : Tx P K mg w A D) : Binds K (D 38) ["deal", "n", "most"] [] := T.F__law_sizes.binds fun _ _ _ _ _ _ us hl => match us, hl with | [_, _, _], _ => rfl
theorem b__law_choices (T : Tx P K mg w A D) : Binds K (D 39) ["lists"] [] := T.F__law_choices.binds fun _ _ _ _ _ _ us hl => match us, hl with | [_], _ => rfl
theorem b__law_sum_worth (T : Tx P K mg w A D) : Binds K (D 40) ["tree", "choice"] [] := T.F__law_sum_worth.binds fun _ _ _ _ _ _ us hl => match us, hl with | [_, _], _ => rfl
theorem b__law_holds (T : Tx P K mg w A D) : Binds K (D 41) ["p", "condition", "choice"] [] := T.F__law_holds.binds fun _ _ _ _ _ _ us hl => match us, hl with | [_, _, _], _ => rfl
theorem b__law_paired (T : Tx P K mg w A D) : Binds K (D 42) ["condition"] [] := T.F__law_paired.binds fun _ _ _ _ _ _ us hl => match us, hl with | [_], _ => rfl
theorem b__law_inward (T : Tx P K mg w A D) : Binds K (D 43) ["tree", "turned"] [] := T.F__law_inward.binds fun _ _ _ _ _ _ us hl => match us, hl with | [_, _], _ => rfl
theorem b__law_leaf (T : Tx P K mg w A D) : Binds K (D 44) ["deal", "n"] [] := T.F__law_leaf.binds fun _ _ _ _ _ _ us hl => match us, hl with | [_, _], _ => rfl
theorem b__law_sum (T : Tx P K mg w A D) : Binds K (D 45) ["deal", "n", "deep", "room"] [] := T.F__law_sum.binds fun _ _ _ _ _ _ us hl => match us, hl with | [_, _, _, _], _ => rfl
theorem b__law_condition (T : Tx P K mg w A D) : Binds K (D 46) ["deal", "n", "deep"] [] := T.F__law_condition.binds fun _ _ _ _ _ _ us hl => match us, hl with | [_, _, _], _ => rfl
theorem b__law_bad_sum (T : Tx P K mg w A D) : Binds K (D 47) ["deal", "n"] [] := T.F__law_bad_sum.binds fun _ _ _ _ _ _ us hl => match us, hl with | [_, _], _ => rfl
theorem b__law_spoilt (T : Tx P K mg w A D) : Binds K (D 48) ["deal", "n", "condition"] [] := T.F__law_spoilt.binds fun _ _ _ _ _ _ us hl => match us, hl with | [_, _, _], _ => rfl
theorem b_law (T : Tx P K mg w A D) : Binds K (D 49) ["script"] [] := T.F_law.binds fun _ _ _ _ _ _ us hl => match us, hl with | [_], _ => rfl
def kg_0 {α : Type} : List α → List α → List α := fun us ws => match us, ws with | [], [x0] => [x0] | _, _ => []
theorem kv_0 : ∀ zs : List V, zs.length = 1 → kg_0 [] zs = pick [0] zs := fun zs h => match zs, h with | [_], _ => rfl
theorem kr_0 {vs : List V} {us : List Value} {zs : List V} {ws : List Value} (h : Vals vs us) (h2 : Vals zs ws) : Vals (kg_0 vs zs) (kg_0 us ws) := by
  cases h with
  | cons _ _ => exact .nil
  | nil => rcases h2 with _ | ⟨r0, _ | ⟨_, _⟩⟩ <;> first | exact .nil | exact (.cons r0 .nil)
def kg_021 {α : Type} : List α → List α → List α := fun us ws => match us, ws with | [], [x0, x1, x2] => [x0, x2, x1] | _, _ => []
theorem kv_021 : ∀ zs : List V, zs.length = 3 → kg_021 [] zs = pick [0, 2, 1] zs := fun zs h => match zs, h with | [_, _, _], _ => rfl
theorem kr_021 {vs : List V} {us : List Value} {zs : List V} {ws : List Value} (h : Vals vs us) (h2 : Vals zs ws) : Vals (kg_021 vs zs) (kg_021 us ws) := by
  cases h with
  | cons _ _ => exact .nil
  | nil => rcases h2 with _ | ⟨r0, _ | ⟨r1, _ | ⟨r2, _ | ⟨_, _⟩⟩⟩⟩ <;> first | exact .nil | exact (.cons r0 (.cons r2 (.cons r1 .nil)))
def kg_10 {α : Type} : List α → List α → List α := fun us ws => match us, ws with | [], [x0, x1] => [x1, x0] | _, _ => []
theorem kv_10 : ∀ zs : List V, zs.length = 2 → kg_10 [] zs = pick [1, 0] zs := fun zs h => match zs, h with | [_, _], _ => rfl
theorem kr_10 {vs : List V} {us : List Value} {zs : List V} {ws : List Value} (h : Vals vs us) (h2 : Vals zs ws) : Vals (kg_10 vs zs) (kg_10 us ws) := by
  cases h with
  | cons _ _ => exact .nil
  | nil => rcases h2 with _ | ⟨r0, _ | ⟨r1, _ | ⟨_, _⟩⟩⟩ <;> first | exact .nil | exact (.cons r1 (.cons r0 .nil))
def kg_210 {α : Type} : List α → List α → List α := fun us ws => match us, ws with | [], [x0, x1, x2] => [x2, x1, x0] | _, _ => []
theorem kv_210 : ∀ zs : List V, zs.length = 3 → kg_210 [] zs = pick [2, 1, 0] zs := fun zs h => match zs, h with | [_, _, _], _ => rfl
theorem kr_210 {vs : List V} {us : List Value} {zs : List V} {ws : List Value} (h : Vals vs us) (h2 : Vals zs ws) : Vals (kg_210 vs zs) (kg_210 us ws) := by
  cases h with
  | cons _ _ => exact .nil
  | nil => rcases h2 with _ | ⟨r0, _ | ⟨r1, _ | ⟨r2, _ | ⟨_, _⟩⟩⟩⟩ <;> first | exact .nil | exact (.cons r2 (.cons r1 (.cons r0 .nil)))
theorem kb_held_210 (T : Tx P K mg w A D) : KBinds K (D 26) ["p", "lists", "condition"] ["condition", "lists", "p"] kg_210 kg_210 := kb_of T.F_held (fun kV doc pm an cdv ct us ws hl => by
  unfold kg_210 at hl ⊢
  split at hl <;> first | (cases hl; done) | rfl) fun h h2 => kr_210 h h2
theorem kb_holds_021 (T : Tx P K mg w A D) : KBinds K (D 25) ["p", "condition", "choice"] ["p", "choice", "condition"] kg_021 kg_021 := kb_of T.F_holds (fun kV doc pm an cdv ct us ws hl => by
  unfold kg_021 at hl ⊢
  split at hl <;> first | (cases hl; done) | rfl) fun h h2 => kr_021 h h2
theorem kb_is_condition_10 (T : Tx P K mg w A D) : KBinds K (D 23) ["n", "value"] ["value", "n"] kg_10 kg_10 := kb_of T.F_is_condition (fun kV doc pm an cdv ct us ws hl => by
  unfold kg_10 at hl ⊢
  split at hl <;> first | (cases hl; done) | rfl) fun h h2 => kr_10 h h2
theorem kb_straight_0 (T : Tx P K mg w A D) : KBinds K (D 29) ["condition"] ["condition"] kg_0 kg_0 := kb_of T.F_straight (fun kV doc pm an cdv ct us ws hl => by
  unfold kg_0 at hl ⊢
  split at hl <;> first | (cases hl; done) | rfl) fun h h2 => kr_0 h h2
end
end K84
end
section
set_option Elab.async false
set_option linter.all false
set_option maxRecDepth 100000
set_option maxHeartbeats 4000000
namespace K84
open PySem L2 Ip PySem.Spec PyProof.Rows
section
variable {P : Program} {w : World} {K : PySem.W.Frag} {mg : Str → Option Value} {base : Heap} {A : Nat → Addr} {D : Nat → FuncData} {xc : Nat → Addr}
/-! is_integer -/
def f_is_integer : Fn := fnOf 1 0
    (sRet (tAnd2 (tB1 (pIsi "int") (tLu 0)) (tNot1 (tB1 (pIsi "bool") (tLu 0)))))
theorem f_is_integer_0 : ∀ ps P Px Px', f_is_integer ps P Px → f_is_integer ps P Px' := fun _ _ _ _ h => h
theorem ok_is_integer (T : Tx P K mg w A D) : FnOk P w K mg base CX0 1 (A 1) (D 1) ["value"] (spOf K xc [] 1 f_is_integer) :=
  fn_ip (k := 0) T.F_is_integer sc_is_integer (by decide) (by decide) (fun cdv A' outer s H E hr => ⟨_, (pss_one (ps_ret (pe_and (pe_callB call_isi (by rfl) T.z_isinstance boot_isinstance (pa_cons (pv 0) (pa_cons (pe_bltn rfl T.z_int (by decide +kernel) (show RelV (.ty "int") _ from rfl)) pa_nil))) (pe_one (pe_not (pe_callB call_isi (by rfl) T.z_isinstance boot_isinstance (pa_cons (pv 0) (pa_cons (pe_bltn rfl T.z_bool (by decide +kernel) (show RelV (.ty "bool") _ from rfl)) pa_nil)))))))), fun ca => (is_ret (ie_and (ie_isi (n := "int") (by decide) io_l) (ie_not (ie_isi (n := "bool") (by decide) io_l))))⟩)
/-! is_number -/
def f_is_number : Fn := fnOf 1 0
    (sRet (tAnd2 (tCal f_is_integer [] 1 (tA (tE (tV 0)) tA0)) (tB2 pGe (tLu 0) (tE (tK (.int 0))))))
theorem f_is_number_0 : ∀ ps P Px Px', f_is_number ps P Px → f_is_number ps P Px' := fun _ _ _ _ h => h
theorem ok_is_number (T : Tx P K mg w A D) : FnOk P w K mg base CX0 2 (A 2) (D 2) ["value"] (spOf K xc [] 1 f_is_number) :=
  fn_ip (k := 1) T.F_is_number sc_is_number (by decide) (by decide) (fun cdv A' outer s H E hr => ⟨_, (pss_one (ps_ret (pe_and (pe_call (ok_is_integer T) (hr.mono (by first | decide | omega)) rfl T.g_is_integer T.F_is_integer.kp (b_is_integer T) .nil pass0 (pa_cons (pv 0) pa_nil)) (pe_one (pe_cmpR op_ge (pv 0) pe_int (nomark _)))))), fun ca => (is_ret (ie_and (ie_call0 f_is_integer_0 (ia_cons (ie_e ie_v) ia_nil)) (ie_op ops_ge io_l (ie_e (ie_k fun _ => .int _)))))⟩)
/-! is_index -/
def f_is_index : Fn := fnOf 2 0
    (sRet (tAnd2 (tCal f_is_number [] 1 (tA (tE (tV 0)) tA0)) (tB2 pLt (tLu 0) (tLu 1))))
theorem f_is_index_0 : ∀ ps P Px Px', f_is_index ps P Px → f_is_index ps P Px' := fun _ _ _ _ h => h
theorem ok_is_index (T : Tx P K mg w A D) : FnOk P w K mg base CX0 3 (A 3) (D 3) ["value", "many"] (spOf K xc [] 2 f_is_index) :=
  fn_ip (k := 2) T.F_is_index sc_is_index (by decide) (by decide) (fun cdv A' outer s H E hr => ⟨_, (pss_one (ps_ret (pe_and (pe_call (ok_is_number T) (hr.mono (by first | decide | omega)) rfl T.g_is_number T.F_is_number.kp (b_is_number T) .nil pass0 (pa_cons (pv 0) pa_nil)) (pe_one (pe_cmpR op_lt (pv 0) (pv 1) (nomark _)))))), fun ca => (is_ret (ie_and (ie_call0 f_is_number_0 (ia_cons (ie_e ie_v) ia_nil)) (ie_op ops_lt io_l io_l)))⟩)
/-! is_row_of -/
def f_is_row_of : Fn := fnOf 2 0
    (sRet (tAnd2 (tB1 (pIsi "tuple") (tLu 0)) (tB2 (pIn false) (tE (tCb (f1 pLen) (tA (tLu 0) tA0))) (tLu 1))))
theorem f_is_row_of_0 : ∀ ps P Px Px', f_is_row_of ps P Px → f_is_row_of ps P Px' := fun _ _ _ _ h => h
theorem ok_is_row_of (T : Tx P K mg w A D) : FnOk P w K mg base CX0 1 (A 4) (D 4) ["value", "sizes"] (spOf K xc [] 2 f_is_row_of) :=
  fn_ip (k := 0) T.F_is_row_of sc_is_row_of (by decide) (by decide) (fun cdv A' outer s H E hr => ⟨_, (pss_one (ps_ret (pe_and (pe_callB call_isi (by rfl) T.z_isinstance boot_isinstance (pa_cons (pv 0) (pa_cons (pe_bltn rfl T.z_tuple (by decide +kernel) (show RelV (.ty "tuple") _ from rfl)) pa_nil))) (pe_one (pe_cmpR op_in_seq (pe_callB call_len_seq (by rfl) T.z_len PySem.boot_len (pa_cons (pv 0) pa_nil)) (pv 1) (by rfl)))))), fun ca => (is_ret (ie_and (ie_isi (n := "tuple") (by decide) io_l) (ie_op ops_in (ie_e (ie_cb calls_len (ia_cons io_l ia_nil))) io_l)))⟩)
/-! element -/
def f_element : Fn := fnOf 2 0
    (sRet (tIte (tTst (tB2 pEq (tLu 0) (tE (tK (.int 0))))) (tV 1) (tB2 pMod (tE (tCb (f1 pInt) (tA (tLu 1) tA0))) (tLu 0))))
theorem f_element_0 : ∀ ps P Px Px', f_element ps P Px → f_element ps P Px' := fun _ _ _ _ h => h
theorem ok_element (T : Tx P K mg w A D) : FnOk P w K mg base CX0 1 (A 6) (D 6) ["p", "number"] (spOf K xc [] 2 f_element) :=
  fn_ip (k := 0) T.F_element sc_element (by decide) (by decide) (fun cdv A' outer s H E hr => ⟨_, (pss_one (ps_ret (pe_ifExp (pt_cmpR (op_eqD (hu64 hr)) (pv 0) pe_int (nomark _)) (pv 1) (pe_op op_mod (pe_callTy call_int1 (by rfl) T.z_int (by decide +kernel) (pa_cons (pv 1) pa_nil)) (pv 0))))), fun ca => (is_ret (ie_if (ib_test (ie_op ops_eq io_l (ie_e (ie_k fun _ => .int _)))) ie_v (ie_op ops_mod (ie_e (ie_cb calls_int (ia_cons io_l ia_nil))) io_l)))⟩)
/-! choice_count -/
def f_choice_count : Fn := fnOf 1 2
    (sSeq (sSet 1 (tK (.int 1)))
    (sSeq (sFor (tSeqI (tV 0)) (gN 2)
    (sSet 1 (tB2 pMul (tLu 1) (tE (tCb (f1 pLen) (tA (tLu 2) tA0))))))
    (sRet (tV 1))))
theorem f_choice_count_0 : ∀ ps P Px Px', f_choice_count ps P Px → f_choice_count ps P Px' := fun _ _ _ _ h => h
theorem ok_choice_count (T : Tx P K mg w A D) : FnOk P w K mg base CX0 1 (A 12) (D 12) ["lists"] (spOf K xc [] 1 f_choice_count) :=
  fn_ip (k := 0) T.F_choice_count sc_choice_count (by decide) (by decide) (fun cdv A' outer s H E hr => ⟨_, (pss_cons (ps_set (i := 1) sc_choice_count.nd rfl (Or.inl rfl) pe_int)
      (pss_cons (ps_for PassesOwn.never rfl (pi_seq (pv 0)) (pg_name (i := 2) sc_choice_count.nd rfl (Or.inl rfl))
      (pss_one (ps_set (i := 1) sc_choice_count.nd rfl (Or.inl rfl) (pe_op op_mulU (pv 1) (pe_callB call_len_seq (by rfl) T.z_len PySem.boot_len (pa_cons (pv 2) pa_nil))))))
      (pss_one (ps_ret (pv 1))))), fun ca => (is_seq (is_set (show 1 ∉ ([] : List Nat) from by decide) (ie_k fun _ => .int _))
      (is_seq (is_for (show ∀ j ∈ ([2] : List Nat), j ∉ ([] : List Nat) from by decide) (ii_seq ie_v) ig_name
      (is_set (show 1 ∉ ([] : List Nat) from by decide) (ie_op ops_mul io_l (ie_e (ie_cb calls_len (ia_cons io_l ia_nil))))))
      (is_ret ie_v)))⟩)
/-! choices -/
def f_choices : Fn := fnOfX 1 4
    (sSeq (sIf (tTst (tB2 pGt (tE (tCal f_choice_count [] 1 (tA (tE (tV 0)) tA0))) (tE (tK (.int c_MOST_CHOICES))))) (sRaise 0 (tCal f_choice_count [] 1 (tA (tE (tV 0)) tA0))) sNext)
    (sSeq (sSet 1 (tFr (tLstD (tA (tE (tTupD tA0)) tA0))))
    (sSeq (sFor (tSeqI (tV 0)) (gN 2)
    (sSet 1 (tFr (tLc2D (tSeqI (tV 1)) (gN 3) tYesD (tSeqI (tV 2)) (gN 4) tYesD (tTupD (tAst (tE (tV 3)) (tA (tE (tV 4)) tA0))) [3, 4] [4]))))
    (sRet (tCb (f1 pTupOf) (tA (tLu 1) tA0))))))
theorem ok_choices (T : Tx P K mg w A D) : FnOk P w K mg base (L2.CX P w) 4 (A 13) (D 13) ["lists"] (spOf K (XC A) [] 1 f_choices) :=
  fn_ipX (k := 3) T.F_choices sc_choices (by decide) (by decide) (fun cdv A' outer s H E hr => ⟨_, (pss_cons (ps_if (pt_cmpR op_gt (pe_call (ok_choice_count T) (hr.mono (by first | decide | omega)) rfl T.g_choice_count T.F_choice_count.kp (b_choice_count T) .nil pass0 (pa_cons (pv 0) pa_nil)) (C8.pe_gc rfl T.c_MOST_CHOICES) (nomark _)) (pss_one (ps_raise rfl (takes_of rfl rfl rfl rfl) (pmk_oex T.x_Refused T.i_Refused T.t_Refused T.n_Refused (hr.mono (by omega)) T.bi_Refused .nil (passes_call (W := fun _ _ _ _ => False) (E := fun _ _ _ => False) (Takes.imp (takes_of rfl rfl rfl rfl) fun _ _ _ _ z => z.elim) (fun _ _ _ _ z => z)) rfl T.gc_Refused (pa_cons (pe_call (ok_choice_count T) (hr.mono (by first | decide | omega)) rfl T.g_choice_count T.F_choice_count.kp (b_choice_count T) .nil pass0 (pa_cons (pv 0) pa_nil)) pa_nil)))) pss_nil)
      (pss_cons (ps_set (i := 1) sc_choices.nd rfl (Or.inl rfl) (pe_lst (pa_cons (pe_tup pa_nil) pa_nil)))
      (pss_cons (ps_for (passes_of rfl) rfl (pi_seq (pv 0)) (pg_name (i := 2) sc_choices.nd rfl (Or.inr rfl))
      (pss_one (ps_setLc2 (i := 1) (own := [("choice", 3), ("one", 4)]) (vs1 := [4]) rfl sc_choices.nd rfl rfl (sw_true rfl rfl rfl (by decide +kernel)) (pi_seq (pv 1)) (blkOk_by (show blkC ["lists", "found", "row", "choice", "one"] (defScope s_choices) _ [("choice", 3), ("one", 4)] = true from by decide +kernel)) (by decide) (fun _ _ _ _ _ => (pg_name (i := 3) sc_choices.nd rfl (by first | exact Or.inl rfl | exact Or.inr rfl))) (fun _ _ _ _ _ => pts_nil) (fun _ _ _ _ _ => (pi_seq (pv 2))) (fun _ _ _ _ _ => (pg_name (i := 4) sc_choices.nd rfl (by first | exact Or.inl rfl | exact Or.inr rfl))) (fun _ _ _ _ _ => pts_nil) (fun _ _ _ _ _ => (pe_tup (StX.pa_star (pv 3) (pa_cons (pv 4) pa_nil)))))))
      (pss_one (ps_ret (pe_callTy call_tuple_of (by rfl) T.z_tuple (by decide +kernel) (pa_cons (pv 1) pa_nil))))))), fun ca => (is_seq (is_if (ib_test (ie_op ops_gt (ie_e (ie_call0 f_choice_count_0 (ia_cons (ie_e ie_v) ia_nil))) (ie_e (ie_k fun _ => .int _)))) (is_raise (k := 0) rfl (ie_call0 f_choice_count_0 (ia_cons (ie_e ie_v) ia_nil))) is_next)
      (is_seq (is_set (show 1 ∉ ([] : List Nat) from by decide) (ie_t (it_lst (ia_cons (ie_e (ie_tup ia_nil)) ia_nil))))
      (is_seq (is_for (show ∀ j ∈ ([2] : List Nat), j ∉ ([] : List Nat) from by decide) (ii_seq ie_v) ig_name
      (is_set (show 1 ∉ ([] : List Nat) from by decide) (ie_t (it_lc2 (by decide) (by decide) (by decide) (ii_seq ie_v) ig_name ib_yes (ii_seq ie_v) ig_name ib_yes (ie_tup (ia_star (ie_e ie_v) (ia_cons (ie_e ie_v) ia_nil)))))))
      (is_ret (ie_cb calls_tuple (ia_cons io_l ia_nil))))))⟩)
/-! is_row_within -/
def f_is_row_within : Fn := fnOf 2 0
    (sRet (tAnd2 (tB1 (pIsi "tuple") (tLu 0)) (tChn pLe pLe (tE (tK (.int 2))) (tE (tCb (f1 pLen) (tA (tLu 0) tA0))) (tLu 1))))
theorem f_is_row_within_0 : ∀ ps P Px Px', f_is_row_within ps P Px → f_is_row_within ps P Px' := fun _ _ _ _ h => h
theorem ok_is_row_within (T : Tx P K mg w A D) : FnOk P w K mg base CX0 1 (A 20) (D 20) ["value", "most"] (spOf K xc [] 2 f_is_row_within) :=
  fn_ip (k := 0) T.F_is_row_within sc_is_row_within (by decide) (by decide) (fun cdv A' outer s H E hr => ⟨_, (pss_one (ps_ret (pe_and (pe_callB call_isi (by rfl) T.z_isinstance boot_isinstance (pa_cons (pv 0) (pa_cons (pe_bltn rfl T.z_tuple (by decide +kernel) (show RelV (.ty "tuple") _ from rfl)) pa_nil))) (pe_one (pe_chain op_le op_le pe_int (pe_callB call_len_seq (by rfl) T.z_len PySem.boot_len (pa_cons (pv 0) pa_nil)) (pv 1)))))), fun ca => (is_ret (ie_and (ie_isi (n := "tuple") (by decide) io_l) (ie_chain ops_le ops_le (ie_e (ie_k fun _ => .int _)) (ie_e (ie_cb calls_len (ia_cons io_l ia_nil))) io_l)))⟩)
/-! is_sum_tree -/
def f_is_sum_tree : Nat → Fn
  | 0 => fun _ _ _ => False
  | n + 1 => fnOf 2 3
    (sSeq (sIf (tbOr (tbNot (tTst (tCal f_is_row_of [] 2 (tA (tE (tV 1)) (tA (tE (tTupD (tA (tE (tK (.int 2))) tA0))) tA0))))) (tbNot (tTst (tB1 (pIsi "str") (tE (tB2 pIx (tLu 1) (tE (tK (.int 0))))))))) (sRet (tK (.bool false))) sNext)
    (sSeq (sAsg (tV 1) (gT 2 (gs1 (gN 2) (gs1 (gN 3) gs0))))
    (sSeq (sIf (tTst (tB2 pEq (tLu 2) (tE (tK (.str "is"))))) (sRet (tAnd2 (tCal f_is_number [] 1 (tA (tE (tV 3)) tA0)) (tB2 pLt (tLu 3) (tE (tK (.int c_MOST_NUMBER)))))) sNext)
    (sSeq (sIf (tTst (tB2 pEq (tLu 2) (tE (tK (.str "of"))))) (sRet (tCal f_is_index [] 2 (tA (tE (tV 3)) (tA (tE (tV 0)) tA0)))) sNext)
    (sSeq (sIf (tTst (tB2 pEq (tLu 2) (tE (tK (.str "minus"))))) (sRet (tCal (f_is_sum_tree n) [] 2 (tA (tE (tV 0)) (tA (tE (tV 3)) tA0)))) sNext)
    (sSeq (sIf (tbOr (tTst (tB2 (pIn true) (tLu 2) (tE (tTupD (tA (tE (tK (.str "add"))) (tA (tE (tK (.str "times"))) tA0)))))) (tbNot (tTst (tCal f_is_row_within [] 2 (tA (tE (tV 3)) (tA (tE (tK (.int c_MOST_PARTS))) tA0)))))) (sRet (tK (.bool false))) sNext)
    (sRet (tCb (f1 (onBools fun bs => some (.bool (bs.all id)))) (tA (tE (tFr (tLcD (tSeqI (tV 3)) (gN 4) tYesD (tCal (f_is_sum_tree n) [] 2 (tA (tE (tV 0)) (tA (tE (tV 4)) tA0))) [4]))) tA0)))))))))
theorem f_is_sum_tree_0 : ∀ n ps P Px Px', f_is_sum_tree n ps P Px → f_is_sum_tree n ps P Px'
  | 0, _, _, _, _, h => h
  | _ + 1, _, _, _, _, h => h
theorem ok_is_sum_tree (T : Tx P K mg w A D) : ∀ n, FnOk P w K mg base CX0 (4 + n) (A 21) (D 21) ["n", "value"] (spOf K xc [] 2 (f_is_sum_tree n))
  | 0 => (fn_never T.F_is_sum_tree sc_is_sum_tree).mono (by omega)
  | n + 1 => by
    have ih := ok_is_sum_tree T n
    refine (fn_ip (k := 4 + n) (pins := []) T.F_is_sum_tree sc_is_sum_tree (by decide) (by decide) (fun cdv A' outer s H E hr => ⟨_, (pss_cons (ps_if (PW.pt (pw_or (pt_not (pt_val (pe_call (ok_is_row_of T) (hr.mono (by first | decide | omega)) rfl T.g_is_row_of T.F_is_row_of.kp (b_is_row_of T) .nil pass0 (pa_cons (pv 1) (pa_cons (pe_tup (pa_cons pe_int pa_nil)) pa_nil))))) (pw_or1 (pt_not (pt_val (pe_callB call_isi (by rfl) T.z_isinstance boot_isinstance (pa_cons (pe_ix ix_seq (pv 1) pe_int (fun _ _ => rfl)) (pa_cons (pe_bltn rfl T.z_str (by decide +kernel) (show RelV (.ty "str") _ from rfl)) pa_nil)))))))) (pss_one (ps_ret pe_bl)) pss_nil)
      (pss_cons (ps_asg (pv 1) (pg_tup rfl (pgs_cons (pg_name (i := 2) sc_is_sum_tree.nd rfl (Or.inl rfl)) (pgs_cons (pg_name (i := 3) sc_is_sum_tree.nd rfl (Or.inl rfl)) pgs_nil))))
      (pss_cons (ps_if (pt_cmpR (op_eqD (hu64 hr)) (pv 2) pe_str (nomark _)) (pss_one (ps_ret (pe_and (pe_call (ok_is_number T) (hr.mono (by first | decide | omega)) rfl T.g_is_number T.F_is_number.kp (b_is_number T) .nil pass0 (pa_cons (pv 3) pa_nil)) (pe_one (pe_cmpR op_lt (pv 3) (C8.pe_gc rfl T.c_MOST_NUMBER) (nomark _)))))) pss_nil)
      (pss_cons (ps_if (pt_cmpR (op_eqD (hu64 hr)) (pv 2) pe_str (nomark _)) (pss_one (ps_ret (pe_call (ok_is_index T) (hr.mono (by first | decide | omega)) rfl T.g_is_index T.F_is_index.kp (b_is_index T) .nil pass0 (pa_cons (pv 3) (pa_cons (pv 0) pa_nil))))) pss_nil)
      (pss_cons (ps_if (pt_cmpR (op_eqD (hu64 hr)) (pv 2) pe_str (nomark _)) (pss_one (ps_ret (pe_call ih (hr.mono (by omega)) rfl T.g_is_sum_tree T.F_is_sum_tree.kp (b_is_sum_tree T) .nil pass0 (pa_cons (pv 0) (pa_cons (pv 3) pa_nil))))) pss_nil)
      (pss_cons (ps_if (PW.pt (pw_or (pt_cmpR op_notIn_seq (pv 2) (pe_tup (pa_cons pe_str (pa_cons pe_str pa_nil))) (by rfl)) (pw_or1 (pt_not (pt_val (pe_call (ok_is_row_within T) (hr.mono (by first | decide | omega)) rfl T.g_is_row_within T.F_is_row_within.kp (b_is_row_within T) .nil pass0 (pa_cons (pv 3) (pa_cons (C8.pe_gc rfl T.c_MOST_PARTS) pa_nil)))))))) (pss_one (ps_ret pe_bl)) pss_nil)
      (pss_one (ps_ret (pe_callB (cr_all rfl) (by rfl) T.z_all (by decide +kernel) (pa_cons (pe_lc (own := [("part", 4)]) rfl sc_is_sum_tree.nd (pi_seq (pv 3)) (blkOk_by (show blkC ["n", "value", "word", "inner", "part"] (defScope s_is_sum_tree) _ [("part", 4)] = true from by decide +kernel)) (fun _ _ _ _ _ => (pg_name (i := 4) sc_is_sum_tree.nd rfl (by first | exact Or.inl rfl | exact Or.inr rfl))) (fun _ _ _ _ _ => pts_nil) (fun _ _ _ _ _ => (pe_call ih (hr.mono (by omega)) rfl T.g_is_sum_tree T.F_is_sum_tree.kp (b_is_sum_tree T) .nil pass0 (pa_cons (pv 0) (pa_cons (pv 4) pa_nil))))) pa_nil)))))))))), fun ca => (is_seq (is_if (ib_or (ib_not (ib_b (ie_call0 f_is_row_of_0 (ia_cons (ie_e ie_v) (ia_cons (ie_e (ie_tup (ia_cons (ie_e (ie_k fun _ => .int _)) ia_nil))) ia_nil))))) (ib_not (ib_b (ie_isi (n := "str") (by decide) (ie_e (ie_op ops_ix io_l (ie_e (ie_k fun _ => .int _)))))))) (is_ret (ie_k fun _ => .bl _)) is_next)
      (is_seq (is_asg (show ∀ j ∈ ([2, 3] : List Nat), j ∉ ([] : List Nat) from by decide) ie_v (ig_tup (igs_cons ig_name (igs_cons ig_name igs_nil))))
      (is_seq (is_if (ib_test (ie_op ops_eq io_l (ie_e (ie_k fun _ => .str _)))) (is_ret (ie_and (ie_call0 f_is_number_0 (ia_cons (ie_e ie_v) ia_nil)) (ie_op ops_lt io_l (ie_e (ie_k fun _ => .int _))))) is_next)
      (is_seq (is_if (ib_test (ie_op ops_eq io_l (ie_e (ie_k fun _ => .str _)))) (is_ret (ie_call0 f_is_index_0 (ia_cons (ie_e ie_v) (ia_cons (ie_e ie_v) ia_nil)))) is_next)
      (is_seq (is_if (ib_test (ie_op ops_eq io_l (ie_e (ie_k fun _ => .str _)))) (is_ret (ie_call0 (f_is_sum_tree_0 _) (ia_cons (ie_e ie_v) (ia_cons (ie_e ie_v) ia_nil)))) is_next)
      (is_seq (is_if (ib_or (ib_test (ie_op ops_in io_l (ie_e (ie_tup (ia_cons (ie_e (ie_k fun _ => .str _)) (ia_cons (ie_e (ie_k fun _ => .str _)) ia_nil)))))) (ib_not (ib_b (ie_call0 f_is_row_within_0 (ia_cons (ie_e ie_v) (ia_cons (ie_e (ie_k fun _ => .int _)) ia_nil)))))) (is_ret (ie_k fun _ => .bl _)) is_next)
      (is_ret (ie_cb calls_all (ia_cons (ie_e (ie_t (it_lc (by decide) (ii_seq ie_v) ig_name ib_yes (ie_call0 (f_is_sum_tree_0 _) (ia_cons (ie_e ie_v) (ia_cons (ie_e ie_v) ia_nil)))))) ia_nil)))))))))⟩)).mono (by omega)
/-! form_degree -/
def f_form_degree : Nat → Fn
  | 0 => fun _ _ _ => False
  | n + 1 => fnOf 1 4
    (sSeq (sAsg (tV 0) (gT 2 (gs1 (gN 1) (gs1 (gN 2) gs0))))
    (sSeq (sIf (tTst (tB2 (pIn false) (tLu 1) (tE (tTupD (tA (tE (tK (.str "is"))) (tA (tE (tK (.str "of"))) tA0)))))) (sRet (tIte (tTst (tB2 pEq (tLu 1) (tE (tK (.str "is"))))) (tK (.int 0)) (tK (.int 1)))) sNext)
    (sSeq (sIf (tTst (tB2 pEq (tLu 1) (tE (tK (.str "minus"))))) (sRet (tCal (f_form_degree n) [] 1 (tA (tE (tV 2)) tA0))) sNext)
    (sSeq (sSet 3 (tFr (tLcD (tSeqI (tV 2)) (gN 4) tYesD (tCal (f_form_degree n) [] 1 (tA (tE (tV 4)) tA0)) [4])))
    (sRet (tIte (tTst (tB2 pEq (tLu 1) (tE (tK (.str "add"))))) (tCb (f1 (onInts fun ns => ns.max?.map .int)) (tA (tLu 3) tA0)) (tCb (f1 (onInts fun ns => some (.int ns.sum))) (tA (tLu 3) tA0))))))))
theorem f_form_degree_0 : ∀ n ps P Px Px', f_form_degree n ps P Px → f_form_degree n ps P Px'
  | 0, _, _, _, _, h => h
  | _ + 1, _, _, _, _, h => h
theorem ok_form_degree (T : Tx P K mg w A D) : ∀ n, FnOk P w K mg base CX0 (1 + n) (A 22) (D 22) ["tree"] (spOf K xc [] 1 (f_form_degree n))
  | 0 => (fn_never T.F_form_degree sc_form_degree).mono (by omega)
  | n + 1 => by
    have ih := ok_form_degree T n
    refine (fn_ip (k := 1 + n) (pins := []) T.F_form_degree sc_form_degree (by decide) (by decide) (fun cdv A' outer s H E hr => ⟨_, (pss_cons (ps_asg (pv 0) (pg_tup rfl (pgs_cons (pg_name (i := 1) sc_form_degree.nd rfl (Or.inl rfl)) (pgs_cons (pg_name (i := 2) sc_form_degree.nd rfl (Or.inl rfl)) pgs_nil))))
      (pss_cons (ps_if (pt_cmpR op_in_seq (pv 1) (pe_tup (pa_cons pe_str (pa_cons pe_str pa_nil))) (by rfl)) (pss_one (ps_ret (pe_ifExp (pt_cmpR (op_eqD (hu64 hr)) (pv 1) pe_str (nomark _)) pe_int pe_int))) pss_nil)
      (pss_cons (ps_if (pt_cmpR (op_eqD (hu64 hr)) (pv 1) pe_str (nomark _)) (pss_one (ps_ret (pe_call ih (hr.mono (by omega)) rfl T.g_form_degree T.F_form_degree.kp (b_form_degree T) .nil pass0 (pa_cons (pv 2) pa_nil)))) pss_nil)
      (pss_cons (ps_setLc (i := 3) (own := [("part", 4)]) rfl sc_form_degree.nd rfl rfl (sw_true rfl rfl rfl (by decide +kernel)) (pi_seq (pv 2)) (blkOk_by (show blkC ["tree", "word", "inner", "found", "part"] (defScope s_form_degree) _ [("part", 4)] = true from by decide +kernel)) (fun _ _ _ _ _ => (pg_name (i := 4) sc_form_degree.nd rfl (by first | exact Or.inl rfl | exact Or.inr rfl))) (fun _ _ _ _ _ => pts_nil) (fun _ _ _ _ _ => (pe_call ih (hr.mono (by omega)) rfl T.g_form_degree T.F_form_degree.kp (b_form_degree T) .nil pass0 (pa_cons (pv 4) pa_nil))))
      (pss_one (ps_ret (pe_ifExp (pt_cmpR (op_eqD (hu64 hr)) (pv 1) pe_str (nomark _)) (pe_callB (cr_max rfl) (by rfl) T.z_max (by decide +kernel) (pa_cons (pv 3) pa_nil)) (pe_callB (cr_sum rfl) (by rfl) T.z_sum (by decide +kernel) (pa_cons (pv 3) pa_nil))))))))), fun ca => (is_seq (is_asg (show ∀ j ∈ ([1, 2] : List Nat), j ∉ ([] : List Nat) from by decide) ie_v (ig_tup (igs_cons ig_name (igs_cons ig_name igs_nil))))
      (is_seq (is_if (ib_test (ie_op ops_in io_l (ie_e (ie_tup (ia_cons (ie_e (ie_k fun _ => .str _)) (ia_cons (ie_e (ie_k fun _ => .str _)) ia_nil)))))) (is_ret (ie_if (ib_test (ie_op ops_eq io_l (ie_e (ie_k fun _ => .str _)))) (ie_k fun _ => .int _) (ie_k fun _ => .int _))) is_next)
      (is_seq (is_if (ib_test (ie_op ops_eq io_l (ie_e (ie_k fun _ => .str _)))) (is_ret (ie_call0 (f_form_degree_0 _) (ia_cons (ie_e ie_v) ia_nil))) is_next)
      (is_seq (is_set (show 3 ∉ ([] : List Nat) from by decide) (ie_t (it_lc (by decide) (ii_seq ie_v) ig_name ib_yes (ie_call0 (f_form_degree_0 _) (ia_cons (ie_e ie_v) ia_nil)))))
      (is_ret (ie_if (ib_test (ie_op ops_eq io_l (ie_e (ie_k fun _ => .str _)))) (ie_cb calls_max (ia_cons io_l ia_nil)) (ie_cb calls_sum (ia_cons io_l ia_nil))))))))⟩)).mono (by omega)
/-! is_condition -/
def f_is_condition : Nat → Fn
  | 0 => fun _ _ _ => False
  | n + 1 => fnOf 2 3
    (sSeq (sIf (tbOr (tbNot (tTst (tCal f_is_row_of [] 2 (tA (tE (tV 1)) (tA (tE (tTupD (tA (tE (tK (.int 2))) tA0))) tA0))))) (tbNot (tTst (tB1 (pIsi "str") (tE (tB2 pIx (tLu 1) (tE (tK (.int 0))))))))) (sRet (tK (.bool false))) sNext)
    (sSeq (sAsg (tV 1) (gT 2 (gs1 (gN 2) (gs1 (gN 3) gs0))))
    (sSeq (sIf (tTst (tB2 pEq (tLu 2) (tE (tK (.str "not"))))) (sRet (tCal (f_is_condition n) [] 2 (tA (tE (tV 0)) (tA (tE (tV 3)) tA0)))) sNext)
    (sSeq (sIf (tTst (tB2 (pIn false) (tLu 2) (tE (tTupD (tA (tE (tK (.str "all"))) (tA (tE (tK (.str "some"))) tA0)))))) (sRet (tAnd2 (tCal f_is_row_within [] 2 (tA (tE (tV 3)) (tA (tE (tK (.int c_MOST_PARTS))) tA0))) (tCb (f1 (onBools fun bs => some (.bool (bs.all id)))) (tA (tE (tFr (tLcD (tSeqI (tV 3)) (gN 4) tYesD (tCal (f_is_condition n) [] 2 (tA (tE (tV 0)) (tA (tE (tV 4)) tA0))) [4]))) tA0)))) sNext)
    (sSeq (sIf (tbOr (tTst (tB2 (pIn true) (tLu 2) (tE (tTupD (tA (tE (tK (.str "unlike"))) (tA (tE (tK (.str "like"))) tA0)))))) (tbNot (tTst (tCal f_is_row_within [] 2 (tA (tE (tV 3)) (tA (tE (tK (.int c_MOST_SUMS))) tA0)))))) (sRet (tK (.bool false))) sNext)
    (sRet (tCb (f1 (onBools fun bs => some (.bool (bs.all id)))) (tA (tE (tFr (tLcD (tSeqI (tV 3)) (gN 4) tYesD (tAnd2 (tCal (f_is_sum_tree 60) [] 2 (tA (tE (tV 0)) (tA (tE (tV 4)) tA0))) (tB2 pLe (tE (tCal (f_form_degree 60) [] 1 (tA (tE (tV 4)) tA0))) (tE (tK (.int c_MOST_FORM))))) [4]))) tA0))))))))
theorem f_is_condition_0 : ∀ n ps P Px Px', f_is_condition n ps P Px → f_is_condition n ps P Px'
  | 0, _, _, _, _, h => h
  | _ + 1, _, _, _, _, h => h
theorem ok_is_condition (T : Tx P K mg w A D) : ∀ n, FnOk P w K mg base CX0 (65 + n) (A 23) (D 23) ["n", "value"] (spOf K xc [] 2 (f_is_condition n))
  | 0 => (fn_never T.F_is_condition sc_is_condition).mono (by omega)
  | n + 1 => by
    have ih := ok_is_condition T n
    refine (fn_ip (k := 65 + n) (pins := []) T.F_is_condition sc_is_condition (by decide) (by decide) (fun cdv A' outer s H E hr => ⟨_, (pss_cons (ps_if (PW.pt (pw_or (pt_not (pt_val (pe_call (ok_is_row_of T) (hr.mono (by first | decide | omega)) rfl T.g_is_row_of T.F_is_row_of.kp (b_is_row_of T) .nil pass0 (pa_cons (pv 1) (pa_cons (pe_tup (pa_cons pe_int pa_nil)) pa_nil))))) (pw_or1 (pt_not (pt_val (pe_callB call_isi (by rfl) T.z_isinstance boot_isinstance (pa_cons (pe_ix ix_seq (pv 1) pe_int (fun _ _ => rfl)) (pa_cons (pe_bltn rfl T.z_str (by decide +kernel) (show RelV (.ty "str") _ from rfl)) pa_nil)))))))) (pss_one (ps_ret pe_bl)) pss_nil)
      (pss_cons (ps_asg (pv 1) (pg_tup rfl (pgs_cons (pg_name (i := 2) sc_is_condition.nd rfl (Or.inl rfl)) (pgs_cons (pg_name (i := 3) sc_is_condition.nd rfl (Or.inl rfl)) pgs_nil))))
      (pss_cons (ps_if (pt_cmpR (op_eqD (hu64 hr)) (pv 2) pe_str (nomark _)) (pss_one (ps_ret (pe_call ih (hr.mono (by omega)) rfl T.g_is_condition T.F_is_condition.kp (b_is_condition T) .nil pass0 (pa_cons (pv 0) (pa_cons (pv 3) pa_nil))))) pss_nil)
      (pss_cons (ps_if (pt_cmpR op_in_seq (pv 2) (pe_tup (pa_cons pe_str (pa_cons pe_str pa_nil))) (by rfl)) (pss_one (ps_ret (pe_and (pe_call (ok_is_row_within T) (hr.mono (by first | decide | omega)) rfl T.g_is_row_within T.F_is_row_within.kp (b_is_row_within T) .nil pass0 (pa_cons (pv 3) (pa_cons (C8.pe_gc rfl T.c_MOST_PARTS) pa_nil))) (pe_one (pe_callB (cr_all rfl) (by rfl) T.z_all (by decide +kernel) (pa_cons (pe_lc (own := [("part", 4)]) rfl sc_is_condition.nd (pi_seq (pv 3)) (blkOk_by (show blkC ["n", "value", "word", "inner", "part"] (defScope s_is_condition) _ [("part", 4)] = true from by decide +kernel)) (fun _ _ _ _ _ => (pg_name (i := 4) sc_is_condition.nd rfl (by first | exact Or.inl rfl | exact Or.inr rfl))) (fun _ _ _ _ _ => pts_nil) (fun _ _ _ _ _ => (pe_call ih (hr.mono (by omega)) rfl T.g_is_condition T.F_is_condition.kp (b_is_condition T) .nil pass0 (pa_cons (pv 0) (pa_cons (pv 4) pa_nil))))) pa_nil)))))) pss_nil)
      (pss_cons (ps_if (PW.pt (pw_or (pt_cmpR op_notIn_seq (pv 2) (pe_tup (pa_cons pe_str (pa_cons pe_str pa_nil))) (by rfl)) (pw_or1 (pt_not (pt_val (pe_call (ok_is_row_within T) (hr.mono (by first | decide | omega)) rfl T.g_is_row_within T.F_is_row_within.kp (b_is_row_within T) .nil pass0 (pa_cons (pv 3) (pa_cons (C8.pe_gc rfl T.c_MOST_SUMS) pa_nil)))))))) (pss_one (ps_ret pe_bl)) pss_nil)
      (pss_one (ps_ret (pe_callB (cr_all rfl) (by rfl) T.z_all (by decide +kernel) (pa_cons (pe_lc (own := [("part", 4)]) rfl sc_is_condition.nd (pi_seq (pv 3)) (blkOk_by (show blkC ["n", "value", "word", "inner", "part"] (defScope s_is_condition) _ [("part", 4)] = true from by decide +kernel)) (fun _ _ _ _ _ => (pg_name (i := 4) sc_is_condition.nd rfl (by first | exact Or.inl rfl | exact Or.inr rfl))) (fun _ _ _ _ _ => pts_nil) (fun _ _ _ _ _ => (pe_and (pe_call (ok_is_sum_tree T 60) (hr.mono (by first | decide | omega)) rfl T.g_is_sum_tree T.F_is_sum_tree.kp (b_is_sum_tree T) .nil pass0 (pa_cons (pv 0) (pa_cons (pv 4) pa_nil))) (pe_one (pe_cmpR op_le (pe_call (ok_form_degree T 60) (hr.mono (by first | decide | omega)) rfl T.g_form_degree T.F_form_degree.kp (b_form_degree T) .nil pass0 (pa_cons (pv 4) pa_nil)) (C8.pe_gc rfl T.c_MOST_FORM) (nomark _)))))) pa_nil))))))))), fun ca => (is_seq (is_if (ib_or (ib_not (ib_b (ie_call0 f_is_row_of_0 (ia_cons (ie_e ie_v) (ia_cons (ie_e (ie_tup (ia_cons (ie_e (ie_k fun _ => .int _)) ia_nil))) ia_nil))))) (ib_not (ib_b (ie_isi (n := "str") (by decide) (ie_e (ie_op ops_ix io_l (ie_e (ie_k fun _ => .int _)))))))) (is_ret (ie_k fun _ => .bl _)) is_next)
      (is_seq (is_asg (show ∀ j ∈ ([2, 3] : List Nat), j ∉ ([] : List Nat) from by decide) ie_v (ig_tup (igs_cons ig_name (igs_cons ig_name igs_nil))))
      (is_seq (is_if (ib_test (ie_op ops_eq io_l (ie_e (ie_k fun _ => .str _)))) (is_ret (ie_call0 (f_is_condition_0 _) (ia_cons (ie_e ie_v) (ia_cons (ie_e ie_v) ia_nil)))) is_next)
      (is_seq (is_if (ib_test (ie_op ops_in io_l (ie_e (ie_tup (ia_cons (ie_e (ie_k fun _ => .str _)) (ia_cons (ie_e (ie_k fun _ => .str _)) ia_nil)))))) (is_ret (ie_and (ie_call0 f_is_row_within_0 (ia_cons (ie_e ie_v) (ia_cons (ie_e (ie_k fun _ => .int _)) ia_nil))) (ie_cb calls_all (ia_cons (ie_e (ie_t (it_lc (by decide) (ii_seq ie_v) ig_name ib_yes (ie_call0 (f_is_condition_0 _) (ia_cons (ie_e ie_v) (ia_cons (ie_e ie_v) ia_nil)))))) ia_nil)))) is_next)
      (is_seq (is_if (ib_or (ib_test (ie_op ops_in io_l (ie_e (ie_tup (ia_cons (ie_e (ie_k fun _ => .str _)) (ia_cons (ie_e (ie_k fun _ => .str _)) ia_nil)))))) (ib_not (ib_b (ie_call0 f_is_row_within_0 (ia_cons (ie_e ie_v) (ia_cons (ie_e (ie_k fun _ => .int _)) ia_nil)))))) (is_ret (ie_k fun _ => .bl _)) is_next)
      (is_ret (ie_cb calls_all (ia_cons (ie_e (ie_t (it_lc (by decide) (ii_seq ie_v) ig_name ib_yes (ie_and (ie_call0 (f_is_sum_tree_0 _) (ia_cons (ie_e ie_v) (ia_cons (ie_e ie_v) ia_nil))) (ie_op ops_le (ie_e (ie_call0 (f_form_degree_0 _) (ia_cons (ie_e ie_v) ia_nil))) (ie_e (ie_k fun _ => .int _))))))) ia_nil))))))))⟩)).mono (by omega)
/-! sum_worth -/
def f_sum_worth : Nat → Fn
  | 0 => fun _ _ _ => False
  | n + 1 => fnOf 3 5
    (sSeq (sAsg (tV 1) (gT 2 (gs1 (gN 3) (gs1 (gN 4) gs0))))
    (sSeq (sIf (tTst (tB2 (pIn false) (tLu 3) (tE (tTupD (tA (tE (tK (.str "is"))) (tA (tE (tK (.str "of"))) tA0)))))) (sRet (tIte (tTst (tB2 pEq (tLu 3) (tE (tK (.str "is"))))) (tCal f_element [] 2 (tA (tE (tV 0)) (tA (tE (tV 4)) tA0))) (tB2 pIx (tLu 2) (tLu 4)))) sNext)
    (sSeq (sIf (tTst (tB2 pEq (tLu 3) (tE (tK (.str "minus"))))) (sRet (tCal f_element [] 2 (tA (tE (tV 0)) (tA (tE (tB2 pSub (tE (tK (.int 0))) (tE (tCal (f_sum_worth n) [] 3 (tA (tE (tV 0)) (tA (tE (tV 4)) (tA (tE (tV 2)) tA0))))))) tA0)))) sNext)
    (sSeq (sSet 5 (tIte (tTst (tB2 pEq (tLu 3) (tE (tK (.str "add"))))) (tK (.int 0)) (tK (.int 1))))
    (sSeq (sFor (tSeqI (tV 4)) (gN 6)
    (sSeq (sSet 7 (tCal (f_sum_worth n) [] 3 (tA (tE (tV 0)) (tA (tE (tV 6)) (tA (tE (tV 2)) tA0)))))
    (sSet 5 (tCal f_element [] 2 (tA (tE (tV 0)) (tA (tE (tIte (tTst (tB2 pEq (tLu 3) (tE (tK (.str "add"))))) (tB2 pAdd (tLu 5) (tLu 7)) (tB2 pMul (tLu 5) (tLu 7)))) tA0))))))
    (sRet (tV 5)))))))
theorem f_sum_worth_0 : ∀ n ps P Px Px', f_sum_worth n ps P Px → f_sum_worth n ps P Px'
  | 0, _, _, _, _, h => h
  | _ + 1, _, _, _, _, h => h
theorem ok_sum_worth (T : Tx P K mg w A D) : ∀ n, FnOk P w K mg base CX0 (2 + n) (A 24) (D 24) ["p", "tree", "choice"] (spOf K xc [] 3 (f_sum_worth n))
  | 0 => (fn_never T.F_sum_worth sc_sum_worth).mono (by omega)
  | n + 1 => by
    have ih := ok_sum_worth T n
    refine (fn_ip (k := 2 + n) (pins := []) T.F_sum_worth sc_sum_worth (by decide) (by decide) (fun cdv A' outer s H E hr => ⟨_, (pss_cons (ps_asg (pv 1) (pg_tup rfl (pgs_cons (pg_name (i := 3) sc_sum_worth.nd rfl (Or.inl rfl)) (pgs_cons (pg_name (i := 4) sc_sum_worth.nd rfl (Or.inl rfl)) pgs_nil))))
      (pss_cons (ps_if (pt_cmpR op_in_seq (pv 3) (pe_tup (pa_cons pe_str (pa_cons pe_str pa_nil))) (by rfl)) (pss_one (ps_ret (pe_ifExp (pt_cmpR (op_eqD (hu64 hr)) (pv 3) pe_str (nomark _)) (pe_call (ok_element T) (hr.mono (by first | decide | omega)) rfl T.g_element T.F_element.kp (b_element T) .nil pass0 (pa_cons (pv 0) (pa_cons (pv 4) pa_nil))) (pe_ix ix_seq (pv 2) (pv 4) (fun _ _ => rfl))))) pss_nil)
      (pss_cons (ps_if (pt_cmpR (op_eqD (hu64 hr)) (pv 3) pe_str (nomark _)) (pss_one (ps_ret (pe_call (ok_element T) (hr.mono (by first | decide | omega)) rfl T.g_element T.F_element.kp (b_element T) .nil pass0 (pa_cons (pv 0) (pa_cons (pe_op op_sub pe_int (pe_call ih (hr.mono (by omega)) rfl T.g_sum_worth T.F_sum_worth.kp (b_sum_worth T) .nil pass0 (pa_cons (pv 0) (pa_cons (pv 4) (pa_cons (pv 2) pa_nil))))) pa_nil))))) pss_nil)
      (pss_cons (ps_set (i := 5) sc_sum_worth.nd rfl (Or.inl rfl) (pe_ifExp (pt_cmpR (op_eqD (hu64 hr)) (pv 3) pe_str (nomark _)) pe_int pe_int))
      (pss_cons (ps_for PassesOwn.never rfl (pi_seq (pv 4)) (pg_name (i := 6) sc_sum_worth.nd rfl (Or.inl rfl))
      (pss_cons (ps_set (i := 7) sc_sum_worth.nd rfl (Or.inl rfl) (pe_call ih (hr.mono (by omega)) rfl T.g_sum_worth T.F_sum_worth.kp (b_sum_worth T) .nil pass0 (pa_cons (pv 0) (pa_cons (pv 6) (pa_cons (pv 2) pa_nil)))))
      (pss_one (ps_set (i := 5) sc_sum_worth.nd rfl (Or.inl rfl) (pe_call (ok_element T) (hr.mono (by first | decide | omega)) rfl T.g_element T.F_element.kp (b_element T) .nil pass0 (pa_cons (pv 0) (pa_cons (pe_ifExp (pt_cmpR (op_eqD (hu64 hr)) (pv 3) pe_str (nomark _)) (pe_op op_addU (pv 5) (pv 7)) (pe_op op_mulU (pv 5) (pv 7))) pa_nil)))))))
      (pss_one (ps_ret (pv 5)))))))), fun ca => (is_seq (is_asg (show ∀ j ∈ ([3, 4] : List Nat), j ∉ ([] : List Nat) from by decide) ie_v (ig_tup (igs_cons ig_name (igs_cons ig_name igs_nil))))
      (is_seq (is_if (ib_test (ie_op ops_in io_l (ie_e (ie_tup (ia_cons (ie_e (ie_k fun _ => .str _)) (ia_cons (ie_e (ie_k fun _ => .str _)) ia_nil)))))) (is_ret (ie_if (ib_test (ie_op ops_eq io_l (ie_e (ie_k fun _ => .str _)))) (ie_call0 f_element_0 (ia_cons (ie_e ie_v) (ia_cons (ie_e ie_v) ia_nil))) (ie_op ops_ix io_l io_l))) is_next)
      (is_seq (is_if (ib_test (ie_op ops_eq io_l (ie_e (ie_k fun _ => .str _)))) (is_ret (ie_call0 f_element_0 (ia_cons (ie_e ie_v) (ia_cons (ie_e (ie_op ops_sub (ie_e (ie_k fun _ => .int _)) (ie_e (ie_call0 (f_sum_worth_0 _) (ia_cons (ie_e ie_v) (ia_cons (ie_e ie_v) (ia_cons (ie_e ie_v) ia_nil))))))) ia_nil)))) is_next)
      (is_seq (is_set (show 5 ∉ ([] : List Nat) from by decide) (ie_if (ib_test (ie_op ops_eq io_l (ie_e (ie_k fun _ => .str _)))) (ie_k fun _ => .int _) (ie_k fun _ => .int _)))
      (is_seq (is_for (show ∀ j ∈ ([6] : List Nat), j ∉ ([] : List Nat) from by decide) (ii_seq ie_v) ig_name
      (is_seq (is_set (show 7 ∉ ([] : List Nat) from by decide) (ie_call0 (f_sum_worth_0 _) (ia_cons (ie_e ie_v) (ia_cons (ie_e ie_v) (ia_cons (ie_e ie_v) ia_nil)))))
      (is_set (show 5 ∉ ([] : List Nat) from by decide) (ie_call0 f_element_0 (ia_cons (ie_e ie_v) (ia_cons (ie_e (ie_if (ib_test (ie_op ops_eq io_l (ie_e (ie_k fun _ => .str _)))) (ie_op ops_add io_l io_l) (ie_op ops_mul io_l io_l))) ia_nil))))))
      (is_ret ie_v))))))⟩)).mono (by omega)
/-! holds -/
def f_holds : Nat → Fn
  | 0 => fun _ _ _ => False
  | n + 1 => fnOf 3 4
    (sSeq (sAsg (tV 1) (gT 2 (gs1 (gN 3) (gs1 (gN 4) gs0))))
    (sSeq (sIf (tTst (tB2 pEq (tLu 3) (tE (tK (.str "not"))))) (sRet (tNot1 (tCal (f_holds n) [] 3 (tA (tE (tV 0)) (tA (tE (tV 4)) (tA (tE (tV 2)) tA0)))))) sNext)
    (sSeq (sIf (tTst (tB2 pEq (tLu 3) (tE (tK (.str "all"))))) (sRet (tCb (f1 (onBools fun bs => some (.bool (bs.all id)))) (tA (tE (tFr (tLcD (tSeqI (tV 4)) (gN 6) tYesD (tCal (f_holds n) [] 3 (tA (tE (tV 0)) (tA (tE (tV 6)) (tA (tE (tV 2)) tA0)))) [6]))) tA0))) sNext)
    (sSeq (sIf (tTst (tB2 pEq (tLu 3) (tE (tK (.str "some"))))) (sRet (tCb (f1 (onBools fun bs => some (.bool (bs.any id)))) (tA (tE (tFr (tLcD (tSeqI (tV 4)) (gN 6) tYesD (tCal (f_holds n) [] 3 (tA (tE (tV 0)) (tA (tE (tV 6)) (tA (tE (tV 2)) tA0)))) [6]))) tA0))) sNext)
    (sSeq (sSet 5 (tFr (tLcD (tSeqI (tV 4)) (gN 6) tYesD (tCal (f_sum_worth 60) [] 3 (tA (tE (tV 0)) (tA (tE (tV 6)) (tA (tE (tV 2)) tA0)))) [6])))
    (sRet (tB2 pEq (tE (tLenSet (tLu 5))) (tE (tIte (tTst (tB2 pEq (tLu 3) (tE (tK (.str "like"))))) (tK (.int 1)) (tCb (f1 pLen) (tA (tLu 5) tA0)))))))))))
theorem f_holds_0 : ∀ n ps P Px Px', f_holds n ps P Px → f_holds n ps P Px'
  | 0, _, _, _, _, h => h
  | _ + 1, _, _, _, _, h => h
theorem ok_holds (T : Tx P K mg w A D) : ∀ n, FnOk P w K mg base CX0 (63 + n) (A 25) (D 25) ["p", "condition", "choice"] (spOf K xc [] 3 (f_holds n))
  | 0 => (fn_never T.F_holds sc_holds).mono (by omega)
  | n + 1 => by
    have ih := ok_holds T n
    refine (fn_ip (k := 63 + n) (pins := []) T.F_holds sc_holds (by decide) (by decide) (fun cdv A' outer s H E hr => ⟨_, (pss_cons (ps_asg (pv 1) (pg_tup rfl (pgs_cons (pg_name (i := 3) sc_holds.nd rfl (Or.inl rfl)) (pgs_cons (pg_name (i := 4) sc_holds.nd rfl (Or.inl rfl)) pgs_nil))))
      (pss_cons (ps_if (pt_cmpR (op_eqD (hu64 hr)) (pv 3) pe_str (nomark _)) (pss_one (ps_ret (pe_not (pe_call ih (hr.mono (by omega)) rfl T.g_holds T.F_holds.kp (b_holds T) .nil pass0 (pa_cons (pv 0) (pa_cons (pv 4) (pa_cons (pv 2) pa_nil))))))) pss_nil)
      (pss_cons (ps_if (pt_cmpR (op_eqD (hu64 hr)) (pv 3) pe_str (nomark _)) (pss_one (ps_ret (pe_callB (cr_all rfl) (by rfl) T.z_all (by decide +kernel) (pa_cons (pe_lc (own := [("part", 6)]) rfl sc_holds.nd (pi_seq (pv 4)) (blkOk_by (show blkC ["p", "condition", "choice", "word", "inner", "worths", "part"] (defScope s_holds) _ [("part", 6)] = true from by decide +kernel)) (fun _ _ _ _ _ => (pg_name (i := 6) sc_holds.nd rfl (by first | exact Or.inl rfl | exact Or.inr rfl))) (fun _ _ _ _ _ => pts_nil) (fun _ _ _ _ _ => (pe_call ih (hr.mono (by omega)) rfl T.g_holds T.F_holds.kp (b_holds T) .nil pass0 (pa_cons (pv 0) (pa_cons (pv 6) (pa_cons (pv 2) pa_nil)))))) pa_nil)))) pss_nil)
      (pss_cons (ps_if (pt_cmpR (op_eqD (hu64 hr)) (pv 3) pe_str (nomark _)) (pss_one (ps_ret (pe_callB (cr_any rfl) (by rfl) T.z_any (by decide +kernel) (pa_cons (pe_lc (own := [("part", 6)]) rfl sc_holds.nd (pi_seq (pv 4)) (blkOk_by (show blkC ["p", "condition", "choice", "word", "inner", "worths", "part"] (defScope s_holds) _ [("part", 6)] = true from by decide +kernel)) (fun _ _ _ _ _ => (pg_name (i := 6) sc_holds.nd rfl (by first | exact Or.inl rfl | exact Or.inr rfl))) (fun _ _ _ _ _ => pts_nil) (fun _ _ _ _ _ => (pe_call ih (hr.mono (by omega)) rfl T.g_holds T.F_holds.kp (b_holds T) .nil pass0 (pa_cons (pv 0) (pa_cons (pv 6) (pa_cons (pv 2) pa_nil)))))) pa_nil)))) pss_nil)
      (pss_cons (ps_setLc (i := 5) (own := [("part", 6)]) rfl sc_holds.nd rfl rfl (sw_true rfl rfl rfl (by decide +kernel)) (pi_seq (pv 4)) (blkOk_by (show blkC ["p", "condition", "choice", "word", "inner", "worths", "part"] (defScope s_holds) _ [("part", 6)] = true from by decide +kernel)) (fun _ _ _ _ _ => (pg_name (i := 6) sc_holds.nd rfl (by first | exact Or.inl rfl | exact Or.inr rfl))) (fun _ _ _ _ _ => pts_nil) (fun _ _ _ _ _ => (pe_call (ok_sum_worth T 60) (hr.mono (by first | decide | omega)) rfl T.g_sum_worth T.F_sum_worth.kp (b_sum_worth T) .nil pass0 (pa_cons (pv 0) (pa_cons (pv 6) (pa_cons (pv 2) pa_nil))))))
      (pss_one (ps_ret (pe_cmpR (op_eqD (hu64 hr)) (pe_callB cr_lenSetO (by rfl) T.z_len PySem.boot_len (pa_cons (pe_callTy (cr_setL rfl) (by rfl) T.z_set (by decide +kernel) (pa_cons (pv 5) pa_nil)) pa_nil)) (pe_ifExp (pt_cmpR (op_eqD (hu64 hr)) (pv 3) pe_str (nomark _)) pe_int (pe_callB call_len_seq (by rfl) T.z_len PySem.boot_len (pa_cons (pv 5) pa_nil))) (nomark _))))))))), fun ca => (is_seq (is_asg (show ∀ j ∈ ([3, 4] : List Nat), j ∉ ([] : List Nat) from by decide) ie_v (ig_tup (igs_cons ig_name (igs_cons ig_name igs_nil))))
      (is_seq (is_if (ib_test (ie_op ops_eq io_l (ie_e (ie_k fun _ => .str _)))) (is_ret (ie_not (ie_call0 (f_holds_0 _) (ia_cons (ie_e ie_v) (ia_cons (ie_e ie_v) (ia_cons (ie_e ie_v) ia_nil)))))) is_next)
      (is_seq (is_if (ib_test (ie_op ops_eq io_l (ie_e (ie_k fun _ => .str _)))) (is_ret (ie_cb calls_all (ia_cons (ie_e (ie_t (it_lc (by decide) (ii_seq ie_v) ig_name ib_yes (ie_call0 (f_holds_0 _) (ia_cons (ie_e ie_v) (ia_cons (ie_e ie_v) (ia_cons (ie_e ie_v) ia_nil))))))) ia_nil))) is_next)
      (is_seq (is_if (ib_test (ie_op ops_eq io_l (ie_e (ie_k fun _ => .str _)))) (is_ret (ie_cb calls_any (ia_cons (ie_e (ie_t (it_lc (by decide) (ii_seq ie_v) ig_name ib_yes (ie_call0 (f_holds_0 _) (ia_cons (ie_e ie_v) (ia_cons (ie_e ie_v) (ia_cons (ie_e ie_v) ia_nil))))))) ia_nil))) is_next)
      (is_seq (is_set (show 5 ∉ ([] : List Nat) from by decide) (ie_t (it_lc (by decide) (ii_seq ie_v) ig_name ib_yes (ie_call0 (f_sum_worth_0 _) (ia_cons (ie_e ie_v) (ia_cons (ie_e ie_v) (ia_cons (ie_e ie_v) ia_nil)))))))
      (is_ret (ie_op ops_eq (ie_e (ie_lenSet io_l)) (ie_e (ie_if (ib_test (ie_op ops_eq io_l (ie_e (ie_k fun _ => .str _)))) (ie_k fun _ => .int _) (ie_cb calls_len (ia_cons io_l ia_nil)))))))))))⟩)).mono (by omega)
/-! held -/
def f_held : Fn := fnOfX 3 1
    (sRet (tCb (f1 pTupOf) (tA (tE (tFr (tLcD (tSeqI (tCal f_choices [] 1 (tA (tE (tV 1)) tA0))) (gN 3) (tTst (tCal (f_holds 60) [] 3 (tA (tE (tV 0)) (tA (tE (tV 2)) (tA (tE (tV 3)) tA0))))) (tV 3) [3]))) tA0)))
theorem ok_held (T : Tx P K mg w A D) : FnOk P w K mg base (L2.CX P w) 124 (A 26) (D 26) ["p", "lists", "condition"] (spOf K (XC A) [] 3 f_held) :=
  fn_ipX (k := 123) T.F_held sc_held (by decide) (by decide) (fun cdv A' outer s H E hr => ⟨_, (pss_one (ps_ret (pe_callTy call_tuple_of (by rfl) T.z_tuple (by decide +kernel) (pa_cons (pe_lc (own := [("choice", 3)]) rfl sc_held.nd (pi_seq (pe_callX (ok_choices T) (hr.mono (by first | decide | omega)) rfl T.g_choices T.F_choices.kp (b_choices T) (takes_of rfl rfl rfl rfl) (pa_cons (pv 1) pa_nil))) (blkOk_by (show blkC ["p", "lists", "condition", "choice"] (defScope s_held) _ [("choice", 3)] = true from by decide +kernel)) (fun _ _ _ _ _ => (pg_name (i := 3) sc_held.nd rfl (by first | exact Or.inl rfl | exact Or.inr rfl))) (fun _ _ _ _ _ => (pts_one (pt_val (pe_call (ok_holds T 60) (hr.mono (by first | decide | omega)) rfl T.g_holds T.F_holds.kp (b_holds T) .nil pass0 (pa_cons (pv 0) (pa_cons (pv 2) (pa_cons (pv 3) pa_nil))))))) (fun _ _ _ _ _ => (pv 3))) pa_nil)))), fun ca => (is_ret (ie_cb calls_tuple (ia_cons (ie_e (ie_t (it_lc (by decide) (ii_seq (ie_callX (ia_cons (ie_e ie_v) ia_nil))) ig_name (ib_b (ie_call0 (f_holds_0 _) (ia_cons (ie_e ie_v) (ia_cons (ie_e ie_v) (ia_cons (ie_e ie_v) ia_nil))))) ie_v))) ia_nil)))⟩)
/-! pairs_of -/
def f_pairs_of : Fn := fnOf 2 3
    (sSeq (sIf (tTst (tB2 pEq (tLu 0) (tE (tK (.str "like"))))) (sRet (tFr (tLcD (tEnI (tSlD (tLu 1) tO0 (tO1 (tE (tB1 pNeg (tE (tK (.int 1)))))))) (gT 2 (gs1 (gN 2) (gs1 (gN 3) gs0))) tYesD (tTupD (tA (tE (tV 3)) (tA (tE (tB2 pIx (tLu 1) (tE (tB2 pAdd (tLu 2) (tE (tK (.int 1))))))) tA0))) [2, 3]))) sNext)
    (sRet (tFr (tLc2D (tEnI (tV 1)) (gT 2 (gs1 (gN 2) (gs1 (gN 3) gs0))) tYesD (tSeqI (tSlD (tLu 1) (tO1 (tE (tB2 pAdd (tLu 2) (tE (tK (.int 1)))))) tO0)) (gN 4) tYesD (tTupD (tA (tE (tV 3)) (tA (tE (tV 4)) tA0))) [2, 3, 4] [4]))))
theorem f_pairs_of_0 : ∀ ps P Px Px', f_pairs_of ps P Px → f_pairs_of ps P Px' := fun _ _ _ _ h => h
theorem ok_pairs_of (T : Tx P K mg w A D) : FnOk P w K mg base CX0 1 (A 27) (D 27) ["word", "inner"] (spOf K xc [] 2 f_pairs_of) :=
  fn_ip (k := 0) T.F_pairs_of sc_pairs_of (by decide) (by decide) (fun cdv A' outer s H E hr => ⟨_, (pss_cons (ps_if (pt_cmpR (op_eqD (hu64 hr)) (pv 0) pe_str (nomark _)) (pss_one (ps_ret (pe_lc (own := [("at", 2), ("one", 3)]) rfl sc_pairs_of.nd (pi_enumA rfl T.z_enumerate (pa_cons (pe_slice sl_U (pv 1) po_none (po_some (pe_un un_neg pe_int))) pa_nil)) (blkOk_by (show blkC ["word", "inner", "at", "one", "other"] (defScope s_pairs_of) _ [("at", 2), ("one", 3)] = true from by decide +kernel)) (fun _ _ _ _ _ => (pg_tup rfl (pgs_cons (pg_name (i := 2) sc_pairs_of.nd rfl (by first | exact Or.inl rfl | exact Or.inr rfl)) (pgs_cons (pg_name (i := 3) sc_pairs_of.nd rfl (by first | exact Or.inl rfl | exact Or.inr rfl)) pgs_nil)))) (fun _ _ _ _ _ => pts_nil) (fun _ _ _ _ _ => (pe_tup (pa_cons (pv 3) (pa_cons (pe_ix ix_seq (pv 1) (pe_op op_addU (pv 2) pe_int) (fun _ _ => rfl)) pa_nil))))))) pss_nil)
      (pss_one (ps_ret (pe_lc2 (own := [("at", 2), ("one", 3), ("other", 4)]) (vs1 := [4]) rfl sc_pairs_of.nd (pi_enumA rfl T.z_enumerate (pa_cons (pv 1) pa_nil)) (blkOk_by (show blkC ["word", "inner", "at", "one", "other"] (defScope s_pairs_of) _ [("at", 2), ("one", 3), ("other", 4)] = true from by decide +kernel)) (by decide) (fun _ _ _ _ _ => (pg_tup rfl (pgs_cons (pg_name (i := 2) sc_pairs_of.nd rfl (by first | exact Or.inl rfl | exact Or.inr rfl)) (pgs_cons (pg_name (i := 3) sc_pairs_of.nd rfl (by first | exact Or.inl rfl | exact Or.inr rfl)) pgs_nil)))) (fun _ _ _ _ _ => pts_nil) (fun _ _ _ _ _ => (pi_seq (pe_slice sl_U (pv 1) (po_some (pe_op op_addU (pv 2) pe_int)) po_none))) (fun _ _ _ _ _ => (pg_name (i := 4) sc_pairs_of.nd rfl (by first | exact Or.inl rfl | exact Or.inr rfl))) (fun _ _ _ _ _ => pts_nil) (fun _ _ _ _ _ => (pe_tup (pa_cons (pv 3) (pa_cons (pv 4) pa_nil)))))))), fun ca => (is_seq (is_if (ib_test (ie_op ops_eq io_l (ie_e (ie_k fun _ => .str _)))) (is_ret (ie_t (it_lc (by decide) (ii_enum (ie_slice io_l io_none (io_part (ie_e (ie_un uns_neg (ie_e (ie_k fun _ => .int _))))))) (ig_tup (igs_cons ig_name (igs_cons ig_name igs_nil))) ib_yes (ie_tup (ia_cons (ie_e ie_v) (ia_cons (ie_e (ie_op ops_ix io_l (ie_e (ie_op ops_add io_l (ie_e (ie_k fun _ => .int _)))))) ia_nil)))))) is_next)
      (is_ret (ie_t (it_lc2 (by decide) (by decide) (by decide) (ii_enum ie_v) (ig_tup (igs_cons ig_name (igs_cons ig_name igs_nil))) ib_yes (ii_seq (ie_slice io_l (io_part (ie_e (ie_op ops_add io_l (ie_e (ie_k fun _ => .int _))))) io_none)) ig_name ib_yes (ie_tup (ia_cons (ie_e ie_v) (ia_cons (ie_e ie_v) ia_nil)))))))⟩)
/-! straight_of -/
def f_straight_of : Nat → Fn
  | 0 => fun _ _ _ => False
  | n + 1 => fnOf 2 6
    (sSeq (sAsg (tV 0) (gT 2 (gs1 (gN 2) (gs1 (gN 3) gs0))))
    (sSeq (sIf (tTst (tB2 pEq (tLu 2) (tE (tK (.str "not"))))) (sRet (tCal (f_straight_of n) [] 2 (tA (tE (tV 3)) (tA (tE (tNot1 (tV 1))) tA0)))) sNext)
    (sSeq (sSet 4 (tIte (tTst (tV 1)) (tB1 (pKd t_OTHER) (tLu 2)) (tV 2)))
    (sSeq (sIf (tTst (tB2 (pIn false) (tLu 2) (tE (tTupD (tA (tE (tK (.str "all"))) (tA (tE (tK (.str "some"))) tA0)))))) (sRet (tTupD (tA (tE (tV 4)) (tA (tE (tCb (f1 pTupOf) (tA (tE (tFr (tLcD (tSeqI (tV 3)) (gN 7) tYesD (tCal (f_straight_of n) [] 2 (tA (tE (tV 7)) (tA (tE (tV 1)) tA0))) [7]))) tA0))) tA0)))) sNext)
    (sSeq (sSet 5 (tFr (tLcD (tSeqI (tCal f_pairs_of [] 2 (tA (tE (tV 2)) (tA (tE (tV 3)) tA0)))) (gN 6) tYesD (tTupD (tA (tE (tV 4)) (tA (tE (tV 6)) tA0))) [6])))
    (sSeq (sIf (tTst (tB2 pEq (tE (tCb (f1 pLen) (tA (tLu 5) tA0))) (tE (tK (.int 1))))) (sRet (tB2 pIx (tLu 5) (tE (tK (.int 0))))) sNext)
    (sRet (tTupD (tA (tE (tIte (tTst (tV 1)) (tK (.str "some")) (tK (.str "all")))) (tA (tE (tCb (f1 pTupOf) (tA (tLu 5) tA0))) tA0))))))))))
theorem f_straight_of_0 : ∀ n ps P Px Px', f_straight_of n ps P Px → f_straight_of n ps P Px'
  | 0, _, _, _, _, h => h
  | _ + 1, _, _, _, _, h => h
theorem ok_straight_of (T : Tx P K mg w A D) : ∀ n, FnOk P w K mg base CX0 (2 + n) (A 28) (D 28) ["condition", "is_turned"] (spOf K xc [] 2 (f_straight_of n))
  | 0 => (fn_never T.F_straight_of sc_straight_of).mono (by omega)
  | n + 1 => by
    have ih := ok_straight_of T n
    refine (fn_ip (k := 2 + n) (pins := []) T.F_straight_of sc_straight_of (by decide) (by decide) (fun cdv A' outer s H E hr => ⟨_, (pss_cons (ps_asg (pv 0) (pg_tup rfl (pgs_cons (pg_name (i := 2) sc_straight_of.nd rfl (Or.inl rfl)) (pgs_cons (pg_name (i := 3) sc_straight_of.nd rfl (Or.inl rfl)) pgs_nil))))
      (pss_cons (ps_if (pt_cmpR (op_eqD (hu64 hr)) (pv 2) pe_str (nomark _)) (pss_one (ps_ret (pe_call ih (hr.mono (by omega)) rfl T.g_straight_of T.F_straight_of.kp (b_straight_of T) .nil pass0 (pa_cons (pv 3) (pa_cons (pe_not (pv 1)) pa_nil))))) pss_nil)
      (pss_cons (ps_set (i := 4) sc_straight_of.nd rfl (Or.inr rfl) (pe_ifExp (pt_val (pv 1)) (pe_ix ix_kdict (C8.pe_gc rfl T.c_OTHER) (pv 2) (fun _ _ => rfl)) (pv 2)))
      (pss_cons (ps_if (pt_cmpR op_in_seq (pv 2) (pe_tup (pa_cons pe_str (pa_cons pe_str pa_nil))) (by rfl)) (pss_one (ps_ret (pe_tup (pa_cons (pv 4) (pa_cons (pe_callTy call_tuple_of (by rfl) T.z_tuple (by decide +kernel) (pa_cons (pe_lc (own := [("part", 7)]) rfl sc_straight_of.nd (pi_seq (pv 3)) (blkOk_by (show blkC ["condition", "is_turned", "word", "inner", "told", "parts", "pair", "part"] (defScope s_straight_of) _ [("part", 7)] = true from by decide +kernel)) (fun _ _ _ _ _ => (pg_name (i := 7) sc_straight_of.nd rfl (by first | exact Or.inl rfl | exact Or.inr rfl))) (fun _ _ _ _ _ => pts_nil) (fun _ _ _ _ _ => (pe_call ih (hr.mono (by omega)) rfl T.g_straight_of T.F_straight_of.kp (b_straight_of T) .nil pass0 (pa_cons (pv 7) (pa_cons (pv 1) pa_nil))))) pa_nil)) pa_nil))))) pss_nil)
      (pss_cons (ps_setLc (i := 5) (own := [("pair", 6)]) rfl sc_straight_of.nd rfl rfl (sw_true rfl rfl rfl (by decide +kernel)) (pi_seq (pe_call (ok_pairs_of T) (hr.mono (by first | decide | omega)) rfl T.g_pairs_of T.F_pairs_of.kp (b_pairs_of T) .nil pass0 (pa_cons (pv 2) (pa_cons (pv 3) pa_nil)))) (blkOk_by (show blkC ["condition", "is_turned", "word", "inner", "told", "parts", "pair", "part"] (defScope s_straight_of) _ [("pair", 6)] = true from by decide +kernel)) (fun _ _ _ _ _ => (pg_name (i := 6) sc_straight_of.nd rfl (by first | exact Or.inl rfl | exact Or.inr rfl))) (fun _ _ _ _ _ => pts_nil) (fun _ _ _ _ _ => (pe_tup (pa_cons (pv 4) (pa_cons (pv 6) pa_nil)))))
      (pss_cons (ps_if (pt_cmpR (op_eqD (hu64 hr)) (pe_callB call_len_seq (by rfl) T.z_len PySem.boot_len (pa_cons (pv 5) pa_nil)) pe_int (nomark _)) (pss_one (ps_ret (pe_ix ix_seq (pv 5) pe_int (fun _ _ => rfl)))) pss_nil)
      (pss_one (ps_ret (pe_tup (pa_cons (pe_ifExp (pt_val (pv 1)) pe_str pe_str) (pa_cons (pe_callTy call_tuple_of (by rfl) T.z_tuple (by decide +kernel) (pa_cons (pv 5) pa_nil)) pa_nil))))))))))), fun ca => (is_seq (is_asg (show ∀ j ∈ ([2, 3] : List Nat), j ∉ ([] : List Nat) from by decide) ie_v (ig_tup (igs_cons ig_name (igs_cons ig_name igs_nil))))
      (is_seq (is_if (ib_test (ie_op ops_eq io_l (ie_e (ie_k fun _ => .str _)))) (is_ret (ie_call0 (f_straight_of_0 _) (ia_cons (ie_e ie_v) (ia_cons (ie_e (ie_not ie_v)) ia_nil)))) is_next)
      (is_seq (is_set (show 4 ∉ ([] : List Nat) from by decide) (ie_if (ib_b ie_v) (ie_kd T.d_OTHER io_l) ie_v))
      (is_seq (is_if (ib_test (ie_op ops_in io_l (ie_e (ie_tup (ia_cons (ie_e (ie_k fun _ => .str _)) (ia_cons (ie_e (ie_k fun _ => .str _)) ia_nil)))))) (is_ret (ie_tup (ia_cons (ie_e ie_v) (ia_cons (ie_e (ie_cb calls_tuple (ia_cons (ie_e (ie_t (it_lc (by decide) (ii_seq ie_v) ig_name ib_yes (ie_call0 (f_straight_of_0 _) (ia_cons (ie_e ie_v) (ia_cons (ie_e ie_v) ia_nil)))))) ia_nil))) ia_nil)))) is_next)
      (is_seq (is_set (show 5 ∉ ([] : List Nat) from by decide) (ie_t (it_lc (by decide) (ii_seq (ie_call0 f_pairs_of_0 (ia_cons (ie_e ie_v) (ia_cons (ie_e ie_v) ia_nil)))) ig_name ib_yes (ie_tup (ia_cons (ie_e ie_v) (ia_cons (ie_e ie_v) ia_nil))))))
      (is_seq (is_if (ib_test (ie_op ops_eq (ie_e (ie_cb calls_len (ia_cons io_l ia_nil))) (ie_e (ie_k fun _ => .int _)))) (is_ret (ie_op ops_ix io_l (ie_e (ie_k fun _ => .int _)))) is_next)
      (is_ret (ie_tup (ia_cons (ie_e (ie_if (ib_b ie_v) (ie_k fun _ => .str _) (ie_k fun _ => .str _))) (ia_cons (ie_e (ie_cb calls_tuple (ia_cons io_l ia_nil))) ia_nil))))))))))⟩)).mono (by omega)
/-! straight -/
def f_straight : Fn := fnOf 1 0
    (sRet (tCal (f_straight_of 60) [] 2 (tA (tE (tV 0)) (tA (tE (tK (.bool false))) tA0))))
theorem f_straight_0 : ∀ ps P Px Px', f_straight ps P Px → f_straight ps P Px' := fun _ _ _ _ h => h
theorem ok_straight (T : Tx P K mg w A D) : FnOk P w K mg base CX0 63 (A 29) (D 29) ["condition"] (spOf K xc [] 1 f_straight) :=
  fn_ip (k := 62) T.F_straight sc_straight (by decide) (by decide) (fun cdv A' outer s H E hr => ⟨_, (pss_one (ps_ret (pe_call (ok_straight_of T 60) (hr.mono (by first | decide | omega)) rfl T.g_straight_of T.F_straight_of.kp (b_straight_of T) .nil pass0 (pa_cons (pv 0) (pa_cons pe_bl pa_nil))))), fun ca => (is_ret (ie_call0 (f_straight_of_0 _) (ia_cons (ie_e ie_v) (ia_cons (ie_e (ie_k fun _ => .bl _)) ia_nil))))⟩)
/-! _law_draw -/
def f__law_draw (K : PySem.W.Frag) : Fn := fnOf 2 3
    (sSeq (sSet 2 (tFr (tLcD (tSeqI (tScr K 0)) (gN 4) tYesD (tCb (f1 pAbs) (tA (tE (tCb (f1 pInt) (tA (tLu 4) tA0))) tA0)) [4])))
    (sSeq (sSet 3 (tB2 pAdd (tE (tK (.int 7919))) (tE (tB2 pMul (tE (tK (.int 104729))) (tLu 1)))))
    (sSeq (sFor (tSeqI (tV 2)) (gN 4)
    (sSet 3 (tB2 pMod (tE (tCb (f1 pInt) (tA (tE (tB2 pAdd (tE (tB2 pAdd (tE (tB2 pMul (tLu 3) (tE (tK (.int 48271))))) (tE (tB2 pMod (tLu 4) (tE (tK (.int 2147483549))))))) (tE (tK (.int 11))))) tA0))) (tE (tK (.int 2147483647))))))
    (sRet (tFr (tLstD (tA (tE (tFr (tRevD (tE (tFr (tLcD (tSeqI (tV 2)) (gN 4) (tTst (tB2 pGe (tLu 4) (tE (tB2 pPow (tE (tK (.int 10))) (tE (tK (.int 18))))))) (tV 4) [4])))))) (tA (tE (tV 3)) tA0))))))))
theorem ok__law_draw (T : Tx P K mg w A D) : FnOk P w K mg base CX0 1 (A 31) (D 31) ["script", "salt"] (spOf K xc [] 2 (f__law_draw K)) :=
  fn_ip (k := 0) T.F__law_draw sc__law_draw (by decide) (by decide) (fun cdv A' outer s H E hr => ⟨_, (pss_cons (ps_setLc (i := 2) (own := [("cell", 4)]) rfl sc__law_draw.nd rfl rfl (sw_true rfl rfl rfl (by decide +kernel)) (pi_seq (pe_slice sl_U (pv 0) po_none (po_some pe_int))) (blkOk_by (show blkC ["script", "salt", "cells", "blend", "cell"] (defScope s__law_draw) _ [("cell", 4)] = true from by decide +kernel)) (fun _ _ _ _ _ => (pg_name (i := 4) sc__law_draw.nd rfl (by first | exact Or.inl rfl | exact Or.inr rfl))) (fun _ _ _ _ _ => pts_nil) (fun _ _ _ _ _ => (pe_callB call_abs (by rfl) T.z_abs (by decide +kernel) (pa_cons (pe_callTy call_int1 (by rfl) T.z_int (by decide +kernel) (pa_cons (pv 4) pa_nil)) pa_nil))))
      (pss_cons (ps_set (i := 3) sc__law_draw.nd rfl (Or.inl rfl) (pe_op op_addU pe_int (pe_op op_mulU pe_int (pv 1))))
      (pss_cons (ps_for PassesOwn.never rfl (pi_seq (pv 2)) (pg_name (i := 4) sc__law_draw.nd rfl (Or.inl rfl))
      (pss_one (ps_set (i := 3) sc__law_draw.nd rfl (Or.inl rfl) (pe_op op_mod (pe_callTy call_int1 (by rfl) T.z_int (by decide +kernel) (pa_cons (pe_op op_addU (pe_op op_addU (pe_op op_mulU (pv 3) pe_int) (pe_op op_mod (pv 4) pe_int)) pe_int) pa_nil)) pe_int))))
      (pss_one (ps_ret (pe_lst (pa_cons (pe_revL (pe_lc (own := [("cell", 4)]) rfl sc__law_draw.nd (pi_seq (pv 2)) (blkOk_by (show blkC ["script", "salt", "cells", "blend", "cell"] (defScope s__law_draw) _ [("cell", 4)] = true from by decide +kernel)) (fun _ _ _ _ _ => (pg_name (i := 4) sc__law_draw.nd rfl (by first | exact Or.inl rfl | exact Or.inr rfl))) (fun _ _ _ _ _ => (pts_one (pt_cmpR op_ge (pv 4) (pe_op op_pow pe_int pe_int) (nomark _)))) (fun _ _ _ _ _ => (pv 4)))) (pa_cons (pv 3) pa_nil)))))))), fun ca => (is_seq (is_set (show 2 ∉ ([] : List Nat) from by decide) (ie_t (it_lc (by decide) (ii_seq (ie_scr (fun _ _ _ q => q) (fun _ _ _ q => ⟨_, rfl, q⟩))) ig_name ib_yes (ie_cb calls_abs (ia_cons (ie_e (ie_cb calls_int (ia_cons io_l ia_nil))) ia_nil)))))
      (is_seq (is_set (show 3 ∉ ([] : List Nat) from by decide) (ie_op ops_add (ie_e (ie_k fun _ => .int _)) (ie_e (ie_op ops_mul (ie_e (ie_k fun _ => .int _)) io_l))))
      (is_seq (is_for (show ∀ j ∈ ([4] : List Nat), j ∉ ([] : List Nat) from by decide) (ii_seq ie_v) ig_name
      (is_set (show 3 ∉ ([] : List Nat) from by decide) (ie_op ops_mod (ie_e (ie_cb calls_int (ia_cons (ie_e (ie_op ops_add (ie_e (ie_op ops_add (ie_e (ie_op ops_mul io_l (ie_e (ie_k fun _ => .int _)))) (ie_e (ie_op ops_mod io_l (ie_e (ie_k fun _ => .int _)))))) (ie_e (ie_k fun _ => .int _)))) ia_nil))) (ie_e (ie_k fun _ => .int _)))))
      (is_ret (ie_t (it_lst (ia_cons (ie_e (ie_t (it_rev (ie_e (ie_t (it_lc (by decide) (ii_seq ie_v) ig_name (ib_test (ie_op ops_ge io_l (ie_e (ie_op ops_pow (ie_e (ie_k fun _ => .int _)) (ie_e (ie_k fun _ => .int _)))))) ie_v)))))) (ia_cons (ie_e ie_v) ia_nil))))))))⟩)
/-! _law_any -/
def f__law_any : Fn := fnOf 2 1
    (sSeq (sWhile (tbAnd (tTst (tDlNe 0)) (tTst (tB2 pEq (tE (tDlIx 0 (tE (tB1 pNeg (tE (tK (.int 1))))))) (tE (tK (.int 0))))))
    (sDrop (tDlPop 0)))
    (sSeq (sIf (tTst (tDlNe 0)) (sSeq (sSet 2 (tCb (f1 pInt) (tA (tE (tDlPop 0)) tA0)))
    (sSeq (sDlApp 0 (tB2 pDiv (tLu 2) (tLu 1)))
    (sRet (tB2 pMod (tLu 2) (tLu 1))))) sNext)
    (sSeq (sDlB 0 (tB2 pMod (tE (tCb (f1 pInt) (tA (tE (tB2 pAdd (tE (tB2 pMul (tE (tDlB 0)) (tE (tK (.int 40693))))) (tE (tK (.int 71))))) tA0))) (tE (tK (.int 2147483647)))))
    (sRet (tB2 pMod (tE (tCb (f1 pInt) (tA (tE (tB2 pDiv (tE (tDlB 0)) (tE (tK (.int 64))))) tA0))) (tLu 1))))))
theorem f__law_any_0 : ∀ ps P Px Px', f__law_any ps P Px → f__law_any ps P Px' := fun _ _ _ _ h => h
theorem ok__law_any (T : Tx P K mg w A D) : FnOk P w K mg base CX0 1 (A 32) (D 32) ["deal", "bound"] (spOf K xc [0] 2 f__law_any) :=
  fn_ip (k := 0) T.F__law_any sc__law_any (by decide) (by decide) (fun cdv A' outer s H E hr => ⟨_, (pss_cons (ps_while PassesOwn.never (PW.pt (pw_and (pt_cmpR (op_neD (hu64 hr)) (pe_ix ix_seq (pv 0) pe_int (fun _ _ => rfl)) (pe_lst pa_nil) (nomark _)) (pw_and1 (pt_cmpR (op_eqD (hu64 hr)) (pe_ix ix_seq (pe_ix ix_seq (pv 0) pe_int (fun _ _ => rfl)) (pe_un un_neg pe_int) (fun _ _ => rfl)) pe_int (nomark _)))))
      (pss_one (ps_expr (pe_bm0 PySem.F.plainAttrs_list PySem.F.slot_list_pop PySem.F.type_list_pop mt_pop (pe_ix ix_seq (pv 0) pe_int (fun _ _ => rfl))))))
      (pss_cons (ps_if (pt_cmpR (op_neD (hu64 hr)) (pe_ix ix_seq (pv 0) pe_int (fun _ _ => rfl)) (pe_lst pa_nil) (nomark _)) (pss_cons (ps_set (i := 2) sc__law_any.nd rfl (Or.inl rfl) (pe_callTy call_int1 (by rfl) T.z_int (by decide +kernel) (pa_cons (pe_bm0 PySem.F.plainAttrs_list PySem.F.slot_list_pop PySem.F.type_list_pop mt_pop (pe_ix ix_seq (pv 0) pe_int (fun _ _ => rfl))) pa_nil)))
      (pss_cons (ps_expr (pe_bm PySem.F.plainAttrs_list PySem.F.slot_list_append PySem.F.type_list_append mt_append (pe_ix ix_seq (pv 0) pe_int (fun _ _ => rfl)) (pa_cons (pe_op op_fdiv (pv 2) (pv 1)) pa_nil)))
      (pss_one (ps_ret (pe_op op_mod (pv 2) (pv 1)))))) pss_nil)
      (pss_cons (ps_asg (pe_op op_mod (pe_callTy call_int1 (by rfl) T.z_int (by decide +kernel) (pa_cons (pe_op op_addU (pe_op op_mulU (pe_ix ix_seq (pv 0) pe_int (fun _ _ => rfl)) pe_int) pe_int) pa_nil)) pe_int) (pg_sub (pv 0) pe_int set_list))
      (pss_one (ps_ret (pe_op op_mod (pe_callTy call_int1 (by rfl) T.z_int (by decide +kernel) (pa_cons (pe_op op_fdiv (pe_ix ix_seq (pv 0) pe_int (fun _ _ => rfl)) pe_int) pa_nil)) (pv 1))))))), fun ca => (is_seq (is_while (ib_and (ib_test ie_dlNe) (ib_test (ie_op ops_eq (ie_e (ie_dlIx (ie_e (ie_un uns_neg (ie_e (ie_k fun _ => .int _)))))) (ie_e (ie_k fun _ => .int _)))))
      (is_drop ie_dlPop))
      (is_seq (is_if (ib_test ie_dlNe) (is_seq (is_set (show 2 ∉ ([0] : List Nat) from by decide) (ie_cb calls_int (ia_cons (ie_e ie_dlPop) ia_nil)))
      (is_seq (is_dlApp (ie_op ops_div io_l io_l))
      (is_ret (ie_op ops_mod io_l io_l)))) is_next)
      (is_seq (is_dlB (ie_op ops_mod (ie_e (ie_cb calls_int (ia_cons (ie_e (ie_op ops_add (ie_e (ie_op ops_mul (ie_e ie_dlB) (ie_e (ie_k fun _ => .int _)))) (ie_e (ie_k fun _ => .int _)))) ia_nil))) (ie_e (ie_k fun _ => .int _))))
      (is_ret (ie_op ops_mod (ie_e (ie_cb calls_int (ia_cons (ie_e (ie_op ops_div (ie_e ie_dlB) (ie_e (ie_k fun _ => .int _)))) ia_nil))) io_l)))))⟩)
/-! _law_of -/
def f__law_of : Fn := fnOf 2 0
    (sRet (tB2 pIx (tLu 1) (tE (tCal f__law_any [0] 2 (tA (tLu 0) (tA (tE (tCb (f1 pLen) (tA (tLu 1) tA0))) tA0))))))
theorem f__law_of_0 : ∀ ps P Px Px', f__law_of ps P Px → f__law_of ps P Px' := fun _ _ _ _ h => h
theorem ok__law_of (T : Tx P K mg w A D) : FnOk P w K mg base CX0 2 (A 33) (D 33) ["deal", "some"] (spOf K xc [0] 2 f__law_of) :=
  fn_ip (k := 1) T.F__law_of sc__law_of (by decide) (by decide) (fun cdv A' outer s H E hr => ⟨_, (pss_one (ps_ret (pe_ix ix_seq (pv 1) (pe_call (ok__law_any T) (hr.mono (by first | decide | omega)) rfl T.g__law_any T.F__law_any.kp (b__law_any T) .nil pass0 (pa_cons (pv 0) (pa_cons (pe_callB call_len_seq (by rfl) T.z_len PySem.boot_len (pa_cons (pv 1) pa_nil)) pa_nil))) (fun _ _ => rfl)))), fun ca => (is_ret (ie_op ops_ix io_l (ie_e (ie_call0 f__law_any_0 (ia_cons io_l (ia_cons (ie_e (ie_cb calls_len (ia_cons io_l ia_nil))) ia_nil))))))⟩)
/-! _law_mixed -/
def f__law_mixed : Fn := fnOf 2 2
    (sSeq (sPar 2 3 (tXc (tXt (tCbT (f1T pListOf) (tA (tLu 1) tA0))) (tXc (tXt (tLstD tA0)) tX0)))
    (sSeq (sWhile (tTst (tB2 pNe (tLu 2) (tE (tFr (tLstD tA0)))))
    (sApp 3 (tPopAt 2 (tE (tCal f__law_any [0] 2 (tA (tLu 0) (tA (tE (tCb (f1 pLen) (tA (tLu 2) tA0))) tA0)))))))
    (sRet (tV 3))))
theorem f__law_mixed_0 : ∀ ps P Px Px', f__law_mixed ps P Px → f__law_mixed ps P Px' := fun _ _ _ _ h => h
theorem ok__law_mixed (T : Tx P K mg w A D) : FnOk P w K mg base CX0 2 (A 34) (D 34) ["deal", "some"] (spOf K xc [0] 2 f__law_mixed) :=
  fn_ip (k := 1) T.F__law_mixed sc__law_mixed (by decide) (by decide) (fun cdv A' outer s H E hr => ⟨_, (pss_cons (ps_par (i := 2) (j := 3) rfl sc__law_mixed.nd rfl rfl (by decide) rfl rfl (pa_cons (pe_callTy call_list_of rfl T.z_list (by decide +kernel) (pa_cons (pv 1) pa_nil)) (pa_cons (pe_lst pa_nil) pa_nil)) (by rfl))
      (pss_cons (ps_while PassesOwn.never (pt_cmpR (op_neD (hu64 hr)) (pv 2) (pe_lst pa_nil) (nomark _))
      (pss_one (ps_expr (pe_bm PySem.F.plainAttrs_list PySem.F.slot_list_append PySem.F.type_list_append mt_append (pv 3) (pa_cons (pe_bm PySem.F.plainAttrs_list PySem.F.slot_list_pop PySem.F.type_list_pop mt_popAt (pv 2) (pa_cons (pe_call (ok__law_any T) (hr.mono (by first | decide | omega)) rfl T.g__law_any T.F__law_any.kp (b__law_any T) .nil pass0 (pa_cons (pv 0) (pa_cons (pe_callB call_len_seq (by rfl) T.z_len PySem.boot_len (pa_cons (pv 2) pa_nil)) pa_nil))) pa_nil)) pa_nil)))))
      (pss_one (ps_ret (pv 3))))), fun ca => (is_seq (is_par (show 2 ∉ ([0] : List Nat) from by decide) (show 3 ∉ ([0] : List Nat) from by decide) (ixs_cons (ix_t (it_cb callt_list (ia_cons io_l ia_nil))) (ixs_cons (ix_t (it_lst ia_nil)) ixs_nil)))
      (is_seq (is_while (ib_test (ie_op ops_ne io_l (ie_e (ie_t (it_lst ia_nil)))))
      (is_app (ie_popAt (ie_e (ie_call0 f__law_any_0 (ia_cons io_l (ia_cons (ie_e (ie_cb calls_len (ia_cons io_l ia_nil))) ia_nil)))))))
      (is_ret ie_v)))⟩)
/-! _law_element -/
def f__law_element : Fn := fnOf 2 0
    (sRet (tIte (tTst (tB2 pEq (tLu 0) (tE (tK (.int 0))))) (tV 1) (tB2 pMod (tE (tCb (f1 pInt) (tA (tLu 1) tA0))) (tLu 0))))
theorem f__law_element_0 : ∀ ps P Px Px', f__law_element ps P Px → f__law_element ps P Px' := fun _ _ _ _ h => h
theorem ok__law_element (T : Tx P K mg w A D) : FnOk P w K mg base CX0 1 (A 35) (D 35) ["p", "number"] (spOf K xc [] 2 f__law_element) :=
  fn_ip (k := 0) T.F__law_element sc__law_element (by decide) (by decide) (fun cdv A' outer s H E hr => ⟨_, (pss_one (ps_ret (pe_ifExp (pt_cmpR (op_eqD (hu64 hr)) (pv 0) pe_int (nomark _)) (pv 1) (pe_op op_mod (pe_callTy call_int1 (by rfl) T.z_int (by decide +kernel) (pa_cons (pv 1) pa_nil)) (pv 0))))), fun ca => (is_ret (ie_if (ib_test (ie_op ops_eq io_l (ie_e (ie_k fun _ => .int _)))) ie_v (ie_op ops_mod (ie_e (ie_cb calls_int (ia_cons io_l ia_nil))) io_l)))⟩)
/-! _law_great -/
def f__law_great : Fn := fnOf 2 2
    (sSeq (sSet 2 (tK (.int 0)))
    (sSeq (sFor (tRg1 (tA (tE (tB2 pDiv (tLu 1) (tE (tK (.int 5))))) tA0)) (gN 3)
    (sSet 2 (tB2 pAdd (tE (tB2 pMul (tLu 2) (tE (tK (.int 100000))))) (tE (tCal f__law_any [0] 2 (tA (tLu 0) (tA (tE (tK (.int 100000))) tA0)))))))
    (sRet (tIte (tTst (tB2 pEq (tE (tCal f__law_any [0] 2 (tA (tLu 0) (tA (tE (tK (.int 2))) tA0)))) (tE (tK (.int 0))))) (tV 2) (tB2 pSub (tE (tK (.int 0))) (tLu 2))))))
theorem f__law_great_0 : ∀ ps P Px Px', f__law_great ps P Px → f__law_great ps P Px' := fun _ _ _ _ h => h
theorem ok__law_great (T : Tx P K mg w A D) : FnOk P w K mg base CX0 2 (A 36) (D 36) ["deal", "digits"] (spOf K xc [0] 2 f__law_great) :=
  fn_ip (k := 1) T.F__law_great sc__law_great (by decide) (by decide) (fun cdv A' outer s H E hr => ⟨_, (pss_cons (ps_set (i := 2) sc__law_great.nd rfl (Or.inl rfl) pe_int)
      (pss_cons (ps_for PassesOwn.never rfl (pi_range1 rfl T.z_range (pa_cons (pe_op op_fdiv (pv 1) pe_int) pa_nil)) (pg_name (i := 3) sc__law_great.nd rfl (Or.inl rfl))
      (pss_one (ps_set (i := 2) sc__law_great.nd rfl (Or.inl rfl) (pe_op op_addU (pe_op op_mulU (pv 2) pe_int) (pe_call (ok__law_any T) (hr.mono (by first | decide | omega)) rfl T.g__law_any T.F__law_any.kp (b__law_any T) .nil pass0 (pa_cons (pv 0) (pa_cons pe_int pa_nil)))))))
      (pss_one (ps_ret (pe_ifExp (pt_cmpR (op_eqD (hu64 hr)) (pe_call (ok__law_any T) (hr.mono (by first | decide | omega)) rfl T.g__law_any T.F__law_any.kp (b__law_any T) .nil pass0 (pa_cons (pv 0) (pa_cons pe_int pa_nil))) pe_int (nomark _)) (pv 2) (pe_op op_sub pe_int (pv 2))))))), fun ca => (is_seq (is_set (show 2 ∉ ([0] : List Nat) from by decide) (ie_k fun _ => .int _))
      (is_seq (is_for (show ∀ j ∈ ([3] : List Nat), j ∉ ([0] : List Nat) from by decide) (ii_range1 (ia_cons (ie_e (ie_op ops_div io_l (ie_e (ie_k fun _ => .int _)))) ia_nil)) ig_name
      (is_set (show 2 ∉ ([0] : List Nat) from by decide) (ie_op ops_add (ie_e (ie_op ops_mul io_l (ie_e (ie_k fun _ => .int _)))) (ie_e (ie_call0 f__law_any_0 (ia_cons io_l (ia_cons (ie_e (ie_k fun _ => .int _)) ia_nil)))))))
      (is_ret (ie_if (ib_test (ie_op ops_eq (ie_e (ie_call0 f__law_any_0 (ia_cons io_l (ia_cons (ie_e (ie_k fun _ => .int _)) ia_nil)))) (ie_e (ie_k fun _ => .int _)))) ie_v (ie_op ops_sub (ie_e (ie_k fun _ => .int _)) io_l)))))⟩)
/-! _law_row -/
def f__law_row : Fn := fnOf 4 3
    (sSeq (sIf (tbAnd (tTst (tB2 pEq (tLu 1) (tE (tK (.int 0))))) (tTst (tB2 pGt (tLu 3) (tE (tK (.int 1)))))) (sRet (tCb (f1 pTupOf) (tA (tE (tFr (tSrtSet (tE (tFr (tLcD (tRg1 (tA (tLu 2) tA0)) (gN 6) tYesD (tCal f__law_great [0] 2 (tA (tLu 0) (tA (tE (tV 3)) tA0))) [6])))))) tA0))) sNext)
    (sSeq (sPar 4 5 (tXc (tXt (tIteT (tTst (tB2 pEq (tLu 1) (tE (tK (.int 0))))) (tLRg (tR2 (tE (tB1 pNeg (tE (tK (.int 9))))) (tE (tK (.int 10))))) (tLRg (tR1 (tLu 1))))) (tXc (tXt (tLstD tA0)) tX0)))
    (sSeq (sFor (tRg1 (tA (tE (tCb (f2 (pInt0 fun i j => .int (if j < i then j else i))) (tA (tLu 2) (tA (tE (tCb (f1 pLen) (tA (tLu 4) tA0))) tA0)))) tA0)) (gN 6)
    (sApp 5 (tPopAt 4 (tE (tCal f__law_any [0] 2 (tA (tLu 0) (tA (tE (tCb (f1 pLen) (tA (tLu 4) tA0))) tA0)))))))
    (sRet (tCb (f1 pTupOf) (tA (tE (tFr (tCbT (f1T pSorted) (tA (tLu 5) tA0)))) tA0))))))
theorem f__law_row_0 : ∀ ps P Px Px', f__law_row ps P Px → f__law_row ps P Px' := fun _ _ _ _ h => h
theorem ok__law_row (T : Tx P K mg w A D) : FnOk P w K mg base CX0 3 (A 37) (D 37) ["deal", "p", "length", "digits"] (spOf K xc [0] 4 f__law_row) :=
  fn_ip (k := 2) T.F__law_row sc__law_row (by decide) (by decide) (fun cdv A' outer s H E hr => ⟨_, (pss_cons (ps_if (PW.pt (pw_and (pt_cmpR (op_eqD (hu64 hr)) (pv 1) pe_int (nomark _)) (pw_and1 (pt_cmpR op_gt (pv 3) pe_int (nomark _))))) (pss_one (ps_ret (pe_callTy call_tuple_of (by rfl) T.z_tuple (by decide +kernel) (pa_cons (pe_callB (cr_sortedSet rfl) (by rfl) T.z_sorted (by decide +kernel) (pa_cons (pe_callTy (cr_setL rfl) (by rfl) T.z_set (by decide +kernel) (pa_cons (pe_lc (own := [("step", 6)]) rfl sc__law_row.nd (pi_range1 rfl T.z_range (pa_cons (pv 2) pa_nil)) (blkOk_by (show blkC ["deal", "p", "length", "digits", "some", "found", "step"] (defScope s__law_row) _ [("step", 6)] = true from by decide +kernel)) (fun _ _ _ _ _ => (pg_name (i := 6) sc__law_row.nd rfl (by first | exact Or.inl rfl | exact Or.inr rfl))) (fun _ _ _ _ _ => pts_nil) (fun _ _ _ _ _ => (pe_call (ok__law_great T) (hr.mono (by first | decide | omega)) rfl T.g__law_great T.F__law_great.kp (b__law_great T) .nil pass0 (pa_cons (pv 0) (pa_cons (pv 3) pa_nil))))) pa_nil)) pa_nil)) pa_nil)))) pss_nil)
      (pss_cons (ps_par (i := 4) (j := 5) rfl sc__law_row.nd rfl rfl (by decide) rfl rfl (pa_cons (pe_ifExp (pt_cmpR (op_eqD (hu64 hr)) (pv 1) pe_int (nomark _)) (pe_listRg rfl rfl T.z_list (prg_2 rfl T.z_range (pe_un un_neg pe_int) pe_int)) (pe_listRg rfl rfl T.z_list (prg_1 rfl T.z_range (pv 1)))) (pa_cons (pe_lst pa_nil) pa_nil)) (by rfl))
      (pss_cons (ps_for PassesOwn.never rfl (pi_range1 rfl T.z_range (pa_cons (pe_callB (call_min2 rfl) (by rfl) T.z_min (by decide +kernel) (pa_cons (pv 2) (pa_cons (pe_callB call_len_seq (by rfl) T.z_len PySem.boot_len (pa_cons (pv 4) pa_nil)) pa_nil))) pa_nil)) (pg_name (i := 6) sc__law_row.nd rfl (Or.inl rfl))
      (pss_one (ps_expr (pe_bm PySem.F.plainAttrs_list PySem.F.slot_list_append PySem.F.type_list_append mt_append (pv 5) (pa_cons (pe_bm PySem.F.plainAttrs_list PySem.F.slot_list_pop PySem.F.type_list_pop mt_popAt (pv 4) (pa_cons (pe_call (ok__law_any T) (hr.mono (by first | decide | omega)) rfl T.g__law_any T.F__law_any.kp (b__law_any T) .nil pass0 (pa_cons (pv 0) (pa_cons (pe_callB call_len_seq (by rfl) T.z_len PySem.boot_len (pa_cons (pv 4) pa_nil)) pa_nil))) pa_nil)) pa_nil)))))
      (pss_one (ps_ret (pe_callTy call_tuple_of (by rfl) T.z_tuple (by decide +kernel) (pa_cons (pe_callB cr_sortedI rfl T.z_sorted (by decide +kernel) (pa_cons (pv 5) pa_nil)) pa_nil))))))), fun ca => (is_seq (is_if (ib_and (ib_test (ie_op ops_eq io_l (ie_e (ie_k fun _ => .int _)))) (ib_test (ie_op ops_gt io_l (ie_e (ie_k fun _ => .int _))))) (is_ret (ie_cb calls_tuple (ia_cons (ie_e (ie_t (it_sortedSet (ie_e (ie_t (it_lc (by decide) (ii_range1 (ia_cons io_l ia_nil)) ig_name ib_yes (ie_call0 f__law_great_0 (ia_cons io_l (ia_cons (ie_e ie_v) ia_nil))))))))) ia_nil))) is_next)
      (is_seq (is_par (show 4 ∉ ([0] : List Nat) from by decide) (show 5 ∉ ([0] : List Nat) from by decide) (ixs_cons (ix_t (it_if (ib_test (ie_op ops_eq io_l (ie_e (ie_k fun _ => .int _)))) (it_lrg (irg_2 (ie_e (ie_un uns_neg (ie_e (ie_k fun _ => .int _)))) (ie_e (ie_k fun _ => .int _)))) (it_lrg (irg_1 io_l)))) (ixs_cons (ix_t (it_lst ia_nil)) ixs_nil)))
      (is_seq (is_for (show ∀ j ∈ ([6] : List Nat), j ∉ ([0] : List Nat) from by decide) (ii_range1 (ia_cons (ie_e (ie_cb calls_min2 (ia_cons io_l (ia_cons (ie_e (ie_cb calls_len (ia_cons io_l ia_nil))) ia_nil)))) ia_nil)) ig_name
      (is_app (ie_popAt (ie_e (ie_call0 f__law_any_0 (ia_cons io_l (ia_cons (ie_e (ie_cb calls_len (ia_cons io_l ia_nil))) ia_nil)))))))
      (is_ret (ie_cb calls_tuple (ia_cons (ie_e (ie_t (it_cb callt_sorted (ia_cons io_l ia_nil)))) ia_nil))))))⟩)
/-! _law_sizes -/
def f__law_sizes : Fn := fnOf 3 4
    (sSeq (sPar 3 4 (tXc (tXt (tB2T pRepL (tE (tFr (tLstD (tA (tE (tK (.int 1))) tA0)))) (tLu 1))) (tXc (tXf (tV 2)) tX0)))
    (sSeq (sFor (tSeqI (tCal f__law_mixed [0] 2 (tA (tLu 0) (tA (tE (tFr (tLRg (tR1 (tLu 1))))) tA0)))) (gN 5)
    (sSeq (sSet 6 (tCb (f2 (pInt0 fun i j => .int (if j < i then j else i))) (tA (tE (tK (.int 12))) (tA (tLu 4) tA0))))
    (sSeq (sSetIx 3 (tCal f__law_of [0] 2 (tA (tLu 0) (tA (tE (tFr (tLstD (tA (tE (tV 6)) (tA (tE (tV 6)) (tA (tE (tB2 pAdd (tE (tK (.int 1))) (tE (tCal f__law_any [0] 2 (tA (tLu 0) (tA (tE (tV 6)) tA0)))))) (tA (tE (tB2 pAdd (tE (tK (.int 1))) (tE (tCal f__law_any [0] 2 (tA (tLu 0) (tA (tE (tCb (f2 (pInt0 fun i j => .int (if j < i then j else i))) (tA (tLu 6) (tA (tE (tK (.int 2))) tA0)))) tA0)))))) tA0))))))) tA0))) (tLu 5))
    (sSet 4 (tB2 pDiv (tLu 4) (tE (tB2 pIx (tLu 3) (tLu 5))))))))
    (sRet (tV 3))))
theorem f__law_sizes_0 : ∀ ps P Px Px', f__law_sizes ps P Px → f__law_sizes ps P Px' := fun _ _ _ _ h => h
theorem ok__law_sizes (T : Tx P K mg w A D) : FnOk P w K mg base CX0 3 (A 38) (D 38) ["deal", "n", "most"] (spOf K xc [0] 3 f__law_sizes) :=
  fn_ip (k := 2) T.F__law_sizes sc__law_sizes (by decide) (by decide) (fun cdv A' outer s H E hr => ⟨_, (pss_cons (ps_par (i := 3) (j := 4) rfl sc__law_sizes.nd rfl rfl (by decide) rfl rfl (pa_cons (pe_op op_mulU (pe_lst (pa_cons pe_int pa_nil)) (pv 1)) (pa_cons (pv 2) pa_nil)) (by rfl))
      (pss_cons (ps_for PassesOwn.never rfl (pi_seq (pe_call (ok__law_mixed T) (hr.mono (by first | decide | omega)) rfl T.g__law_mixed T.F__law_mixed.kp (b__law_mixed T) .nil pass0 (pa_cons (pv 0) (pa_cons (pe_listRg rfl rfl T.z_list (prg_1 rfl T.z_range (pv 1))) pa_nil)))) (pg_name (i := 5) sc__law_sizes.nd rfl (Or.inl rfl))
      (pss_cons (ps_set (i := 6) sc__law_sizes.nd rfl (Or.inl rfl) (pe_callB (call_min2 rfl) (by rfl) T.z_min (by decide +kernel) (pa_cons pe_int (pa_cons (pv 4) pa_nil))))
      (pss_cons (ps_asg (pe_call (ok__law_of T) (hr.mono (by first | decide | omega)) rfl T.g__law_of T.F__law_of.kp (b__law_of T) .nil pass0 (pa_cons (pv 0) (pa_cons (pe_lst (pa_cons (pv 6) (pa_cons (pv 6) (pa_cons (pe_op op_addU pe_int (pe_call (ok__law_any T) (hr.mono (by first | decide | omega)) rfl T.g__law_any T.F__law_any.kp (b__law_any T) .nil pass0 (pa_cons (pv 0) (pa_cons (pv 6) pa_nil)))) (pa_cons (pe_op op_addU pe_int (pe_call (ok__law_any T) (hr.mono (by first | decide | omega)) rfl T.g__law_any T.F__law_any.kp (b__law_any T) .nil pass0 (pa_cons (pv 0) (pa_cons (pe_callB (call_min2 rfl) (by rfl) T.z_min (by decide +kernel) (pa_cons (pv 6) (pa_cons pe_int pa_nil))) pa_nil)))) pa_nil))))) pa_nil))) (pg_sub (pv 3) (pv 5) set_list))
      (pss_one (ps_set (i := 4) sc__law_sizes.nd rfl (Or.inl rfl) (pe_op op_fdiv (pv 4) (pe_ix ix_seq (pv 3) (pv 5) (fun _ _ => rfl))))))))
      (pss_one (ps_ret (pv 3))))), fun ca => (is_seq (is_par (show 3 ∉ ([0] : List Nat) from by decide) (show 4 ∉ ([0] : List Nat) from by decide) (ixs_cons (ix_t (it_op opt_rep (ie_e (ie_t (it_lst (ia_cons (ie_e (ie_k fun _ => .int _)) ia_nil)))) io_l)) (ixs_cons (ix_f ie_v) ixs_nil)))
      (is_seq (is_for (show ∀ j ∈ ([5] : List Nat), j ∉ ([0] : List Nat) from by decide) (ii_seq (ie_call0 f__law_mixed_0 (ia_cons io_l (ia_cons (ie_e (ie_t (it_lrg (irg_1 io_l)))) ia_nil)))) ig_name
      (is_seq (is_set (show 6 ∉ ([0] : List Nat) from by decide) (ie_cb calls_min2 (ia_cons (ie_e (ie_k fun _ => .int _)) (ia_cons io_l ia_nil))))
      (is_seq (is_setIx (ie_call0 f__law_of_0 (ia_cons io_l (ia_cons (ie_e (ie_t (it_lst (ia_cons (ie_e ie_v) (ia_cons (ie_e ie_v) (ia_cons (ie_e (ie_op ops_add (ie_e (ie_k fun _ => .int _)) (ie_e (ie_call0 f__law_any_0 (ia_cons io_l (ia_cons (ie_e ie_v) ia_nil)))))) (ia_cons (ie_e (ie_op ops_add (ie_e (ie_k fun _ => .int _)) (ie_e (ie_call0 f__law_any_0 (ia_cons io_l (ia_cons (ie_e (ie_cb calls_min2 (ia_cons io_l (ia_cons (ie_e (ie_k fun _ => .int _)) ia_nil)))) ia_nil)))))) ia_nil))))))) ia_nil))) io_l)
      (is_set (show 4 ∉ ([0] : List Nat) from by decide) (ie_op ops_div io_l (ie_e (ie_op ops_ix io_l io_l)))))))
      (is_ret ie_v)))⟩)
/-! _law_choices -/
def f__law_choices : Fn := fnOf 1 5
    (sSeq (sSet 1 (tFr (tLstD (tA (tE (tTupD tA0)) tA0))))
    (sSeq (sFor (tSeqI (tV 0)) (gN 2)
    (sSeq (sSet 3 (tFr (tLstD tA0)))
    (sSeq (sFor (tSeqI (tV 1)) (gN 4)
    (sSet 3 (tB2 pAdd (tLu 3) (tE (tFr (tLcD (tSeqI (tV 2)) (gN 5) tYesD (tB2 pAdd (tLu 4) (tE (tTupD (tA (tE (tV 5)) tA0)))) [5]))))))
    (sSet 1 (tV 3)))))
    (sRet (tV 1))))
theorem f__law_choices_0 : ∀ ps P Px Px', f__law_choices ps P Px → f__law_choices ps P Px' := fun _ _ _ _ h => h
theorem ok__law_choices (T : Tx P K mg w A D) : FnOk P w K mg base CX0 1 (A 39) (D 39) ["lists"] (spOf K xc [] 1 f__law_choices) :=
  fn_ip (k := 0) T.F__law_choices sc__law_choices (by decide) (by decide) (fun cdv A' outer s H E hr => ⟨_, (pss_cons (ps_set (i := 1) sc__law_choices.nd rfl (Or.inl rfl) (pe_lst (pa_cons (pe_tup pa_nil) pa_nil)))
      (pss_cons (ps_for PassesOwn.never rfl (pi_seq (pv 0)) (pg_name (i := 2) sc__law_choices.nd rfl (Or.inl rfl))
      (pss_cons (ps_set (i := 3) sc__law_choices.nd rfl (Or.inl rfl) (pe_lst pa_nil))
      (pss_cons (ps_for PassesOwn.never rfl (pi_seq (pv 1)) (pg_name (i := 4) sc__law_choices.nd rfl (Or.inr rfl))
      (pss_one (ps_set (i := 3) sc__law_choices.nd rfl (Or.inl rfl) (pe_op op_addU (pv 3) (pe_lc (own := [("one", 5)]) rfl sc__law_choices.nd (pi_seq (pv 2)) (blkOk_by (show blkC ["lists", "found", "row", "later", "choice", "one"] (defScope s__law_choices) _ [("one", 5)] = true from by decide +kernel)) (fun _ _ _ _ _ => (pg_name (i := 5) sc__law_choices.nd rfl (by first | exact Or.inl rfl | exact Or.inr rfl))) (fun _ _ _ _ _ => pts_nil) (fun _ _ _ _ _ => (pe_op op_addU (pv 4) (pe_tup (pa_cons (pv 5) pa_nil)))))))))
      (pss_one (ps_set (i := 1) sc__law_choices.nd rfl (Or.inl rfl) (pv 3))))))
      (pss_one (ps_ret (pv 1))))), fun ca => (is_seq (is_set (show 1 ∉ ([] : List Nat) from by decide) (ie_t (it_lst (ia_cons (ie_e (ie_tup ia_nil)) ia_nil))))
      (is_seq (is_for (show ∀ j ∈ ([2] : List Nat), j ∉ ([] : List Nat) from by decide) (ii_seq ie_v) ig_name
      (is_seq (is_set (show 3 ∉ ([] : List Nat) from by decide) (ie_t (it_lst ia_nil)))
      (is_seq (is_for (show ∀ j ∈ ([4] : List Nat), j ∉ ([] : List Nat) from by decide) (ii_seq ie_v) ig_name
      (is_set (show 3 ∉ ([] : List Nat) from by decide) (ie_op ops_add io_l (ie_e (ie_t (it_lc (by decide) (ii_seq ie_v) ig_name ib_yes (ie_op ops_add io_l (ie_e (ie_tup (ia_cons (ie_e ie_v) ia_nil))))))))))
      (is_set (show 1 ∉ ([] : List Nat) from by decide) ie_v))))
      (is_ret ie_v)))⟩)
/-! _law_sum_worth -/
def f__law_sum_worth : Nat → Fn
  | 0 => fun _ _ _ => False
  | n + 1 => fnOf 2 3
    (sSeq (sIf (tTst (tB2 pEq (tE (tB2 pIx (tLu 0) (tE (tK (.int 0))))) (tE (tK (.str "is"))))) (sRet (tB2 pIx (tLu 0) (tE (tK (.int 1))))) sNext)
    (sSeq (sIf (tTst (tB2 pEq (tE (tB2 pIx (tLu 0) (tE (tK (.int 0))))) (tE (tK (.str "of"))))) (sRet (tB2 pIx (tLu 1) (tE (tB2 pIx (tLu 0) (tE (tK (.int 1))))))) sNext)
    (sSeq (sIf (tTst (tB2 pEq (tE (tB2 pIx (tLu 0) (tE (tK (.int 0))))) (tE (tK (.str "minus"))))) (sRet (tB2 pSub (tE (tK (.int 0))) (tE (tCal (f__law_sum_worth n) [] 2 (tA (tE (tB2 pIx (tLu 0) (tE (tK (.int 1))))) (tA (tE (tV 1)) tA0)))))) sNext)
    (sSeq (sSet 2 (tIte (tTst (tB2 pEq (tE (tB2 pIx (tLu 0) (tE (tK (.int 0))))) (tE (tK (.str "add"))))) (tK (.int 0)) (tK (.int 1))))
    (sSeq (sFor (tSeqI (tB2 pIx (tLu 0) (tE (tK (.int 1))))) (gN 3)
    (sSeq (sSet 4 (tCal (f__law_sum_worth n) [] 2 (tA (tE (tV 3)) (tA (tE (tV 1)) tA0))))
    (sSet 2 (tIte (tTst (tB2 pEq (tE (tB2 pIx (tLu 0) (tE (tK (.int 0))))) (tE (tK (.str "add"))))) (tB2 pAdd (tLu 2) (tLu 4)) (tB2 pMul (tLu 2) (tLu 4))))))
    (sRet (tV 2)))))))
theorem f__law_sum_worth_0 : ∀ n ps P Px Px', f__law_sum_worth n ps P Px → f__law_sum_worth n ps P Px'
  | 0, _, _, _, _, h => h
  | _ + 1, _, _, _, _, h => h
theorem ok__law_sum_worth (T : Tx P K mg w A D) : ∀ n, FnOk P w K mg base CX0 (1 + n) (A 40) (D 40) ["tree", "choice"] (spOf K xc [] 2 (f__law_sum_worth n))
  | 0 => (fn_never T.F__law_sum_worth sc__law_sum_worth).mono (by omega)
  | n + 1 => by
    have ih := ok__law_sum_worth T n
    refine (fn_ip (k := 1 + n) (pins := []) T.F__law_sum_worth sc__law_sum_worth (by decide) (by decide) (fun cdv A' outer s H E hr => ⟨_, (pss_cons (ps_if (pt_cmpR (op_eqD (hu64 hr)) (pe_ix ix_seq (pv 0) pe_int (fun _ _ => rfl)) pe_str (nomark _)) (pss_one (ps_ret (pe_ix ix_seq (pv 0) pe_int (fun _ _ => rfl)))) pss_nil)
      (pss_cons (ps_if (pt_cmpR (op_eqD (hu64 hr)) (pe_ix ix_seq (pv 0) pe_int (fun _ _ => rfl)) pe_str (nomark _)) (pss_one (ps_ret (pe_ix ix_seq (pv 1) (pe_ix ix_seq (pv 0) pe_int (fun _ _ => rfl)) (fun _ _ => rfl)))) pss_nil)
      (pss_cons (ps_if (pt_cmpR (op_eqD (hu64 hr)) (pe_ix ix_seq (pv 0) pe_int (fun _ _ => rfl)) pe_str (nomark _)) (pss_one (ps_ret (pe_op op_sub pe_int (pe_call ih (hr.mono (by omega)) rfl T.g__law_sum_worth T.F__law_sum_worth.kp (b__law_sum_worth T) .nil pass0 (pa_cons (pe_ix ix_seq (pv 0) pe_int (fun _ _ => rfl)) (pa_cons (pv 1) pa_nil)))))) pss_nil)
      (pss_cons (ps_set (i := 2) sc__law_sum_worth.nd rfl (Or.inl rfl) (pe_ifExp (pt_cmpR (op_eqD (hu64 hr)) (pe_ix ix_seq (pv 0) pe_int (fun _ _ => rfl)) pe_str (nomark _)) pe_int pe_int))
      (pss_cons (ps_for PassesOwn.never rfl (pi_seq (pe_ix ix_seq (pv 0) pe_int (fun _ _ => rfl))) (pg_name (i := 3) sc__law_sum_worth.nd rfl (Or.inl rfl))
      (pss_cons (ps_set (i := 4) sc__law_sum_worth.nd rfl (Or.inl rfl) (pe_call ih (hr.mono (by omega)) rfl T.g__law_sum_worth T.F__law_sum_worth.kp (b__law_sum_worth T) .nil pass0 (pa_cons (pv 3) (pa_cons (pv 1) pa_nil))))
      (pss_one (ps_set (i := 2) sc__law_sum_worth.nd rfl (Or.inl rfl) (pe_ifExp (pt_cmpR (op_eqD (hu64 hr)) (pe_ix ix_seq (pv 0) pe_int (fun _ _ => rfl)) pe_str (nomark _)) (pe_op op_addU (pv 2) (pv 4)) (pe_op op_mulU (pv 2) (pv 4)))))))
      (pss_one (ps_ret (pv 2)))))))), fun ca => (is_seq (is_if (ib_test (ie_op ops_eq (ie_e (ie_op ops_ix io_l (ie_e (ie_k fun _ => .int _)))) (ie_e (ie_k fun _ => .str _)))) (is_ret (ie_op ops_ix io_l (ie_e (ie_k fun _ => .int _)))) is_next)
      (is_seq (is_if (ib_test (ie_op ops_eq (ie_e (ie_op ops_ix io_l (ie_e (ie_k fun _ => .int _)))) (ie_e (ie_k fun _ => .str _)))) (is_ret (ie_op ops_ix io_l (ie_e (ie_op ops_ix io_l (ie_e (ie_k fun _ => .int _)))))) is_next)
      (is_seq (is_if (ib_test (ie_op ops_eq (ie_e (ie_op ops_ix io_l (ie_e (ie_k fun _ => .int _)))) (ie_e (ie_k fun _ => .str _)))) (is_ret (ie_op ops_sub (ie_e (ie_k fun _ => .int _)) (ie_e (ie_call0 (f__law_sum_worth_0 _) (ia_cons (ie_e (ie_op ops_ix io_l (ie_e (ie_k fun _ => .int _)))) (ia_cons (ie_e ie_v) ia_nil)))))) is_next)
      (is_seq (is_set (show 2 ∉ ([] : List Nat) from by decide) (ie_if (ib_test (ie_op ops_eq (ie_e (ie_op ops_ix io_l (ie_e (ie_k fun _ => .int _)))) (ie_e (ie_k fun _ => .str _)))) (ie_k fun _ => .int _) (ie_k fun _ => .int _)))
      (is_seq (is_for (show ∀ j ∈ ([3] : List Nat), j ∉ ([] : List Nat) from by decide) (ii_seq (ie_op ops_ix io_l (ie_e (ie_k fun _ => .int _)))) ig_name
      (is_seq (is_set (show 4 ∉ ([] : List Nat) from by decide) (ie_call0 (f__law_sum_worth_0 _) (ia_cons (ie_e ie_v) (ia_cons (ie_e ie_v) ia_nil))))
      (is_set (show 2 ∉ ([] : List Nat) from by decide) (ie_if (ib_test (ie_op ops_eq (ie_e (ie_op ops_ix io_l (ie_e (ie_k fun _ => .int _)))) (ie_e (ie_k fun _ => .str _)))) (ie_op ops_add io_l io_l) (ie_op ops_mul io_l io_l)))))
      (is_ret ie_v))))))⟩)).mono (by omega)
/-! _law_holds -/
def f__law_holds : Nat → Fn
  | 0 => fun _ _ _ => False
  | n + 1 => fnOf 3 6
    (sSeq (sIf (tTst (tB2 pEq (tE (tB2 pIx (tLu 1) (tE (tK (.int 0))))) (tE (tK (.str "not"))))) (sRet (tNot1 (tCal (f__law_holds n) [] 3 (tA (tE (tV 0)) (tA (tE (tB2 pIx (tLu 1) (tE (tK (.int 1))))) (tA (tE (tV 2)) tA0)))))) sNext)
    (sSeq (sIf (tTst (tB2 (pIn false) (tE (tB2 pIx (tLu 1) (tE (tK (.int 0))))) (tE (tFr (tLstD (tA (tE (tK (.str "all"))) (tA (tE (tK (.str "some"))) tA0))))))) (sSeq (sSet 3 (tCb (f1 pLen) (tA (tE (tFr (tLcD (tSeqI (tB2 pIx (tLu 1) (tE (tK (.int 1))))) (gN 6) (tTst (tCal (f__law_holds n) [] 3 (tA (tE (tV 0)) (tA (tE (tV 6)) (tA (tE (tV 2)) tA0))))) (tK (.int 1)) [6]))) tA0)))
    (sRet (tOr2 (tB2 pEq (tLu 3) (tE (tCb (f1 pLen) (tA (tE (tB2 pIx (tLu 1) (tE (tK (.int 1))))) tA0)))) (tAnd2 (tB2 pEq (tE (tB2 pIx (tLu 1) (tE (tK (.int 0))))) (tE (tK (.str "some")))) (tB2 pGt (tLu 3) (tE (tK (.int 0)))))))) sNext)
    (sSeq (sSet 4 (tFr (tLcD (tSeqI (tB2 pIx (tLu 1) (tE (tK (.int 1))))) (gN 6) tYesD (tCal f__law_element [] 2 (tA (tE (tV 0)) (tA (tE (tCal (f__law_sum_worth 60) [] 2 (tA (tE (tV 6)) (tA (tE (tV 2)) tA0)))) tA0))) [6])))
    (sSeq (sSet 5 (tCb (f1 (onInts fun ns => some (.int ns.sum))) (tA (tE (tFr (tLcD (tEnI (tV 4)) (gT 2 (gs1 (gN 7) (gs1 (gN 8) gs0))) tYesD (tMet pCount (tE (tSlD (tLu 4) tO0 (tO1 (tLu 7)))) (tLu 8)) [7, 8]))) tA0)))
    (sRet (tB2 pEq (tLu 5) (tE (tIte (tTst (tB2 pEq (tE (tB2 pIx (tLu 1) (tE (tK (.int 0))))) (tE (tK (.str "unlike"))))) (tK (.int 0)) (tB2 pDiv (tE (tB2 pMul (tE (tCb (f1 pLen) (tA (tLu 4) tA0))) (tE (tB2 pSub (tE (tCb (f1 pLen) (tA (tLu 4) tA0))) (tE (tK (.int 1))))))) (tE (tK (.int 2))))))))))))
theorem f__law_holds_0 : ∀ n ps P Px Px', f__law_holds n ps P Px → f__law_holds n ps P Px'
  | 0, _, _, _, _, h => h
  | _ + 1, _, _, _, _, h => h
theorem ok__law_holds (T : Tx P K mg w A D) : ∀ n, FnOk P w K mg base CX0 (62 + n) (A 41) (D 41) ["p", "condition", "choice"] (spOf K xc [] 3 (f__law_holds n))
  | 0 => (fn_never T.F__law_holds sc__law_holds).mono (by omega)
  | n + 1 => by
    have ih := ok__law_holds T n
    refine (fn_ip (k := 62 + n) (pins := []) T.F__law_holds sc__law_holds (by decide) (by decide) (fun cdv A' outer s H E hr => ⟨_, (pss_cons (ps_if (pt_cmpR (op_eqD (hu64 hr)) (pe_ix ix_seq (pv 1) pe_int (fun _ _ => rfl)) pe_str (nomark _)) (pss_one (ps_ret (pe_not (pe_call ih (hr.mono (by omega)) rfl T.g__law_holds T.F__law_holds.kp (b__law_holds T) .nil pass0 (pa_cons (pv 0) (pa_cons (pe_ix ix_seq (pv 1) pe_int (fun _ _ => rfl)) (pa_cons (pv 2) pa_nil))))))) pss_nil)
      (pss_cons (ps_if (pt_cmpR op_in_seq (pe_ix ix_seq (pv 1) pe_int (fun _ _ => rfl)) (pe_lst (pa_cons pe_str (pa_cons pe_str pa_nil))) (by rfl)) (pss_cons (ps_set (i := 3) sc__law_holds.nd rfl (Or.inl rfl) (pe_callB call_len_seq (by rfl) T.z_len PySem.boot_len (pa_cons (pe_lc (own := [("part", 6)]) rfl sc__law_holds.nd (pi_seq (pe_ix ix_seq (pv 1) pe_int (fun _ _ => rfl))) (blkOk_by (show blkC ["p", "condition", "choice", "good", "worths", "same", "part", "at", "one"] (defScope s__law_holds) _ [("part", 6)] = true from by decide +kernel)) (fun _ _ _ _ _ => (pg_name (i := 6) sc__law_holds.nd rfl (by first | exact Or.inl rfl | exact Or.inr rfl))) (fun _ _ _ _ _ => (pts_one (pt_val (pe_call ih (hr.mono (by omega)) rfl T.g__law_holds T.F__law_holds.kp (b__law_holds T) .nil pass0 (pa_cons (pv 0) (pa_cons (pv 6) (pa_cons (pv 2) pa_nil))))))) (fun _ _ _ _ _ => pe_int)) pa_nil)))
      (pss_one (ps_ret (pe_or (pe_cmpR (op_eqD (hu64 hr)) (pv 3) (pe_callB call_len_seq (by rfl) T.z_len PySem.boot_len (pa_cons (pe_ix ix_seq (pv 1) pe_int (fun _ _ => rfl)) pa_nil)) (nomark _)) (pe_one (pe_and (pe_cmpR (op_eqD (hu64 hr)) (pe_ix ix_seq (pv 1) pe_int (fun _ _ => rfl)) pe_str (nomark _)) (pe_one (pe_cmpR op_gt (pv 3) pe_int (nomark _))))))))) pss_nil)
      (pss_cons (ps_set (i := 4) sc__law_holds.nd rfl (Or.inr rfl) (pe_lc (own := [("part", 6)]) rfl sc__law_holds.nd (pi_seq (pe_ix ix_seq (pv 1) pe_int (fun _ _ => rfl))) (blkOk_by (show blkC ["p", "condition", "choice", "good", "worths", "same", "part", "at", "one"] (defScope s__law_holds) _ [("part", 6)] = true from by decide +kernel)) (fun _ _ _ _ _ => (pg_name (i := 6) sc__law_holds.nd rfl (by first | exact Or.inl rfl | exact Or.inr rfl))) (fun _ _ _ _ _ => pts_nil) (fun _ _ _ _ _ => (pe_call (ok__law_element T) (hr.mono (by first | decide | omega)) rfl T.g__law_element T.F__law_element.kp (b__law_element T) .nil pass0 (pa_cons (pv 0) (pa_cons (pe_call (ok__law_sum_worth T 60) (hr.mono (by first | decide | omega)) rfl T.g__law_sum_worth T.F__law_sum_worth.kp (b__law_sum_worth T) .nil pass0 (pa_cons (pv 6) (pa_cons (pv 2) pa_nil))) pa_nil))))))
      (pss_cons (ps_set (i := 5) sc__law_holds.nd rfl (Or.inl rfl) (pe_callB (cr_sum rfl) (by rfl) T.z_sum (by decide +kernel) (pa_cons (pe_lc (own := [("at", 7), ("one", 8)]) rfl sc__law_holds.nd (pi_enumA rfl T.z_enumerate (pa_cons (pv 4) pa_nil)) (blkOk_by (show blkC ["p", "condition", "choice", "good", "worths", "same", "part", "at", "one"] (defScope s__law_holds) _ [("at", 7), ("one", 8)] = true from by decide +kernel)) (fun _ _ _ _ _ => (pg_tup rfl (pgs_cons (pg_name (i := 7) sc__law_holds.nd rfl (by first | exact Or.inl rfl | exact Or.inr rfl)) (pgs_cons (pg_name (i := 8) sc__law_holds.nd rfl (by first | exact Or.inl rfl | exact Or.inr rfl)) pgs_nil)))) (fun _ _ _ _ _ => pts_nil) (fun _ _ _ _ _ => (pe_bm PySem.F.plainAttrs_list PySem.F.slot_list_count PySem.F.type_list_count mt_lcount (pe_slice sl_U (pv 4) po_none (po_some (pv 7))) (pa_cons (pv 8) pa_nil)))) pa_nil)))
      (pss_one (ps_ret (pe_cmpR (op_eqD (hu64 hr)) (pv 5) (pe_ifExp (pt_cmpR (op_eqD (hu64 hr)) (pe_ix ix_seq (pv 1) pe_int (fun _ _ => rfl)) pe_str (nomark _)) pe_int (pe_op op_fdiv (pe_op op_mulU (pe_callB call_len_seq (by rfl) T.z_len PySem.boot_len (pa_cons (pv 4) pa_nil)) (pe_op op_sub (pe_callB call_len_seq (by rfl) T.z_len PySem.boot_len (pa_cons (pv 4) pa_nil)) pe_int)) pe_int)) (nomark _)))))))), fun ca => (is_seq (is_if (ib_test (ie_op ops_eq (ie_e (ie_op ops_ix io_l (ie_e (ie_k fun _ => .int _)))) (ie_e (ie_k fun _ => .str _)))) (is_ret (ie_not (ie_call0 (f__law_holds_0 _) (ia_cons (ie_e ie_v) (ia_cons (ie_e (ie_op ops_ix io_l (ie_e (ie_k fun _ => .int _)))) (ia_cons (ie_e ie_v) ia_nil)))))) is_next)
      (is_seq (is_if (ib_test (ie_op ops_in (ie_e (ie_op ops_ix io_l (ie_e (ie_k fun _ => .int _)))) (ie_e (ie_t (it_lst (ia_cons (ie_e (ie_k fun _ => .str _)) (ia_cons (ie_e (ie_k fun _ => .str _)) ia_nil))))))) (is_seq (is_set (show 3 ∉ ([] : List Nat) from by decide) (ie_cb calls_len (ia_cons (ie_e (ie_t (it_lc (by decide) (ii_seq (ie_op ops_ix io_l (ie_e (ie_k fun _ => .int _)))) ig_name (ib_b (ie_call0 (f__law_holds_0 _) (ia_cons (ie_e ie_v) (ia_cons (ie_e ie_v) (ia_cons (ie_e ie_v) ia_nil))))) (ie_k fun _ => .int _)))) ia_nil)))
      (is_ret (ie_or (ie_op ops_eq io_l (ie_e (ie_cb calls_len (ia_cons (ie_e (ie_op ops_ix io_l (ie_e (ie_k fun _ => .int _)))) ia_nil)))) (ie_and (ie_op ops_eq (ie_e (ie_op ops_ix io_l (ie_e (ie_k fun _ => .int _)))) (ie_e (ie_k fun _ => .str _))) (ie_op ops_gt io_l (ie_e (ie_k fun _ => .int _))))))) is_next)
      (is_seq (is_set (show 4 ∉ ([] : List Nat) from by decide) (ie_t (it_lc (by decide) (ii_seq (ie_op ops_ix io_l (ie_e (ie_k fun _ => .int _)))) ig_name ib_yes (ie_call0 f__law_element_0 (ia_cons (ie_e ie_v) (ia_cons (ie_e (ie_call0 (f__law_sum_worth_0 _) (ia_cons (ie_e ie_v) (ia_cons (ie_e ie_v) ia_nil)))) ia_nil))))))
      (is_seq (is_set (show 5 ∉ ([] : List Nat) from by decide) (ie_cb calls_sum (ia_cons (ie_e (ie_t (it_lc (by decide) (ii_enum ie_v) (ig_tup (igs_cons ig_name (igs_cons ig_name igs_nil))) ib_yes (ie_met ops_count (ie_e (ie_slice io_l io_none (io_part io_l))) io_l)))) ia_nil)))
      (is_ret (ie_op ops_eq io_l (ie_e (ie_if (ib_test (ie_op ops_eq (ie_e (ie_op ops_ix io_l (ie_e (ie_k fun _ => .int _)))) (ie_e (ie_k fun _ => .str _)))) (ie_k fun _ => .int _) (ie_op ops_div (ie_e (ie_op ops_mul (ie_e (ie_cb calls_len (ia_cons io_l ia_nil))) (ie_e (ie_op ops_sub (ie_e (ie_cb calls_len (ia_cons io_l ia_nil))) (ie_e (ie_k fun _ => .int _)))))) (ie_e (ie_k fun _ => .int _)))))))))))⟩)).mono (by omega)
/-! _law_paired -/
def f__law_paired : Nat → Fn
  | 0 => fun _ _ _ => False
  | n + 1 => fnOf 1 6
    (sSeq (sPar 1 2 (tXc (tXf (tB2 pIx (tLu 0) (tE (tK (.int 0))))) (tXc (tXf (tB2 pIx (tLu 0) (tE (tK (.int 1))))) tX0)))
    (sSeq (sIf (tTst (tB2 pEq (tLu 1) (tE (tK (.str "not"))))) (sRet (tTupD (tA (tE (tK (.str "not"))) (tA (tE (tCal (f__law_paired n) [] 1 (tA (tE (tV 2)) tA0))) tA0)))) sNext)
    (sSeq (sIf (tTst (tB2 (pIn false) (tLu 1) (tE (tFr (tLstD (tA (tE (tK (.str "all"))) (tA (tE (tK (.str "some"))) tA0))))))) (sRet (tTupD (tA (tE (tV 1)) (tA (tE (tCb (f1 pTupOf) (tA (tE (tFr (tLcD (tSeqI (tV 2)) (gN 6) tYesD (tCal (f__law_paired n) [] 1 (tA (tE (tV 6)) tA0)) [6]))) tA0))) tA0)))) sNext)
    (sSeq (sSetT 3 (tLstD tA0))
    (sSeq (sFor (tRg1 (tA (tE (tCb (f1 pLen) (tA (tLu 2) tA0))) tA0)) (gN 4)
    (sFor (tRg2 (tA (tE (tB2 pAdd (tLu 4) (tE (tK (.int 1))))) (tA (tE (tIte (tTst (tB2 pEq (tLu 1) (tE (tK (.str "unlike"))))) (tCb (f1 pLen) (tA (tLu 2) tA0)) (tCb (f2 (pInt0 fun i j => .int (if j < i then j else i))) (tA (tE (tCb (f1 pLen) (tA (tLu 2) tA0))) (tA (tE (tB2 pAdd (tLu 4) (tE (tK (.int 2))))) tA0))))) tA0))) (gN 5)
    (sApp 3 (tTupD (tA (tE (tV 1)) (tA (tE (tTupD (tA (tE (tB2 pIx (tLu 2) (tLu 4))) (tA (tE (tB2 pIx (tLu 2) (tLu 5))) tA0)))) tA0))))))
    (sRet (tIte (tTst (tB2 pEq (tE (tCb (f1 pLen) (tA (tLu 3) tA0))) (tE (tK (.int 1))))) (tB2 pIx (tLu 3) (tE (tK (.int 0)))) (tTupD (tA (tE (tK (.str "all"))) (tA (tE (tCb (f1 pTupOf) (tA (tLu 3) tA0))) tA0))))))))))
theorem f__law_paired_0 : ∀ n ps P Px Px', f__law_paired n ps P Px → f__law_paired n ps P Px'
  | 0, _, _, _, _, h => h
  | _ + 1, _, _, _, _, h => h
theorem ok__law_paired (T : Tx P K mg w A D) : ∀ n, FnOk P w K mg base CX0 (1 + n) (A 42) (D 42) ["condition"] (spOf K xc [] 1 (f__law_paired n))
  | 0 => (fn_never T.F__law_paired sc__law_paired).mono (by omega)
  | n + 1 => by
    have ih := ok__law_paired T n
    refine (fn_ip (k := 1 + n) (pins := []) T.F__law_paired sc__law_paired (by decide) (by decide) (fun cdv A' outer s H E hr => ⟨_, (pss_cons (ps_par (i := 1) (j := 2) rfl sc__law_paired.nd rfl rfl (by decide) rfl rfl (pa_cons (pe_ix ix_seq (pv 0) pe_int (fun _ _ => rfl)) (pa_cons (pe_ix ix_seq (pv 0) pe_int (fun _ _ => rfl)) pa_nil)) (by rfl))
      (pss_cons (ps_if (pt_cmpR (op_eqD (hu64 hr)) (pv 1) pe_str (nomark _)) (pss_one (ps_ret (pe_tup (pa_cons pe_str (pa_cons (pe_call ih (hr.mono (by omega)) rfl T.g__law_paired T.F__law_paired.kp (b__law_paired T) .nil pass0 (pa_cons (pv 2) pa_nil)) pa_nil))))) pss_nil)
      (pss_cons (ps_if (pt_cmpR op_in_seq (pv 1) (pe_lst (pa_cons pe_str (pa_cons pe_str pa_nil))) (by rfl)) (pss_one (ps_ret (pe_tup (pa_cons (pv 1) (pa_cons (pe_callTy call_tuple_of (by rfl) T.z_tuple (by decide +kernel) (pa_cons (pe_lc (own := [("part", 6)]) rfl sc__law_paired.nd (pi_seq (pv 2)) (blkOk_by (show blkC ["condition", "word", "parts", "found", "at", "other", "part"] (defScope s__law_paired) _ [("part", 6)] = true from by decide +kernel)) (fun _ _ _ _ _ => (pg_name (i := 6) sc__law_paired.nd rfl (by first | exact Or.inl rfl | exact Or.inr rfl))) (fun _ _ _ _ _ => pts_nil) (fun _ _ _ _ _ => (pe_call ih (hr.mono (by omega)) rfl T.g__law_paired T.F__law_paired.kp (b__law_paired T) .nil pass0 (pa_cons (pv 6) pa_nil)))) pa_nil)) pa_nil))))) pss_nil)
      (pss_cons (ps_set (i := 3) sc__law_paired.nd rfl (Or.inl rfl) (pe_lst pa_nil))
      (pss_cons (ps_for PassesOwn.never rfl (pi_range1 rfl T.z_range (pa_cons (pe_callB call_len_seq (by rfl) T.z_len PySem.boot_len (pa_cons (pv 2) pa_nil)) pa_nil)) (pg_name (i := 4) sc__law_paired.nd rfl (Or.inl rfl))
      (pss_one (ps_for PassesOwn.never rfl (pi_range2 rfl T.z_range (pa_cons (pe_op op_addU (pv 4) pe_int) (pa_cons (pe_ifExp (pt_cmpR (op_eqD (hu64 hr)) (pv 1) pe_str (nomark _)) (pe_callB call_len_seq (by rfl) T.z_len PySem.boot_len (pa_cons (pv 2) pa_nil)) (pe_callB (call_min2 rfl) (by rfl) T.z_min (by decide +kernel) (pa_cons (pe_callB call_len_seq (by rfl) T.z_len PySem.boot_len (pa_cons (pv 2) pa_nil)) (pa_cons (pe_op op_addU (pv 4) pe_int) pa_nil)))) pa_nil))) (pg_name (i := 5) sc__law_paired.nd rfl (Or.inl rfl))
      (pss_one (ps_expr (pe_bm PySem.F.plainAttrs_list PySem.F.slot_list_append PySem.F.type_list_append mt_append (pv 3) (pa_cons (pe_tup (pa_cons (pv 1) (pa_cons (pe_tup (pa_cons (pe_ix ix_seq (pv 2) (pv 4) (fun _ _ => rfl)) (pa_cons (pe_ix ix_seq (pv 2) (pv 5) (fun _ _ => rfl)) pa_nil))) pa_nil))) pa_nil)))))))
      (pss_one (ps_ret (pe_ifExp (pt_cmpR (op_eqD (hu64 hr)) (pe_callB call_len_seq (by rfl) T.z_len PySem.boot_len (pa_cons (pv 3) pa_nil)) pe_int (nomark _)) (pe_ix ix_seq (pv 3) pe_int (fun _ _ => rfl)) (pe_tup (pa_cons pe_str (pa_cons (pe_callTy call_tuple_of (by rfl) T.z_tuple (by decide +kernel) (pa_cons (pv 3) pa_nil)) pa_nil))))))))))), fun ca => (is_seq (is_par (show 1 ∉ ([] : List Nat) from by decide) (show 2 ∉ ([] : List Nat) from by decide) (ixs_cons (ix_f (ie_op ops_ix io_l (ie_e (ie_k fun _ => .int _)))) (ixs_cons (ix_f (ie_op ops_ix io_l (ie_e (ie_k fun _ => .int _)))) ixs_nil)))
      (is_seq (is_if (ib_test (ie_op ops_eq io_l (ie_e (ie_k fun _ => .str _)))) (is_ret (ie_tup (ia_cons (ie_e (ie_k fun _ => .str _)) (ia_cons (ie_e (ie_call0 (f__law_paired_0 _) (ia_cons (ie_e ie_v) ia_nil))) ia_nil)))) is_next)
      (is_seq (is_if (ib_test (ie_op ops_in io_l (ie_e (ie_t (it_lst (ia_cons (ie_e (ie_k fun _ => .str _)) (ia_cons (ie_e (ie_k fun _ => .str _)) ia_nil))))))) (is_ret (ie_tup (ia_cons (ie_e ie_v) (ia_cons (ie_e (ie_cb calls_tuple (ia_cons (ie_e (ie_t (it_lc (by decide) (ii_seq ie_v) ig_name ib_yes (ie_call0 (f__law_paired_0 _) (ia_cons (ie_e ie_v) ia_nil))))) ia_nil))) ia_nil)))) is_next)
      (is_seq (is_setT (show 3 ∉ ([] : List Nat) from by decide) (it_lst ia_nil))
      (is_seq (is_for (show ∀ j ∈ ([4] : List Nat), j ∉ ([] : List Nat) from by decide) (ii_range1 (ia_cons (ie_e (ie_cb calls_len (ia_cons io_l ia_nil))) ia_nil)) ig_name
      (is_for (show ∀ j ∈ ([5] : List Nat), j ∉ ([] : List Nat) from by decide) (ii_range2 (ia_cons (ie_e (ie_op ops_add io_l (ie_e (ie_k fun _ => .int _)))) (ia_cons (ie_e (ie_if (ib_test (ie_op ops_eq io_l (ie_e (ie_k fun _ => .str _)))) (ie_cb calls_len (ia_cons io_l ia_nil)) (ie_cb calls_min2 (ia_cons (ie_e (ie_cb calls_len (ia_cons io_l ia_nil))) (ia_cons (ie_e (ie_op ops_add io_l (ie_e (ie_k fun _ => .int _)))) ia_nil))))) ia_nil))) ig_name
      (is_app (ie_tup (ia_cons (ie_e ie_v) (ia_cons (ie_e (ie_tup (ia_cons (ie_e (ie_op ops_ix io_l io_l)) (ia_cons (ie_e (ie_op ops_ix io_l io_l)) ia_nil)))) ia_nil))))))
      (is_ret (ie_if (ib_test (ie_op ops_eq (ie_e (ie_cb calls_len (ia_cons io_l ia_nil))) (ie_e (ie_k fun _ => .int _)))) (ie_op ops_ix io_l (ie_e (ie_k fun _ => .int _))) (ie_tup (ia_cons (ie_e (ie_k fun _ => .str _)) (ia_cons (ie_e (ie_cb calls_tuple (ia_cons io_l ia_nil))) ia_nil))))))))))⟩)).mono (by omega)
/-! _law_inward -/
def f__law_inward : Nat → Fn
  | 0 => fun _ _ _ => False
  | n + 1 => fnOf 2 4
    (sSeq (sPar 2 3 (tXc (tXf (tB2 pIx (tLu 0) (tE (tK (.int 0))))) (tXc (tXf (tB2 pIx (tLu 0) (tE (tK (.int 1))))) tX0)))
    (sSeq (sIf (tTst (tB2 pEq (tLu 2) (tE (tK (.str "not"))))) (sRet (tCal (f__law_inward n) [] 2 (tA (tE (tV 3)) (tA (tE (tNot1 (tV 1))) tA0)))) sNext)
    (sSeq (sDct 4 [("all", "some"), ("some", "all"), ("like", "unlike"), ("unlike", "like")])
    (sSeq (sIf (tTst (tV 1)) (sSet 2 (tDgK 4 (tLu 2))) sNext)
    (sRet (tTupD (tA (tE (tV 2)) (tA (tE (tIte (tTst (tB2 (pIn false) (tLu 2) (tE (tFr (tLstD (tA (tE (tK (.str "like"))) (tA (tE (tK (.str "unlike"))) tA0))))))) (tV 3) (tCb (f1 pTupOf) (tA (tE (tFr (tLcD (tSeqI (tV 3)) (gN 5) tYesD (tCal (f__law_inward n) [] 2 (tA (tE (tV 5)) (tA (tE (tV 1)) tA0))) [5]))) tA0)))) tA0))))))))
theorem f__law_inward_0 : ∀ n ps P Px Px', f__law_inward n ps P Px → f__law_inward n ps P Px'
  | 0, _, _, _, _, h => h
  | _ + 1, _, _, _, _, h => h
theorem ok__law_inward (T : Tx P K mg w A D) : ∀ n, FnOk P w K mg base CX0 (1 + n) (A 43) (D 43) ["tree", "turned"] (spOf K xc [] 2 (f__law_inward n))
  | 0 => (fn_never T.F__law_inward sc__law_inward).mono (by omega)
  | n + 1 => by
    have ih := ok__law_inward T n
    refine (fn_ip (k := 1 + n) (pins := []) T.F__law_inward sc__law_inward (by decide) (by decide) (fun cdv A' outer s H E hr => ⟨_, (pss_cons (ps_par (i := 2) (j := 3) rfl sc__law_inward.nd rfl rfl (by decide) rfl rfl (pa_cons (pe_ix ix_seq (pv 0) pe_int (fun _ _ => rfl)) (pa_cons (pe_ix ix_seq (pv 0) pe_int (fun _ _ => rfl)) pa_nil)) (by rfl))
      (pss_cons (ps_if (pt_cmpR (op_eqD (hu64 hr)) (pv 2) pe_str (nomark _)) (pss_one (ps_ret (pe_call ih (hr.mono (by omega)) rfl T.g__law_inward T.F__law_inward.kp (b__law_inward T) .nil pass0 (pa_cons (pv 3) (pa_cons (pe_not (pv 1)) pa_nil))))) pss_nil)
      (pss_cons (ps_set (i := 4) sc__law_inward.nd rfl (Or.inl rfl) (pe_disp (pps_cons pe_str pe_str (pps_cons pe_str pe_str (pps_cons pe_str pe_str (pps_cons pe_str pe_str pps_nil)))) rfl rfl (by decide) (by decide)))
      (pss_cons (ps_if (pt_val (pv 1)) (pss_one (ps_set (i := 2) sc__law_inward.nd rfl (Or.inl rfl) (pe_dget (hu_of hr) (pv 4) (pv 2) (fun _ _ => rfl)))) pss_nil)
      (pss_one (ps_ret (pe_tup (pa_cons (pv 2) (pa_cons (pe_ifExp (pt_cmpR op_in_seq (pv 2) (pe_lst (pa_cons pe_str (pa_cons pe_str pa_nil))) (by rfl)) (pv 3) (pe_callTy call_tuple_of (by rfl) T.z_tuple (by decide +kernel) (pa_cons (pe_lc (own := [("part", 5)]) rfl sc__law_inward.nd (pi_seq (pv 3)) (blkOk_by (show blkC ["tree", "turned", "word", "parts", "other", "part"] (defScope s__law_inward) _ [("part", 5)] = true from by decide +kernel)) (fun _ _ _ _ _ => (pg_name (i := 5) sc__law_inward.nd rfl (by first | exact Or.inl rfl | exact Or.inr rfl))) (fun _ _ _ _ _ => pts_nil) (fun _ _ _ _ _ => (pe_call ih (hr.mono (by omega)) rfl T.g__law_inward T.F__law_inward.kp (b__law_inward T) .nil pass0 (pa_cons (pv 5) (pa_cons (pv 1) pa_nil))))) pa_nil))) pa_nil))))))))), fun ca => (is_seq (is_par (show 2 ∉ ([] : List Nat) from by decide) (show 3 ∉ ([] : List Nat) from by decide) (ixs_cons (ix_f (ie_op ops_ix io_l (ie_e (ie_k fun _ => .int _)))) (ixs_cons (ix_f (ie_op ops_ix io_l (ie_e (ie_k fun _ => .int _)))) ixs_nil)))
      (is_seq (is_if (ib_test (ie_op ops_eq io_l (ie_e (ie_k fun _ => .str _)))) (is_ret (ie_call0 (f__law_inward_0 _) (ia_cons (ie_e ie_v) (ia_cons (ie_e (ie_not ie_v)) ia_nil)))) is_next)
      (is_seq (is_dct (t := [("all", "some"), ("some", "all"), ("like", "unlike"), ("unlike", "like")]) (show 4 ∉ ([] : List Nat) from by decide) (by decide) (by decide +kernel))
      (is_seq (is_if (ib_b ie_v) (is_set (show 2 ∉ ([] : List Nat) from by decide) (ie_dgetK io_l)) is_next)
      (is_ret (ie_tup (ia_cons (ie_e ie_v) (ia_cons (ie_e (ie_if (ib_test (ie_op ops_in io_l (ie_e (ie_t (it_lst (ia_cons (ie_e (ie_k fun _ => .str _)) (ia_cons (ie_e (ie_k fun _ => .str _)) ia_nil))))))) ie_v (ie_cb calls_tuple (ia_cons (ie_e (ie_t (it_lc (by decide) (ii_seq ie_v) ig_name ib_yes (ie_call0 (f__law_inward_0 _) (ia_cons (ie_e ie_v) (ia_cons (ie_e ie_v) ia_nil)))))) ia_nil)))) ia_nil))))))))⟩)).mono (by omega)
/-! _law_leaf -/
def f__law_leaf : Fn := fnOf 2 0
    (sRet (tCal f__law_of [0] 2 (tA (tLu 0) (tA (tE (tFr (tLstD (tA (tE (tTupD (tA (tE (tK (.str "of"))) (tA (tE (tCal f__law_any [0] 2 (tA (tLu 0) (tA (tE (tV 1)) tA0)))) tA0)))) (tA (tE (tTupD (tA (tE (tK (.str "of"))) (tA (tE (tB2 pSub (tLu 1) (tE (tK (.int 1))))) tA0)))) (tA (tE (tTupD (tA (tE (tK (.str "is"))) (tA (tE (tCb (f1 pAbs) (tA (tE (tCal f__law_great [0] 2 (tA (tLu 0) (tA (tE (tK (.int 30))) tA0)))) tA0))) tA0)))) (tA (tE (tTupD (tA (tE (tK (.str "is"))) (tA (tE (tCal f__law_any [0] 2 (tA (tLu 0) (tA (tE (tK (.int 3))) tA0)))) tA0)))) tA0))))))) tA0))))
theorem f__law_leaf_0 : ∀ ps P Px Px', f__law_leaf ps P Px → f__law_leaf ps P Px' := fun _ _ _ _ h => h
theorem ok__law_leaf (T : Tx P K mg w A D) : FnOk P w K mg base CX0 3 (A 44) (D 44) ["deal", "n"] (spOf K xc [0] 2 f__law_leaf) :=
  fn_ip (k := 2) T.F__law_leaf sc__law_leaf (by decide) (by decide) (fun cdv A' outer s H E hr => ⟨_, (pss_one (ps_ret (pe_call (ok__law_of T) (hr.mono (by first | decide | omega)) rfl T.g__law_of T.F__law_of.kp (b__law_of T) .nil pass0 (pa_cons (pv 0) (pa_cons (pe_lst (pa_cons (pe_tup (pa_cons pe_str (pa_cons (pe_call (ok__law_any T) (hr.mono (by first | decide | omega)) rfl T.g__law_any T.F__law_any.kp (b__law_any T) .nil pass0 (pa_cons (pv 0) (pa_cons (pv 1) pa_nil))) pa_nil))) (pa_cons (pe_tup (pa_cons pe_str (pa_cons (pe_op op_sub (pv 1) pe_int) pa_nil))) (pa_cons (pe_tup (pa_cons pe_str (pa_cons (pe_callB call_abs (by rfl) T.z_abs (by decide +kernel) (pa_cons (pe_call (ok__law_great T) (hr.mono (by first | decide | omega)) rfl T.g__law_great T.F__law_great.kp (b__law_great T) .nil pass0 (pa_cons (pv 0) (pa_cons pe_int pa_nil))) pa_nil)) pa_nil))) (pa_cons (pe_tup (pa_cons pe_str (pa_cons (pe_call (ok__law_any T) (hr.mono (by first | decide | omega)) rfl T.g__law_any T.F__law_any.kp (b__law_any T) .nil pass0 (pa_cons (pv 0) (pa_cons pe_int pa_nil))) pa_nil))) pa_nil))))) pa_nil))))), fun ca => (is_ret (ie_call0 f__law_of_0 (ia_cons io_l (ia_cons (ie_e (ie_t (it_lst (ia_cons (ie_e (ie_tup (ia_cons (ie_e (ie_k fun _ => .str _)) (ia_cons (ie_e (ie_call0 f__law_any_0 (ia_cons io_l (ia_cons (ie_e ie_v) ia_nil)))) ia_nil)))) (ia_cons (ie_e (ie_tup (ia_cons (ie_e (ie_k fun _ => .str _)) (ia_cons (ie_e (ie_op ops_sub io_l (ie_e (ie_k fun _ => .int _)))) ia_nil)))) (ia_cons (ie_e (ie_tup (ia_cons (ie_e (ie_k fun _ => .str _)) (ia_cons (ie_e (ie_cb calls_abs (ia_cons (ie_e (ie_call0 f__law_great_0 (ia_cons io_l (ia_cons (ie_e (ie_k fun _ => .int _)) ia_nil)))) ia_nil))) ia_nil)))) (ia_cons (ie_e (ie_tup (ia_cons (ie_e (ie_k fun _ => .str _)) (ia_cons (ie_e (ie_call0 f__law_any_0 (ia_cons io_l (ia_cons (ie_e (ie_k fun _ => .int _)) ia_nil)))) ia_nil)))) ia_nil))))))) ia_nil))))⟩)
/-! _law_sum -/
def f__law_sum : Nat → Fn
  | 0 => fun _ _ _ => False
  | n + 1 => fnOf 4 4
    (sSeq (sSet 4 (tCal f__law_any [0] 2 (tA (tLu 0) (tA (tE (tIte (tTst (tB2 pGt (tLu 2) (tE (tK (.int 0))))) (tK (.int 4)) (tK (.int 1)))) tA0))))
    (sSeq (sIf (tTst (tB2 pEq (tLu 4) (tE (tK (.int 0))))) (sRet (tCal f__law_leaf [0] 2 (tA (tLu 0) (tA (tE (tV 1)) tA0)))) sNext)
    (sSeq (sIf (tTst (tB2 pEq (tLu 4) (tE (tK (.int 1))))) (sSeq (sSet 5 (tCal (f__law_sum n) [0] 4 (tA (tLu 0) (tA (tE (tV 1)) (tA (tE (tB2 pSub (tLu 2) (tE (tK (.int 1))))) (tA (tE (tV 3)) tA0))))))
    (sSeq (sFor (tRg1 (tA (tE (tCal f__law_of [0] 2 (tA (tLu 0) (tA (tE (tFr (tLstD (tA (tE (tK (.int 1))) (tA (tE (tK (.int 8))) tA0))))) tA0)))) tA0)) (gN 6)
    (sSet 5 (tTupD (tA (tE (tK (.str "minus"))) (tA (tE (tV 5)) tA0)))))
    (sRet (tV 5)))) sNext)
    (sSeq (sIf (tTst (tB2 pEq (tLu 4) (tE (tK (.int 2))))) (sRet (tTupD (tA (tE (tK (.str "add"))) (tA (tE (tCb (f1 pTupOf) (tA (tE (tFr (tLcD (tRg1 (tA (tE (tCal f__law_of [0] 2 (tA (tLu 0) (tA (tE (tFr (tLstD (tA (tE (tK (.int 2))) (tA (tE (tK (.int 10))) tA0))))) tA0)))) tA0)) (gN 7) tYesD (tCal (f__law_sum n) [0] 4 (tA (tLu 0) (tA (tE (tV 1)) (tA (tE (tIte (tTst (tB2 pGt (tLu 7) (tE (tK (.int 0))))) (tK (.int 0)) (tB2 pSub (tLu 2) (tE (tK (.int 1)))))) (tA (tE (tV 3)) tA0))))) [7]))) tA0))) tA0)))) sNext)
    (sRet (tTupD (tA (tE (tK (.str "times"))) (tA (tE (tCb (f1 pTupOf) (tA (tE (tB2 pAdd (tE (tFr (tLcD (tRg1 (tA (tLu 3) tA0)) (gN 7) tYesD (tTupD (tA (tE (tK (.str "of"))) (tA (tE (tCal f__law_any [0] 2 (tA (tLu 0) (tA (tE (tV 1)) tA0)))) tA0))) [7]))) (tE (tFr (tLcD (tRg1 (tA (tE (tCal f__law_of [0] 2 (tA (tLu 0) (tA (tE (tFr (tLstD (tA (tE (tK (.int 2))) (tA (tE (tB2 pSub (tE (tK (.int 10))) (tLu 3))) tA0))))) tA0)))) tA0)) (gN 7) tYesD (tTupD (tA (tE (tK (.str "is"))) (tA (tE (tCal f__law_any [0] 2 (tA (tLu 0) (tA (tE (tK (.int 4))) tA0)))) tA0))) [7]))))) tA0))) tA0))))))))
theorem f__law_sum_0 : ∀ n ps P Px Px', f__law_sum n ps P Px → f__law_sum n ps P Px'
  | 0, _, _, _, _, h => h
  | _ + 1, _, _, _, _, h => h
theorem ok__law_sum (T : Tx P K mg w A D) : ∀ n, FnOk P w K mg base CX0 (4 + n) (A 45) (D 45) ["deal", "n", "deep", "room"] (spOf K xc [0] 4 (f__law_sum n))
  | 0 => (fn_never T.F__law_sum sc__law_sum).mono (by omega)
  | n + 1 => by
    have ih := ok__law_sum T n
    refine (fn_ip (k := 4 + n) (pins := [0]) T.F__law_sum sc__law_sum (by decide) (by decide) (fun cdv A' outer s H E hr => ⟨_, (pss_cons (ps_set (i := 4) sc__law_sum.nd rfl (Or.inl rfl) (pe_call (ok__law_any T) (hr.mono (by first | decide | omega)) rfl T.g__law_any T.F__law_any.kp (b__law_any T) .nil pass0 (pa_cons (pv 0) (pa_cons (pe_ifExp (pt_cmpR op_gt (pv 2) pe_int (nomark _)) pe_int pe_int) pa_nil))))
      (pss_cons (ps_if (pt_cmpR (op_eqD (hu64 hr)) (pv 4) pe_int (nomark _)) (pss_one (ps_ret (pe_call (ok__law_leaf T) (hr.mono (by first | decide | omega)) rfl T.g__law_leaf T.F__law_leaf.kp (b__law_leaf T) .nil pass0 (pa_cons (pv 0) (pa_cons (pv 1) pa_nil))))) pss_nil)
      (pss_cons (ps_if (pt_cmpR (op_eqD (hu64 hr)) (pv 4) pe_int (nomark _)) (pss_cons (ps_set (i := 5) sc__law_sum.nd rfl (Or.inl rfl) (pe_call ih (hr.mono (by omega)) rfl T.g__law_sum T.F__law_sum.kp (b__law_sum T) .nil pass0 (pa_cons (pv 0) (pa_cons (pv 1) (pa_cons (pe_op op_sub (pv 2) pe_int) (pa_cons (pv 3) pa_nil))))))
      (pss_cons (ps_for PassesOwn.never rfl (pi_range1 rfl T.z_range (pa_cons (pe_call (ok__law_of T) (hr.mono (by first | decide | omega)) rfl T.g__law_of T.F__law_of.kp (b__law_of T) .nil pass0 (pa_cons (pv 0) (pa_cons (pe_lst (pa_cons pe_int (pa_cons pe_int pa_nil))) pa_nil))) pa_nil)) (pg_name (i := 6) sc__law_sum.nd rfl (Or.inl rfl))
      (pss_one (ps_set (i := 5) sc__law_sum.nd rfl (Or.inl rfl) (pe_tup (pa_cons pe_str (pa_cons (pv 5) pa_nil))))))
      (pss_one (ps_ret (pv 5))))) pss_nil)
      (pss_cons (ps_if (pt_cmpR (op_eqD (hu64 hr)) (pv 4) pe_int (nomark _)) (pss_one (ps_ret (pe_tup (pa_cons pe_str (pa_cons (pe_callTy call_tuple_of (by rfl) T.z_tuple (by decide +kernel) (pa_cons (pe_lc (own := [("at", 7)]) rfl sc__law_sum.nd (pi_range1 rfl T.z_range (pa_cons (pe_call (ok__law_of T) (hr.mono (by first | decide | omega)) rfl T.g__law_of T.F__law_of.kp (b__law_of T) .nil pass0 (pa_cons (pv 0) (pa_cons (pe_lst (pa_cons pe_int (pa_cons pe_int pa_nil))) pa_nil))) pa_nil)) (blkOk_by (show blkC ["deal", "n", "deep", "room", "form", "found", "turn", "at"] (defScope s__law_sum) _ [("at", 7)] = true from by decide +kernel)) (fun _ _ _ _ _ => (pg_name (i := 7) sc__law_sum.nd rfl (by first | exact Or.inl rfl | exact Or.inr rfl))) (fun _ _ _ _ _ => pts_nil) (fun _ _ _ _ _ => (pe_call ih (hr.mono (by omega)) rfl T.g__law_sum T.F__law_sum.kp (b__law_sum T) .nil pass0 (pa_cons (pv 0) (pa_cons (pv 1) (pa_cons (pe_ifExp (pt_cmpR op_gt (pv 7) pe_int (nomark _)) pe_int (pe_op op_sub (pv 2) pe_int)) (pa_cons (pv 3) pa_nil))))))) pa_nil)) pa_nil))))) pss_nil)
      (pss_one (ps_ret (pe_tup (pa_cons pe_str (pa_cons (pe_callTy call_tuple_of (by rfl) T.z_tuple (by decide +kernel) (pa_cons (pe_op op_addU (pe_lc (own := [("at", 7)]) rfl sc__law_sum.nd (pi_range1 rfl T.z_range (pa_cons (pv 3) pa_nil)) (blkOk_by (show blkC ["deal", "n", "deep", "room", "form", "found", "turn", "at"] (defScope s__law_sum) _ [("at", 7)] = true from by decide +kernel)) (fun _ _ _ _ _ => (pg_name (i := 7) sc__law_sum.nd rfl (by first | exact Or.inl rfl | exact Or.inr rfl))) (fun _ _ _ _ _ => pts_nil) (fun _ _ _ _ _ => (pe_tup (pa_cons pe_str (pa_cons (pe_call (ok__law_any T) (hr.mono (by first | decide | omega)) rfl T.g__law_any T.F__law_any.kp (b__law_any T) .nil pass0 (pa_cons (pv 0) (pa_cons (pv 1) pa_nil))) pa_nil))))) (pe_lc (own := [("at", 7)]) rfl sc__law_sum.nd (pi_range1 rfl T.z_range (pa_cons (pe_call (ok__law_of T) (hr.mono (by first | decide | omega)) rfl T.g__law_of T.F__law_of.kp (b__law_of T) .nil pass0 (pa_cons (pv 0) (pa_cons (pe_lst (pa_cons pe_int (pa_cons (pe_op op_sub pe_int (pv 3)) pa_nil))) pa_nil))) pa_nil)) (blkOk_by (show blkC ["deal", "n", "deep", "room", "form", "found", "turn", "at"] (defScope s__law_sum) _ [("at", 7)] = true from by decide +kernel)) (fun _ _ _ _ _ => (pg_name (i := 7) sc__law_sum.nd rfl (by first | exact Or.inl rfl | exact Or.inr rfl))) (fun _ _ _ _ _ => pts_nil) (fun _ _ _ _ _ => (pe_tup (pa_cons pe_str (pa_cons (pe_call (ok__law_any T) (hr.mono (by first | decide | omega)) rfl T.g__law_any T.F__law_any.kp (b__law_any T) .nil pass0 (pa_cons (pv 0) (pa_cons pe_int pa_nil))) pa_nil)))))) pa_nil)) pa_nil))))))))), fun ca => (is_seq (is_set (show 4 ∉ ([0] : List Nat) from by decide) (ie_call0 f__law_any_0 (ia_cons io_l (ia_cons (ie_e (ie_if (ib_test (ie_op ops_gt io_l (ie_e (ie_k fun _ => .int _)))) (ie_k fun _ => .int _) (ie_k fun _ => .int _))) ia_nil))))
      (is_seq (is_if (ib_test (ie_op ops_eq io_l (ie_e (ie_k fun _ => .int _)))) (is_ret (ie_call0 f__law_leaf_0 (ia_cons io_l (ia_cons (ie_e ie_v) ia_nil)))) is_next)
      (is_seq (is_if (ib_test (ie_op ops_eq io_l (ie_e (ie_k fun _ => .int _)))) (is_seq (is_set (show 5 ∉ ([0] : List Nat) from by decide) (ie_call0 (f__law_sum_0 _) (ia_cons io_l (ia_cons (ie_e ie_v) (ia_cons (ie_e (ie_op ops_sub io_l (ie_e (ie_k fun _ => .int _)))) (ia_cons (ie_e ie_v) ia_nil))))))
      (is_seq (is_for (show ∀ j ∈ ([6] : List Nat), j ∉ ([0] : List Nat) from by decide) (ii_range1 (ia_cons (ie_e (ie_call0 f__law_of_0 (ia_cons io_l (ia_cons (ie_e (ie_t (it_lst (ia_cons (ie_e (ie_k fun _ => .int _)) (ia_cons (ie_e (ie_k fun _ => .int _)) ia_nil))))) ia_nil)))) ia_nil)) ig_name
      (is_set (show 5 ∉ ([0] : List Nat) from by decide) (ie_tup (ia_cons (ie_e (ie_k fun _ => .str _)) (ia_cons (ie_e ie_v) ia_nil)))))
      (is_ret ie_v))) is_next)
      (is_seq (is_if (ib_test (ie_op ops_eq io_l (ie_e (ie_k fun _ => .int _)))) (is_ret (ie_tup (ia_cons (ie_e (ie_k fun _ => .str _)) (ia_cons (ie_e (ie_cb calls_tuple (ia_cons (ie_e (ie_t (it_lc (by decide) (ii_range1 (ia_cons (ie_e (ie_call0 f__law_of_0 (ia_cons io_l (ia_cons (ie_e (ie_t (it_lst (ia_cons (ie_e (ie_k fun _ => .int _)) (ia_cons (ie_e (ie_k fun _ => .int _)) ia_nil))))) ia_nil)))) ia_nil)) ig_name ib_yes (ie_call0 (f__law_sum_0 _) (ia_cons io_l (ia_cons (ie_e ie_v) (ia_cons (ie_e (ie_if (ib_test (ie_op ops_gt io_l (ie_e (ie_k fun _ => .int _)))) (ie_k fun _ => .int _) (ie_op ops_sub io_l (ie_e (ie_k fun _ => .int _))))) (ia_cons (ie_e ie_v) ia_nil)))))))) ia_nil))) ia_nil)))) is_next)
      (is_ret (ie_tup (ia_cons (ie_e (ie_k fun _ => .str _)) (ia_cons (ie_e (ie_cb calls_tuple (ia_cons (ie_e (ie_op ops_add (ie_e (ie_t (it_lc (by decide) (ii_range1 (ia_cons io_l ia_nil)) ig_name ib_yes (ie_tup (ia_cons (ie_e (ie_k fun _ => .str _)) (ia_cons (ie_e (ie_call0 f__law_any_0 (ia_cons io_l (ia_cons (ie_e ie_v) ia_nil)))) ia_nil)))))) (ie_e (ie_t (it_lc (by decide) (ii_range1 (ia_cons (ie_e (ie_call0 f__law_of_0 (ia_cons io_l (ia_cons (ie_e (ie_t (it_lst (ia_cons (ie_e (ie_k fun _ => .int _)) (ia_cons (ie_e (ie_op ops_sub (ie_e (ie_k fun _ => .int _)) io_l)) ia_nil))))) ia_nil)))) ia_nil)) ig_name ib_yes (ie_tup (ia_cons (ie_e (ie_k fun _ => .str _)) (ia_cons (ie_e (ie_call0 f__law_any_0 (ia_cons io_l (ia_cons (ie_e (ie_k fun _ => .int _)) ia_nil)))) ia_nil)))))))) ia_nil))) ia_nil))))))))⟩)).mono (by omega)
/-! _law_condition -/
def f__law_condition : Nat → Fn
  | 0 => fun _ _ _ => False
  | n + 1 => fnOf 3 4
    (sSeq (sSet 3 (tCal f__law_any [0] 2 (tA (tLu 0) (tA (tE (tIte (tTst (tB2 pGt (tLu 2) (tE (tK (.int 0))))) (tK (.int 5)) (tK (.int 2)))) tA0))))
    (sSeq (sIf (tTst (tB2 pLt (tLu 3) (tE (tK (.int 2))))) (sRet (tTupD (tA (tE (tB2 pIx (tE (tFr (tLstD (tA (tE (tK (.str "unlike"))) (tA (tE (tK (.str "like"))) tA0))))) (tLu 3))) (tA (tE (tCb (f1 pTupOf) (tA (tE (tFr (tLcD (tRg1 (tA (tE (tCal f__law_of [0] 2 (tA (tLu 0) (tA (tE (tFr (tLstD (tA (tE (tK (.int 2))) (tA (tE (tK (.int 2))) (tA (tE (tK (.int 3))) (tA (tE (tK (.int 5))) tA0))))))) tA0)))) tA0)) (gN 6) tYesD (tCal (f__law_sum 8) [0] 4 (tA (tLu 0) (tA (tE (tV 1)) (tA (tE (tK (.int 2))) (tA (tE (tK (.int 4))) tA0))))) [6]))) tA0))) tA0)))) sNext)
    (sSeq (sIf (tTst (tB2 pEq (tLu 3) (tE (tK (.int 2))))) (sSeq (sSet 4 (tCal (f__law_condition n) [0] 3 (tA (tLu 0) (tA (tE (tV 1)) (tA (tE (tB2 pSub (tLu 2) (tE (tK (.int 1))))) tA0)))))
    (sSeq (sFor (tRg1 (tA (tE (tCal f__law_of [0] 2 (tA (tLu 0) (tA (tE (tFr (tLstD (tA (tE (tK (.int 1))) (tA (tE (tK (.int 2))) (tA (tE (tK (.int 7))) (tA (tE (tK (.int 8))) tA0))))))) tA0)))) tA0)) (gN 5)
    (sSet 4 (tTupD (tA (tE (tK (.str "not"))) (tA (tE (tV 4)) tA0)))))
    (sRet (tV 4)))) sNext)
    (sRet (tTupD (tA (tE (tB2 pIx (tE (tFr (tLstD (tA (tE (tK (.str "all"))) (tA (tE (tK (.str "some"))) tA0))))) (tE (tB2 pSub (tLu 3) (tE (tK (.int 3))))))) (tA (tE (tCb (f1 pTupOf) (tA (tE (tFr (tLcD (tRg1 (tA (tE (tCal f__law_of [0] 2 (tA (tLu 0) (tA (tE (tFr (tLstD (tA (tE (tK (.int 2))) (tA (tE (tK (.int 4))) (tA (tE (tK (.int 10))) tA0)))))) tA0)))) tA0)) (gN 6) tYesD (tCal (f__law_condition n) [0] 3 (tA (tLu 0) (tA (tE (tV 1)) (tA (tE (tIte (tTst (tB2 pEq (tLu 6) (tE (tK (.int 0))))) (tB2 pSub (tLu 2) (tE (tK (.int 1)))) (tK (.int 0)))) tA0)))) [6]))) tA0))) tA0)))))))
theorem f__law_condition_0 : ∀ n ps P Px Px', f__law_condition n ps P Px → f__law_condition n ps P Px'
  | 0, _, _, _, _, h => h
  | _ + 1, _, _, _, _, h => h
theorem ok__law_condition (T : Tx P K mg w A D) : ∀ n, FnOk P w K mg base CX0 (13 + n) (A 46) (D 46) ["deal", "n", "deep"] (spOf K xc [0] 3 (f__law_condition n))
  | 0 => (fn_never T.F__law_condition sc__law_condition).mono (by omega)
  | n + 1 => by
    have ih := ok__law_condition T n
    refine (fn_ip (k := 13 + n) (pins := [0]) T.F__law_condition sc__law_condition (by decide) (by decide) (fun cdv A' outer s H E hr => ⟨_, (pss_cons (ps_set (i := 3) sc__law_condition.nd rfl (Or.inl rfl) (pe_call (ok__law_any T) (hr.mono (by first | decide | omega)) rfl T.g__law_any T.F__law_any.kp (b__law_any T) .nil pass0 (pa_cons (pv 0) (pa_cons (pe_ifExp (pt_cmpR op_gt (pv 2) pe_int (nomark _)) pe_int pe_int) pa_nil))))
      (pss_cons (ps_if (pt_cmpR op_lt (pv 3) pe_int (nomark _)) (pss_one (ps_ret (pe_tup (pa_cons (pe_ix ix_seq (pe_lst (pa_cons pe_str (pa_cons pe_str pa_nil))) (pv 3) (fun _ _ => rfl)) (pa_cons (pe_callTy call_tuple_of (by rfl) T.z_tuple (by decide +kernel) (pa_cons (pe_lc (own := [("at", 6)]) rfl sc__law_condition.nd (pi_range1 rfl T.z_range (pa_cons (pe_call (ok__law_of T) (hr.mono (by first | decide | omega)) rfl T.g__law_of T.F__law_of.kp (b__law_of T) .nil pass0 (pa_cons (pv 0) (pa_cons (pe_lst (pa_cons pe_int (pa_cons pe_int (pa_cons pe_int (pa_cons pe_int pa_nil))))) pa_nil))) pa_nil)) (blkOk_by (show blkC ["deal", "n", "deep", "form", "found", "turn", "at"] (defScope s__law_condition) _ [("at", 6)] = true from by decide +kernel)) (fun _ _ _ _ _ => (pg_name (i := 6) sc__law_condition.nd rfl (by first | exact Or.inl rfl | exact Or.inr rfl))) (fun _ _ _ _ _ => pts_nil) (fun _ _ _ _ _ => (pe_call (ok__law_sum T 8) (hr.mono (by first | decide | omega)) rfl T.g__law_sum T.F__law_sum.kp (b__law_sum T) .nil pass0 (pa_cons (pv 0) (pa_cons (pv 1) (pa_cons pe_int (pa_cons pe_int pa_nil))))))) pa_nil)) pa_nil))))) pss_nil)
      (pss_cons (ps_if (pt_cmpR (op_eqD (hu64 hr)) (pv 3) pe_int (nomark _)) (pss_cons (ps_set (i := 4) sc__law_condition.nd rfl (Or.inl rfl) (pe_call ih (hr.mono (by omega)) rfl T.g__law_condition T.F__law_condition.kp (b__law_condition T) .nil pass0 (pa_cons (pv 0) (pa_cons (pv 1) (pa_cons (pe_op op_sub (pv 2) pe_int) pa_nil)))))
      (pss_cons (ps_for PassesOwn.never rfl (pi_range1 rfl T.z_range (pa_cons (pe_call (ok__law_of T) (hr.mono (by first | decide | omega)) rfl T.g__law_of T.F__law_of.kp (b__law_of T) .nil pass0 (pa_cons (pv 0) (pa_cons (pe_lst (pa_cons pe_int (pa_cons pe_int (pa_cons pe_int (pa_cons pe_int pa_nil))))) pa_nil))) pa_nil)) (pg_name (i := 5) sc__law_condition.nd rfl (Or.inl rfl))
      (pss_one (ps_set (i := 4) sc__law_condition.nd rfl (Or.inl rfl) (pe_tup (pa_cons pe_str (pa_cons (pv 4) pa_nil))))))
      (pss_one (ps_ret (pv 4))))) pss_nil)
      (pss_one (ps_ret (pe_tup (pa_cons (pe_ix ix_seq (pe_lst (pa_cons pe_str (pa_cons pe_str pa_nil))) (pe_op op_sub (pv 3) pe_int) (fun _ _ => rfl)) (pa_cons (pe_callTy call_tuple_of (by rfl) T.z_tuple (by decide +kernel) (pa_cons (pe_lc (own := [("at", 6)]) rfl sc__law_condition.nd (pi_range1 rfl T.z_range (pa_cons (pe_call (ok__law_of T) (hr.mono (by first | decide | omega)) rfl T.g__law_of T.F__law_of.kp (b__law_of T) .nil pass0 (pa_cons (pv 0) (pa_cons (pe_lst (pa_cons pe_int (pa_cons pe_int (pa_cons pe_int pa_nil)))) pa_nil))) pa_nil)) (blkOk_by (show blkC ["deal", "n", "deep", "form", "found", "turn", "at"] (defScope s__law_condition) _ [("at", 6)] = true from by decide +kernel)) (fun _ _ _ _ _ => (pg_name (i := 6) sc__law_condition.nd rfl (by first | exact Or.inl rfl | exact Or.inr rfl))) (fun _ _ _ _ _ => pts_nil) (fun _ _ _ _ _ => (pe_call ih (hr.mono (by omega)) rfl T.g__law_condition T.F__law_condition.kp (b__law_condition T) .nil pass0 (pa_cons (pv 0) (pa_cons (pv 1) (pa_cons (pe_ifExp (pt_cmpR (op_eqD (hu64 hr)) (pv 6) pe_int (nomark _)) (pe_op op_sub (pv 2) pe_int) pe_int) pa_nil)))))) pa_nil)) pa_nil)))))))), fun ca => (is_seq (is_set (show 3 ∉ ([0] : List Nat) from by decide) (ie_call0 f__law_any_0 (ia_cons io_l (ia_cons (ie_e (ie_if (ib_test (ie_op ops_gt io_l (ie_e (ie_k fun _ => .int _)))) (ie_k fun _ => .int _) (ie_k fun _ => .int _))) ia_nil))))
      (is_seq (is_if (ib_test (ie_op ops_lt io_l (ie_e (ie_k fun _ => .int _)))) (is_ret (ie_tup (ia_cons (ie_e (ie_op ops_ix (ie_e (ie_t (it_lst (ia_cons (ie_e (ie_k fun _ => .str _)) (ia_cons (ie_e (ie_k fun _ => .str _)) ia_nil))))) io_l)) (ia_cons (ie_e (ie_cb calls_tuple (ia_cons (ie_e (ie_t (it_lc (by decide) (ii_range1 (ia_cons (ie_e (ie_call0 f__law_of_0 (ia_cons io_l (ia_cons (ie_e (ie_t (it_lst (ia_cons (ie_e (ie_k fun _ => .int _)) (ia_cons (ie_e (ie_k fun _ => .int _)) (ia_cons (ie_e (ie_k fun _ => .int _)) (ia_cons (ie_e (ie_k fun _ => .int _)) ia_nil))))))) ia_nil)))) ia_nil)) ig_name ib_yes (ie_call0 (f__law_sum_0 _) (ia_cons io_l (ia_cons (ie_e ie_v) (ia_cons (ie_e (ie_k fun _ => .int _)) (ia_cons (ie_e (ie_k fun _ => .int _)) ia_nil)))))))) ia_nil))) ia_nil)))) is_next)
      (is_seq (is_if (ib_test (ie_op ops_eq io_l (ie_e (ie_k fun _ => .int _)))) (is_seq (is_set (show 4 ∉ ([0] : List Nat) from by decide) (ie_call0 (f__law_condition_0 _) (ia_cons io_l (ia_cons (ie_e ie_v) (ia_cons (ie_e (ie_op ops_sub io_l (ie_e (ie_k fun _ => .int _)))) ia_nil)))))
      (is_seq (is_for (show ∀ j ∈ ([5] : List Nat), j ∉ ([0] : List Nat) from by decide) (ii_range1 (ia_cons (ie_e (ie_call0 f__law_of_0 (ia_cons io_l (ia_cons (ie_e (ie_t (it_lst (ia_cons (ie_e (ie_k fun _ => .int _)) (ia_cons (ie_e (ie_k fun _ => .int _)) (ia_cons (ie_e (ie_k fun _ => .int _)) (ia_cons (ie_e (ie_k fun _ => .int _)) ia_nil))))))) ia_nil)))) ia_nil)) ig_name
      (is_set (show 4 ∉ ([0] : List Nat) from by decide) (ie_tup (ia_cons (ie_e (ie_k fun _ => .str _)) (ia_cons (ie_e ie_v) ia_nil)))))
      (is_ret ie_v))) is_next)
      (is_ret (ie_tup (ia_cons (ie_e (ie_op ops_ix (ie_e (ie_t (it_lst (ia_cons (ie_e (ie_k fun _ => .str _)) (ia_cons (ie_e (ie_k fun _ => .str _)) ia_nil))))) (ie_e (ie_op ops_sub io_l (ie_e (ie_k fun _ => .int _)))))) (ia_cons (ie_e (ie_cb calls_tuple (ia_cons (ie_e (ie_t (it_lc (by decide) (ii_range1 (ia_cons (ie_e (ie_call0 f__law_of_0 (ia_cons io_l (ia_cons (ie_e (ie_t (it_lst (ia_cons (ie_e (ie_k fun _ => .int _)) (ia_cons (ie_e (ie_k fun _ => .int _)) (ia_cons (ie_e (ie_k fun _ => .int _)) ia_nil)))))) ia_nil)))) ia_nil)) ig_name ib_yes (ie_call0 (f__law_condition_0 _) (ia_cons io_l (ia_cons (ie_e ie_v) (ia_cons (ie_e (ie_if (ib_test (ie_op ops_eq io_l (ie_e (ie_k fun _ => .int _)))) (ie_op ops_sub io_l (ie_e (ie_k fun _ => .int _))) (ie_k fun _ => .int _))) ia_nil))))))) ia_nil))) ia_nil)))))))⟩)).mono (by omega)
/-! _law_bad_sum -/
def f__law_bad_sum : Fn := fnOf 2 3
    (sSeq (sPar 2 3 (tXc (tXf (tTupD (tA (tE (tK (.str "is"))) (tA (tE (tK (.int 1))) tA0)))) (tXc (tXf (tTupD (tA (tE (tK (.str "of"))) (tA (tE (tB2 pSub (tLu 1) (tE (tK (.int 1))))) tA0)))) tX0)))
    (sSeq (sSet 4 (tFr (tLstD (tA (tE (tTupD (tA (tE (tK (.str "of"))) (tA (tE (tV 1)) tA0)))) (tA (tE (tTupD (tA (tE (tK (.str "of"))) (tA (tE (tB1 pNeg (tE (tK (.int 1))))) tA0)))) (tA (tE (tTupD (tA (tE (tK (.str "of"))) (tA (tE (tK (.bool true))) tA0)))) (tA (tE (tTupD (tA (tE (tK (.str "is"))) (tA (tE (tB2 pPow (tE (tK (.int 10))) (tE (tK (.int 30))))) tA0)))) (tA (tE (tTupD (tA (tE (tK (.str "is"))) (tA (tE (tB1 pNeg (tE (tK (.int 1))))) tA0)))) (tA (tE (tTupD (tA (tE (tK (.str "add"))) (tA (tE (tB2 pMul (tE (tTupD (tA (tE (tV 2)) tA0))) (tE (tK (.int 11))))) tA0)))) (tA (tE (tTupD (tA (tE (tK (.str "times"))) (tA (tE (tB2 pMul (tE (tTupD (tA (tE (tV 2)) tA0))) (tE (tK (.int 11))))) tA0)))) (tA (tE (tTupD (tA (tE (tK (.str "add"))) (tA (tE (tTupD (tA (tE (tV 2)) tA0))) tA0)))) (tA (tE (tTupD (tA (tE (tK (.str "times"))) (tA (tE (tB2 pMul (tE (tTupD (tA (tE (tV 3)) tA0))) (tE (tK (.int 5))))) tA0)))) tA0))))))))))))
    (sSeq (sSet 4 (tB2 pAdd (tLu 4) (tE (tFr (tLstD (tA (tE (tTupD (tA (tE (tK (.str "minus"))) (tA (tE (tTupD (tA (tE (tK (.str "times"))) (tA (tE (tB2 pMul (tE (tTupD (tA (tE (tV 3)) tA0))) (tE (tK (.int 5))))) tA0)))) tA0)))) (tA (tE (tTupD (tA (tE (tK (.str "add"))) (tA (tE (tTupD (tA (tE (tV 2)) (tA (tE (tTupD (tA (tE (tK (.str "times"))) (tA (tE (tTupD (tA (tE (tTupD (tA (tE (tK (.str "times"))) (tA (tE (tB2 pMul (tE (tTupD (tA (tE (tV 3)) tA0))) (tE (tK (.int 3))))) tA0)))) (tA (tE (tTupD (tA (tE (tK (.str "times"))) (tA (tE (tB2 pMul (tE (tTupD (tA (tE (tV 3)) tA0))) (tE (tK (.int 2))))) tA0)))) tA0)))) tA0)))) tA0)))) tA0)))) (tA (tE (tTupD (tA (tE (tK (.str "add"))) (tA (tE (tFr (tLstD (tA (tE (tV 2)) (tA (tE (tV 2)) tA0))))) tA0)))) tA0))))))))
    (sRet (tCal f__law_of [0] 2 (tA (tLu 0) (tA (tE (tB2 pAdd (tLu 4) (tE (tFr (tLstD (tA (tE (tTupD (tA (tE (tK (.str "minus"))) (tA (tE (tV 2)) (tA (tE (tV 2)) tA0))))) (tA (tE (tTupD (tA (tE (tK (.str "of"))) tA0))) tA0))))))) tA0)))))))
theorem f__law_bad_sum_0 : ∀ ps P Px Px', f__law_bad_sum ps P Px → f__law_bad_sum ps P Px' := fun _ _ _ _ h => h
theorem ok__law_bad_sum (T : Tx P K mg w A D) : FnOk P w K mg base CX0 3 (A 47) (D 47) ["deal", "n"] (spOf K xc [0] 2 f__law_bad_sum) :=
  fn_ip (k := 2) T.F__law_bad_sum sc__law_bad_sum (by decide) (by decide) (fun cdv A' outer s H E hr => ⟨_, (pss_cons (ps_par (i := 2) (j := 3) rfl sc__law_bad_sum.nd rfl rfl (by decide) rfl rfl (pa_cons (pe_tup (pa_cons pe_str (pa_cons pe_int pa_nil))) (pa_cons (pe_tup (pa_cons pe_str (pa_cons (pe_op op_sub (pv 1) pe_int) pa_nil))) pa_nil)) (by rfl))
      (pss_cons (ps_set (i := 4) sc__law_bad_sum.nd rfl (Or.inl rfl) (pe_lst (pa_cons (pe_tup (pa_cons pe_str (pa_cons (pv 1) pa_nil))) (pa_cons (pe_tup (pa_cons pe_str (pa_cons (pe_un un_neg pe_int) pa_nil))) (pa_cons (pe_tup (pa_cons pe_str (pa_cons pe_bl pa_nil))) (pa_cons (pe_tup (pa_cons pe_str (pa_cons (pe_op op_pow pe_int pe_int) pa_nil))) (pa_cons (pe_tup (pa_cons pe_str (pa_cons (pe_un un_neg pe_int) pa_nil))) (pa_cons (pe_tup (pa_cons pe_str (pa_cons (pe_op op_mulU (pe_tup (pa_cons (pv 2) pa_nil)) pe_int) pa_nil))) (pa_cons (pe_tup (pa_cons pe_str (pa_cons (pe_op op_mulU (pe_tup (pa_cons (pv 2) pa_nil)) pe_int) pa_nil))) (pa_cons (pe_tup (pa_cons pe_str (pa_cons (pe_tup (pa_cons (pv 2) pa_nil)) pa_nil))) (pa_cons (pe_tup (pa_cons pe_str (pa_cons (pe_op op_mulU (pe_tup (pa_cons (pv 3) pa_nil)) pe_int) pa_nil))) pa_nil)))))))))))
      (pss_cons (ps_set (i := 4) sc__law_bad_sum.nd rfl (Or.inl rfl) (pe_op op_addU (pv 4) (pe_lst (pa_cons (pe_tup (pa_cons pe_str (pa_cons (pe_tup (pa_cons pe_str (pa_cons (pe_op op_mulU (pe_tup (pa_cons (pv 3) pa_nil)) pe_int) pa_nil))) pa_nil))) (pa_cons (pe_tup (pa_cons pe_str (pa_cons (pe_tup (pa_cons (pv 2) (pa_cons (pe_tup (pa_cons pe_str (pa_cons (pe_tup (pa_cons (pe_tup (pa_cons pe_str (pa_cons (pe_op op_mulU (pe_tup (pa_cons (pv 3) pa_nil)) pe_int) pa_nil))) (pa_cons (pe_tup (pa_cons pe_str (pa_cons (pe_op op_mulU (pe_tup (pa_cons (pv 3) pa_nil)) pe_int) pa_nil))) pa_nil))) pa_nil))) pa_nil))) pa_nil))) (pa_cons (pe_tup (pa_cons pe_str (pa_cons (pe_lst (pa_cons (pv 2) (pa_cons (pv 2) pa_nil))) pa_nil))) pa_nil))))))
      (pss_one (ps_ret (pe_call (ok__law_of T) (hr.mono (by first | decide | omega)) rfl T.g__law_of T.F__law_of.kp (b__law_of T) .nil pass0 (pa_cons (pv 0) (pa_cons (pe_op op_addU (pv 4) (pe_lst (pa_cons (pe_tup (pa_cons pe_str (pa_cons (pv 2) (pa_cons (pv 2) pa_nil)))) (pa_cons (pe_tup (pa_cons pe_str pa_nil)) pa_nil)))) pa_nil)))))))), fun ca => (is_seq (is_par (show 2 ∉ ([0] : List Nat) from by decide) (show 3 ∉ ([0] : List Nat) from by decide) (ixs_cons (ix_f (ie_tup (ia_cons (ie_e (ie_k fun _ => .str _)) (ia_cons (ie_e (ie_k fun _ => .int _)) ia_nil)))) (ixs_cons (ix_f (ie_tup (ia_cons (ie_e (ie_k fun _ => .str _)) (ia_cons (ie_e (ie_op ops_sub io_l (ie_e (ie_k fun _ => .int _)))) ia_nil)))) ixs_nil)))
      (is_seq (is_set (show 4 ∉ ([0] : List Nat) from by decide) (ie_t (it_lst (ia_cons (ie_e (ie_tup (ia_cons (ie_e (ie_k fun _ => .str _)) (ia_cons (ie_e ie_v) ia_nil)))) (ia_cons (ie_e (ie_tup (ia_cons (ie_e (ie_k fun _ => .str _)) (ia_cons (ie_e (ie_un uns_neg (ie_e (ie_k fun _ => .int _)))) ia_nil)))) (ia_cons (ie_e (ie_tup (ia_cons (ie_e (ie_k fun _ => .str _)) (ia_cons (ie_e (ie_k fun _ => .bl _)) ia_nil)))) (ia_cons (ie_e (ie_tup (ia_cons (ie_e (ie_k fun _ => .str _)) (ia_cons (ie_e (ie_op ops_pow (ie_e (ie_k fun _ => .int _)) (ie_e (ie_k fun _ => .int _)))) ia_nil)))) (ia_cons (ie_e (ie_tup (ia_cons (ie_e (ie_k fun _ => .str _)) (ia_cons (ie_e (ie_un uns_neg (ie_e (ie_k fun _ => .int _)))) ia_nil)))) (ia_cons (ie_e (ie_tup (ia_cons (ie_e (ie_k fun _ => .str _)) (ia_cons (ie_e (ie_op ops_mul (ie_e (ie_tup (ia_cons (ie_e ie_v) ia_nil))) (ie_e (ie_k fun _ => .int _)))) ia_nil)))) (ia_cons (ie_e (ie_tup (ia_cons (ie_e (ie_k fun _ => .str _)) (ia_cons (ie_e (ie_op ops_mul (ie_e (ie_tup (ia_cons (ie_e ie_v) ia_nil))) (ie_e (ie_k fun _ => .int _)))) ia_nil)))) (ia_cons (ie_e (ie_tup (ia_cons (ie_e (ie_k fun _ => .str _)) (ia_cons (ie_e (ie_tup (ia_cons (ie_e ie_v) ia_nil))) ia_nil)))) (ia_cons (ie_e (ie_tup (ia_cons (ie_e (ie_k fun _ => .str _)) (ia_cons (ie_e (ie_op ops_mul (ie_e (ie_tup (ia_cons (ie_e ie_v) ia_nil))) (ie_e (ie_k fun _ => .int _)))) ia_nil)))) ia_nil))))))))))))
      (is_seq (is_set (show 4 ∉ ([0] : List Nat) from by decide) (ie_op ops_add io_l (ie_e (ie_t (it_lst (ia_cons (ie_e (ie_tup (ia_cons (ie_e (ie_k fun _ => .str _)) (ia_cons (ie_e (ie_tup (ia_cons (ie_e (ie_k fun _ => .str _)) (ia_cons (ie_e (ie_op ops_mul (ie_e (ie_tup (ia_cons (ie_e ie_v) ia_nil))) (ie_e (ie_k fun _ => .int _)))) ia_nil)))) ia_nil)))) (ia_cons (ie_e (ie_tup (ia_cons (ie_e (ie_k fun _ => .str _)) (ia_cons (ie_e (ie_tup (ia_cons (ie_e ie_v) (ia_cons (ie_e (ie_tup (ia_cons (ie_e (ie_k fun _ => .str _)) (ia_cons (ie_e (ie_tup (ia_cons (ie_e (ie_tup (ia_cons (ie_e (ie_k fun _ => .str _)) (ia_cons (ie_e (ie_op ops_mul (ie_e (ie_tup (ia_cons (ie_e ie_v) ia_nil))) (ie_e (ie_k fun _ => .int _)))) ia_nil)))) (ia_cons (ie_e (ie_tup (ia_cons (ie_e (ie_k fun _ => .str _)) (ia_cons (ie_e (ie_op ops_mul (ie_e (ie_tup (ia_cons (ie_e ie_v) ia_nil))) (ie_e (ie_k fun _ => .int _)))) ia_nil)))) ia_nil)))) ia_nil)))) ia_nil)))) ia_nil)))) (ia_cons (ie_e (ie_tup (ia_cons (ie_e (ie_k fun _ => .str _)) (ia_cons (ie_e (ie_t (it_lst (ia_cons (ie_e ie_v) (ia_cons (ie_e ie_v) ia_nil))))) ia_nil)))) ia_nil))))))))
      (is_ret (ie_call0 f__law_of_0 (ia_cons io_l (ia_cons (ie_e (ie_op ops_add io_l (ie_e (ie_t (it_lst (ia_cons (ie_e (ie_tup (ia_cons (ie_e (ie_k fun _ => .str _)) (ia_cons (ie_e ie_v) (ia_cons (ie_e ie_v) ia_nil))))) (ia_cons (ie_e (ie_tup (ia_cons (ie_e (ie_k fun _ => .str _)) ia_nil))) ia_nil))))))) ia_nil)))))))⟩)
/-! _law_spoilt -/
def f__law_spoilt : Nat → Fn
  | 0 => fun _ _ _ => False
  | n + 1 => fnOf 3 3
    (sSeq (sAsg (tV 2) (gT 2 (gs1 (gN 3) (gs1 (gN 4) gs0))))
    (sSeq (sIf (tTst (tB2 pEq (tLu 3) (tE (tK (.str "not"))))) (sRet (tTupD (tA (tE (tK (.str "not"))) (tA (tE (tCal (f__law_spoilt n) [0] 3 (tA (tLu 0) (tA (tE (tV 1)) (tA (tE (tV 4)) tA0))))) tA0)))) sNext)
    (sSeq (sSet 5 (tCal f__law_of [0] 2 (tA (tLu 0) (tA (tE (tFr (tLstD (tA (tE (tK (.int 0))) (tA (tE (tB2 pSub (tE (tCb (f1 pLen) (tA (tLu 4) tA0))) (tE (tK (.int 1))))) (tA (tE (tCal f__law_any [0] 2 (tA (tLu 0) (tA (tE (tCb (f1 pLen) (tA (tLu 4) tA0))) tA0)))) tA0)))))) tA0))))
    (sSeq (sIf (tTst (tB2 (pIn false) (tLu 3) (tE (tFr (tLstD (tA (tE (tK (.str "all"))) (tA (tE (tK (.str "some"))) tA0))))))) (sSeq (sIf (tTst (tB2 pGt (tE (tCal f__law_any [0] 2 (tA (tLu 0) (tA (tE (tK (.int 3))) tA0)))) (tE (tK (.int 0))))) (sRet (tTupD (tA (tE (tV 3)) (tA (tE (tB2 pAdd (tE (tB2 pAdd (tE (tSlD (tLu 4) tO0 (tO1 (tLu 5)))) (tE (tTupD (tA (tE (tCal (f__law_spoilt n) [0] 3 (tA (tLu 0) (tA (tE (tV 1)) (tA (tE (tB2 pIx (tLu 4) (tLu 5))) tA0))))) tA0))))) (tE (tSlD (tLu 4) (tO1 (tE (tB2 pAdd (tLu 5) (tE (tK (.int 1)))))) tO0)))) tA0)))) sNext)
    (sRet (tCal f__law_of [0] 2 (tA (tLu 0) (tA (tE (tFr (tLstD (tA (tE (tTupD (tA (tE (tV 3)) (tA (tE (tB2 pAdd (tLu 4) (tE (tB2 pMul (tE (tSlD (tLu 4) tO0 (tO1 (tE (tK (.int 1)))))) (tE (tB2 pSub (tE (tK (.int 11))) (tE (tCb (f1 pLen) (tA (tLu 4) tA0))))))))) tA0)))) (tA (tE (tTupD (tA (tE (tV 3)) (tA (tE (tSlD (tLu 4) tO0 (tO1 (tE (tK (.int 1)))))) tA0)))) (tA (tE (tTupD (tA (tE (tV 3)) (tA (tE (tFr (tCbT (f1T pListOf) (tA (tLu 4) tA0)))) tA0)))) (tA (tE (tTupD (tA (tE (tV 3)) (tA (tE (tV 4)) (tA (tE (tV 4)) tA0))))) (tA (tE (tTupD (tA (tE (tK (.str "any"))) (tA (tE (tV 4)) tA0)))) tA0)))))))) tA0))))) sNext)
    (sSeq (sIf (tTst (tB2 pGt (tE (tCal f__law_any [0] 2 (tA (tLu 0) (tA (tE (tK (.int 3))) tA0)))) (tE (tK (.int 0))))) (sRet (tTupD (tA (tE (tV 3)) (tA (tE (tB2 pAdd (tE (tB2 pAdd (tE (tSlD (tLu 4) tO0 (tO1 (tLu 5)))) (tE (tTupD (tA (tE (tCal f__law_bad_sum [0] 2 (tA (tLu 0) (tA (tE (tV 1)) tA0)))) tA0))))) (tE (tSlD (tLu 4) (tO1 (tE (tB2 pAdd (tLu 5) (tE (tK (.int 1)))))) tO0)))) tA0)))) sNext)
    (sRet (tCal f__law_of [0] 2 (tA (tLu 0) (tA (tE (tFr (tLstD (tA (tE (tTupD (tA (tE (tV 3)) (tA (tE (tB2 pAdd (tLu 4) (tE (tB2 pMul (tE (tSlD (tLu 4) tO0 (tO1 (tE (tK (.int 1)))))) (tE (tB2 pSub (tE (tK (.int 6))) (tE (tCb (f1 pLen) (tA (tLu 4) tA0))))))))) tA0)))) (tA (tE (tTupD (tA (tE (tV 3)) (tA (tE (tSlD (tLu 4) tO0 (tO1 (tE (tK (.int 1)))))) tA0)))) (tA (tE (tTupD (tA (tE (tV 3)) (tA (tE (tFr (tCbT (f1T pListOf) (tA (tLu 4) tA0)))) tA0)))) (tA (tE (tTupD (tA (tE (tV 3)) tA0))) tA0))))))) tA0)))))))))
theorem f__law_spoilt_0 : ∀ n ps P Px Px', f__law_spoilt n ps P Px → f__law_spoilt n ps P Px'
  | 0, _, _, _, _, h => h
  | _ + 1, _, _, _, _, h => h
theorem ok__law_spoilt (T : Tx P K mg w A D) : ∀ n, FnOk P w K mg base CX0 (4 + n) (A 48) (D 48) ["deal", "n", "condition"] (spOf K xc [0] 3 (f__law_spoilt n))
  | 0 => (fn_never T.F__law_spoilt sc__law_spoilt).mono (by omega)
  | n + 1 => by
    have ih := ok__law_spoilt T n
    refine (fn_ip (k := 4 + n) (pins := [0]) T.F__law_spoilt sc__law_spoilt (by decide) (by decide) (fun cdv A' outer s H E hr => ⟨_, (pss_cons (ps_asg (pv 2) (pg_tup rfl (pgs_cons (pg_name (i := 3) sc__law_spoilt.nd rfl (Or.inl rfl)) (pgs_cons (pg_name (i := 4) sc__law_spoilt.nd rfl (Or.inl rfl)) pgs_nil))))
      (pss_cons (ps_if (pt_cmpR (op_eqD (hu64 hr)) (pv 3) pe_str (nomark _)) (pss_one (ps_ret (pe_tup (pa_cons pe_str (pa_cons (pe_call ih (hr.mono (by omega)) rfl T.g__law_spoilt T.F__law_spoilt.kp (b__law_spoilt T) .nil pass0 (pa_cons (pv 0) (pa_cons (pv 1) (pa_cons (pv 4) pa_nil)))) pa_nil))))) pss_nil)
      (pss_cons (ps_set (i := 5) sc__law_spoilt.nd rfl (Or.inl rfl) (pe_call (ok__law_of T) (hr.mono (by first | decide | omega)) rfl T.g__law_of T.F__law_of.kp (b__law_of T) .nil pass0 (pa_cons (pv 0) (pa_cons (pe_lst (pa_cons pe_int (pa_cons (pe_op op_sub (pe_callB call_len_seq (by rfl) T.z_len PySem.boot_len (pa_cons (pv 4) pa_nil)) pe_int) (pa_cons (pe_call (ok__law_any T) (hr.mono (by first | decide | omega)) rfl T.g__law_any T.F__law_any.kp (b__law_any T) .nil pass0 (pa_cons (pv 0) (pa_cons (pe_callB call_len_seq (by rfl) T.z_len PySem.boot_len (pa_cons (pv 4) pa_nil)) pa_nil))) pa_nil)))) pa_nil))))
      (pss_cons (ps_if (pt_cmpR op_in_seq (pv 3) (pe_lst (pa_cons pe_str (pa_cons pe_str pa_nil))) (by rfl)) (pss_cons (ps_if (pt_cmpR op_gt (pe_call (ok__law_any T) (hr.mono (by first | decide | omega)) rfl T.g__law_any T.F__law_any.kp (b__law_any T) .nil pass0 (pa_cons (pv 0) (pa_cons pe_int pa_nil))) pe_int (nomark _)) (pss_one (ps_ret (pe_tup (pa_cons (pv 3) (pa_cons (pe_op op_addU (pe_op op_addU (pe_slice sl_U (pv 4) po_none (po_some (pv 5))) (pe_tup (pa_cons (pe_call ih (hr.mono (by omega)) rfl T.g__law_spoilt T.F__law_spoilt.kp (b__law_spoilt T) .nil pass0 (pa_cons (pv 0) (pa_cons (pv 1) (pa_cons (pe_ix ix_seq (pv 4) (pv 5) (fun _ _ => rfl)) pa_nil)))) pa_nil))) (pe_slice sl_U (pv 4) (po_some (pe_op op_addU (pv 5) pe_int)) po_none)) pa_nil))))) pss_nil)
      (pss_one (ps_ret (pe_call (ok__law_of T) (hr.mono (by first | decide | omega)) rfl T.g__law_of T.F__law_of.kp (b__law_of T) .nil pass0 (pa_cons (pv 0) (pa_cons (pe_lst (pa_cons (pe_tup (pa_cons (pv 3) (pa_cons (pe_op op_addU (pv 4) (pe_op op_mulU (pe_slice sl_U (pv 4) po_none (po_some pe_int)) (pe_op op_sub pe_int (pe_callB call_len_seq (by rfl) T.z_len PySem.boot_len (pa_cons (pv 4) pa_nil))))) pa_nil))) (pa_cons (pe_tup (pa_cons (pv 3) (pa_cons (pe_slice sl_U (pv 4) po_none (po_some pe_int)) pa_nil))) (pa_cons (pe_tup (pa_cons (pv 3) (pa_cons (pe_callTy call_list_of rfl T.z_list (by decide +kernel) (pa_cons (pv 4) pa_nil)) pa_nil))) (pa_cons (pe_tup (pa_cons (pv 3) (pa_cons (pv 4) (pa_cons (pv 4) pa_nil)))) (pa_cons (pe_tup (pa_cons pe_str (pa_cons (pv 4) pa_nil))) pa_nil)))))) pa_nil)))))) pss_nil)
      (pss_cons (ps_if (pt_cmpR op_gt (pe_call (ok__law_any T) (hr.mono (by first | decide | omega)) rfl T.g__law_any T.F__law_any.kp (b__law_any T) .nil pass0 (pa_cons (pv 0) (pa_cons pe_int pa_nil))) pe_int (nomark _)) (pss_one (ps_ret (pe_tup (pa_cons (pv 3) (pa_cons (pe_op op_addU (pe_op op_addU (pe_slice sl_U (pv 4) po_none (po_some (pv 5))) (pe_tup (pa_cons (pe_call (ok__law_bad_sum T) (hr.mono (by first | decide | omega)) rfl T.g__law_bad_sum T.F__law_bad_sum.kp (b__law_bad_sum T) .nil pass0 (pa_cons (pv 0) (pa_cons (pv 1) pa_nil))) pa_nil))) (pe_slice sl_U (pv 4) (po_some (pe_op op_addU (pv 5) pe_int)) po_none)) pa_nil))))) pss_nil)
      (pss_one (ps_ret (pe_call (ok__law_of T) (hr.mono (by first | decide | omega)) rfl T.g__law_of T.F__law_of.kp (b__law_of T) .nil pass0 (pa_cons (pv 0) (pa_cons (pe_lst (pa_cons (pe_tup (pa_cons (pv 3) (pa_cons (pe_op op_addU (pv 4) (pe_op op_mulU (pe_slice sl_U (pv 4) po_none (po_some pe_int)) (pe_op op_sub pe_int (pe_callB call_len_seq (by rfl) T.z_len PySem.boot_len (pa_cons (pv 4) pa_nil))))) pa_nil))) (pa_cons (pe_tup (pa_cons (pv 3) (pa_cons (pe_slice sl_U (pv 4) po_none (po_some pe_int)) pa_nil))) (pa_cons (pe_tup (pa_cons (pv 3) (pa_cons (pe_callTy call_list_of rfl T.z_list (by decide +kernel) (pa_cons (pv 4) pa_nil)) pa_nil))) (pa_cons (pe_tup (pa_cons (pv 3) pa_nil)) pa_nil))))) pa_nil)))))))))), fun ca => (is_seq (is_asg (show ∀ j ∈ ([3, 4] : List Nat), j ∉ ([0] : List Nat) from by decide) ie_v (ig_tup (igs_cons ig_name (igs_cons ig_name igs_nil))))
      (is_seq (is_if (ib_test (ie_op ops_eq io_l (ie_e (ie_k fun _ => .str _)))) (is_ret (ie_tup (ia_cons (ie_e (ie_k fun _ => .str _)) (ia_cons (ie_e (ie_call0 (f__law_spoilt_0 _) (ia_cons io_l (ia_cons (ie_e ie_v) (ia_cons (ie_e ie_v) ia_nil))))) ia_nil)))) is_next)
      (is_seq (is_set (show 5 ∉ ([0] : List Nat) from by decide) (ie_call0 f__law_of_0 (ia_cons io_l (ia_cons (ie_e (ie_t (it_lst (ia_cons (ie_e (ie_k fun _ => .int _)) (ia_cons (ie_e (ie_op ops_sub (ie_e (ie_cb calls_len (ia_cons io_l ia_nil))) (ie_e (ie_k fun _ => .int _)))) (ia_cons (ie_e (ie_call0 f__law_any_0 (ia_cons io_l (ia_cons (ie_e (ie_cb calls_len (ia_cons io_l ia_nil))) ia_nil)))) ia_nil)))))) ia_nil))))
      (is_seq (is_if (ib_test (ie_op ops_in io_l (ie_e (ie_t (it_lst (ia_cons (ie_e (ie_k fun _ => .str _)) (ia_cons (ie_e (ie_k fun _ => .str _)) ia_nil))))))) (is_seq (is_if (ib_test (ie_op ops_gt (ie_e (ie_call0 f__law_any_0 (ia_cons io_l (ia_cons (ie_e (ie_k fun _ => .int _)) ia_nil)))) (ie_e (ie_k fun _ => .int _)))) (is_ret (ie_tup (ia_cons (ie_e ie_v) (ia_cons (ie_e (ie_op ops_add (ie_e (ie_op ops_add (ie_e (ie_slice io_l io_none (io_part io_l))) (ie_e (ie_tup (ia_cons (ie_e (ie_call0 (f__law_spoilt_0 _) (ia_cons io_l (ia_cons (ie_e ie_v) (ia_cons (ie_e (ie_op ops_ix io_l io_l)) ia_nil))))) ia_nil))))) (ie_e (ie_slice io_l (io_part (ie_e (ie_op ops_add io_l (ie_e (ie_k fun _ => .int _))))) io_none)))) ia_nil)))) is_next)
      (is_ret (ie_call0 f__law_of_0 (ia_cons io_l (ia_cons (ie_e (ie_t (it_lst (ia_cons (ie_e (ie_tup (ia_cons (ie_e ie_v) (ia_cons (ie_e (ie_op ops_add io_l (ie_e (ie_op ops_mul (ie_e (ie_slice io_l io_none (io_part (ie_e (ie_k fun _ => .int _))))) (ie_e (ie_op ops_sub (ie_e (ie_k fun _ => .int _)) (ie_e (ie_cb calls_len (ia_cons io_l ia_nil))))))))) ia_nil)))) (ia_cons (ie_e (ie_tup (ia_cons (ie_e ie_v) (ia_cons (ie_e (ie_slice io_l io_none (io_part (ie_e (ie_k fun _ => .int _))))) ia_nil)))) (ia_cons (ie_e (ie_tup (ia_cons (ie_e ie_v) (ia_cons (ie_e (ie_t (it_cb callt_list (ia_cons io_l ia_nil)))) ia_nil)))) (ia_cons (ie_e (ie_tup (ia_cons (ie_e ie_v) (ia_cons (ie_e ie_v) (ia_cons (ie_e ie_v) ia_nil))))) (ia_cons (ie_e (ie_tup (ia_cons (ie_e (ie_k fun _ => .str _)) (ia_cons (ie_e ie_v) ia_nil)))) ia_nil)))))))) ia_nil))))) is_next)
      (is_seq (is_if (ib_test (ie_op ops_gt (ie_e (ie_call0 f__law_any_0 (ia_cons io_l (ia_cons (ie_e (ie_k fun _ => .int _)) ia_nil)))) (ie_e (ie_k fun _ => .int _)))) (is_ret (ie_tup (ia_cons (ie_e ie_v) (ia_cons (ie_e (ie_op ops_add (ie_e (ie_op ops_add (ie_e (ie_slice io_l io_none (io_part io_l))) (ie_e (ie_tup (ia_cons (ie_e (ie_call0 f__law_bad_sum_0 (ia_cons io_l (ia_cons (ie_e ie_v) ia_nil)))) ia_nil))))) (ie_e (ie_slice io_l (io_part (ie_e (ie_op ops_add io_l (ie_e (ie_k fun _ => .int _))))) io_none)))) ia_nil)))) is_next)
      (is_ret (ie_call0 f__law_of_0 (ia_cons io_l (ia_cons (ie_e (ie_t (it_lst (ia_cons (ie_e (ie_tup (ia_cons (ie_e ie_v) (ia_cons (ie_e (ie_op ops_add io_l (ie_e (ie_op ops_mul (ie_e (ie_slice io_l io_none (io_part (ie_e (ie_k fun _ => .int _))))) (ie_e (ie_op ops_sub (ie_e (ie_k fun _ => .int _)) (ie_e (ie_cb calls_len (ia_cons io_l ia_nil))))))))) ia_nil)))) (ia_cons (ie_e (ie_tup (ia_cons (ie_e ie_v) (ia_cons (ie_e (ie_slice io_l io_none (io_part (ie_e (ie_k fun _ => .int _))))) ia_nil)))) (ia_cons (ie_e (ie_tup (ia_cons (ie_e ie_v) (ia_cons (ie_e (ie_t (it_cb callt_list (ia_cons io_l ia_nil)))) ia_nil)))) (ia_cons (ie_e (ie_tup (ia_cons (ie_e ie_v) ia_nil))) ia_nil))))))) ia_nil)))))))))⟩)).mono (by omega)
/-! law -/
def S_law : WS :=
    (sSeq (sAsg (tTupD (tA (tE (tCal f__law_of [0] 2 (tA (tLu 1) (tA (tE (tFr (tLstD (tA (tE (tK (.int 0))) (tA (tE (tK (.int 0))) (tA (tE (tK (.int 2))) (tA (tE (tK (.int 13))) (tA (tE (tK (.int 97))) (tA (tE (tK (.int 101))) tA0))))))))) tA0)))) (tA (tE (tCal f__law_of [0] 2 (tA (tLu 1) (tA (tE (tFr (tLstD (tA (tE (tK (.int 10))) (tA (tE (tK (.int 10))) (tA (tE (tB2 pAdd (tE (tK (.int 1))) (tE (tCal f__law_any [0] 2 (tA (tLu 1) (tA (tE (tK (.int 10))) tA0)))))) tA0)))))) tA0)))) tA0))) (gT 2 (gs1 (gN 2) (gs1 (gN 3) gs0))))
    (sSeq (sSet 4 (tCal (f__law_condition 8) [0] 3 (tA (tLu 1) (tA (tE (tV 3)) (tA (tE (tK (.int 3))) tA0)))))
    (sSeq (sIf (tbOr (tTst (tB2 (pIsN true) (tE (tCal (f_is_condition 60) [] 2 (tA (tE (tV 3)) (tA (tE (tV 4)) tA0)))) (tE (tK (.bool true))))) (tTst (tB2 (pIsN true) (tE (tCalK (f_is_condition 60) [] 2 [1, 0] (tA (tE (tCal (f__law_spoilt 60) [0] 3 (tA (tLu 1) (tA (tE (tV 3)) (tA (tE (tV 4)) tA0))))) (tA (tE (tV 3)) tA0)))) (tE (tK (.bool false)))))) (sRet (tK (.bool false))) sNext)
    (sSeq (sSet 5 (tCalK f_straight [] 1 [0] (tA (tE (tV 4)) tA0)))
    (sSeq (sIf (tTst (tB2 pNe (tLu 5) (tE (tCal (f__law_inward 60) [] 2 (tA (tE (tCal (f__law_paired 60) [] 1 (tA (tE (tV 4)) tA0))) (tA (tE (tK (.bool false))) tA0)))))) (sRet (tK (.bool false))) sNext)
    (sSeq (sSet 6 (tCb (f1 pTupOf) (tA (tE (tFr (tLcD (tSeqI (tCal f__law_sizes [0] 3 (tA (tLu 1) (tA (tE (tV 3)) (tA (tE (tK (.int 12))) tA0))))) (gN 12) tYesD (tCal f__law_row [0] 4 (tA (tLu 1) (tA (tE (tV 2)) (tA (tE (tV 12)) (tA (tE (tCal f__law_of [0] 2 (tA (tLu 1) (tA (tE (tFr (tLstD (tA (tE (tK (.int 1))) (tA (tE (tK (.int 30))) tA0))))) tA0)))) tA0))))) [12]))) tA0)))
    (sSeq (sSetT 7 (tLstD tA0))
    (sSeq (sFor (tSeqI (tCal f__law_choices [] 1 (tA (tE (tV 6)) tA0))) (gN 8)
    (sSeq (sSet 9 (tCal (f__law_holds 60) [] 3 (tA (tE (tV 2)) (tA (tE (tV 4)) (tA (tE (tV 8)) tA0)))))
    (sSeq (sIf (tTst (tV 9)) (sApp 7 (tV 8)) sNext)
    (sIf (tbAnd (tTst (tB2 pLt (tE (tCb (f1 pLen) (tA (tLu 7) tA0))) (tE (tK (.int 3))))) (tbOr (tTst (tB2 pNe (tE (tCb (f1 pRepr) (tA (tE (tCal (f_holds 60) [] 3 (tA (tE (tV 2)) (tA (tE (tV 4)) (tA (tE (tV 8)) tA0))))) tA0))) (tE (tCb (f1 pRepr) (tA (tLu 9) tA0))))) (tTst (tB2 pNe (tE (tCb (f1 pRepr) (tA (tE (tCalK (f_holds 60) [] 3 [0, 2, 1] (tA (tE (tV 2)) (tA (tE (tV 8)) (tA (tE (tV 5)) tA0))))) tA0))) (tE (tCb (f1 pRepr) (tA (tLu 9) tA0))))))) (sRet (tK (.bool false))) sNext))))
    (sSeq (sIf (tbOr (tTst (tB2 pNe (tE (tCal f_held [] 3 (tA (tE (tV 2)) (tA (tE (tV 6)) (tA (tE (tV 4)) tA0))))) (tE (tCb (f1 pTupOf) (tA (tLu 7) tA0))))) (tTst (tB2 pNe (tE (tCalK f_held [] 3 [2, 1, 0] (tA (tE (tV 5)) (tA (tE (tV 6)) (tA (tE (tV 2)) tA0))))) (tE (tCb (f1 pTupOf) (tA (tLu 7) tA0)))))) (sRet (tK (.bool false))) sNext)
    (sSeq (sSet 10 (tCb (f1 pTupOf) (tA (tE (tFr (tLcD (tSeqI (tCal f__law_mixed [0] 2 (tA (tLu 1) (tA (tE (tFr (tLstD (tA (tE (tK (.int 12))) (tA (tE (tK (.int 12))) (tA (tE (tK (.int 10))) (tA (tE (tK (.int 7))) (tA (tE (tK (.int 2))) tA0)))))))) tA0)))) (gN 12) tYesD (tTRg (tR1 (tLu 12))) [12]))) tA0)))
    (sTry 0 11 (sRet (tB2 (pIsN false) (tE (tCal f_held [] 3 (tA (tE (tK (.int 13))) (tA (tE (tV 10)) (tA (tE (tTupD (tA (tE (tK (.str "unlike"))) (tA (tE (tTupD (tA (tE (tTupD (tA (tE (tK (.str "of"))) (tA (tE (tK (.int 0))) tA0)))) (tA (tE (tTupD (tA (tE (tK (.str "of"))) (tA (tE (tK (.int 1))) tA0)))) tA0)))) tA0)))) tA0))))) (tE (tK .none)))) (fun a dx => (sRet (tB2 pEq (tE (tAt 11 a dx)) (tE (tK (.int 20160)))))))))))))))))
theorem ok_law (T : Tx P K mg w A D) (hf : ∀ K ns, ns.length ≤ 63 → ∀ (Q : Da → List Sl → Prop) (Px : Ex → List Sl → Prop), (∀ (cs : List Int) (b : Int) (ps : List Sl), cs.length ≤ ns.length → b.natAbs < 2 ^ 31 → Q (.list [.list (cs.map PyData.int), .int b]) ps) → f__law_draw K [.scr K ns, .fz (.int 84)] Q Px)
    (hm : ∀ (cs : List Int) (b : Int), cs.length ≤ 63 → b.natAbs < 2 ^ 31 → S_law (.un :: .dl cs b :: List.replicate 11 .un) edLaw) : FnOk P w K mg base CX0 126 (A 49) (D 49) ["script"] (spLaw K) :=
  T.F_law.ok (k := 125) sc_law (fun vs H Q E h => by obtain ⟨a, ns, rfl, _⟩ := h; rfl) (fun cdv A' outer s H vs Q E hr h => by
    obtain ⟨l, ns, rfl, hS, hl, q⟩ := h
    have hb : ∃ t, PSs (cxOf CX0 P w K mg base ["script", "deal", "p", "n", "condition", "told", "lists", "due", "choice", "good", "wide", "wrong", "size"] "law" (defScope s_law) (A 49) cdv A' outer s H E).nox ((defBody s_law).drop 1) t ∧ ∀ ca, IS ⟨K, ca, [], fun _ _ _ _ => False, XC A⟩ t S_law := ⟨_,
      (pss_cons (ps_asg (pe_tup (pa_cons (pe_call (ok__law_of T) (hr.mono (by first | decide | omega)) rfl T.g__law_of T.F__law_of.kp (b__law_of T) .nil pass0 (pa_cons (pv 1) (pa_cons (pe_lst (pa_cons pe_int (pa_cons pe_int (pa_cons pe_int (pa_cons pe_int (pa_cons pe_int (pa_cons pe_int pa_nil))))))) pa_nil))) (pa_cons (pe_call (ok__law_of T) (hr.mono (by first | decide | omega)) rfl T.g__law_of T.F__law_of.kp (b__law_of T) .nil pass0 (pa_cons (pv 1) (pa_cons (pe_lst (pa_cons pe_int (pa_cons pe_int (pa_cons (pe_op op_addU pe_int (pe_call (ok__law_any T) (hr.mono (by first | decide | omega)) rfl T.g__law_any T.F__law_any.kp (b__law_any T) .nil pass0 (pa_cons (pv 1) (pa_cons pe_int pa_nil)))) pa_nil)))) pa_nil))) pa_nil))) (pg_tup rfl (pgs_cons (pg_name (i := 2) sc_law.nd rfl (Or.inr rfl)) (pgs_cons (pg_name (i := 3) sc_law.nd rfl (Or.inl rfl)) pgs_nil))))
      (pss_cons (ps_set (i := 4) sc_law.nd rfl (Or.inl rfl) (pe_call (ok__law_condition T 8) (hr.mono (by first | decide | omega)) rfl T.g__law_condition T.F__law_condition.kp (b__law_condition T) .nil pass0 (pa_cons (pv 1) (pa_cons (pv 3) (pa_cons pe_int pa_nil)))))
      (pss_cons (ps_if (PW.pt (pw_or (pt_cmpR op_notU (pe_call (ok_is_condition T 60) (hr.mono (by first | decide | omega)) rfl T.g_is_condition T.F_is_condition.kp (b_is_condition T) .nil pass0 (pa_cons (pv 3) (pa_cons (pv 4) pa_nil))) pe_bl (nomark _)) (pw_or1 (pt_cmpR op_notU (pe_callK0 (ok_is_condition T 60) (hr.mono (by first | decide | omega)) rfl T.g_is_condition T.F_is_condition.kp (kb_is_condition_10 T) pass0 (pk_cons (pe_call (ok__law_spoilt T 60) (hr.mono (by first | decide | omega)) rfl T.g__law_spoilt T.F__law_spoilt.kp (b__law_spoilt T) .nil pass0 (pa_cons (pv 1) (pa_cons (pv 3) (pa_cons (pv 4) pa_nil)))) (pk_cons (pv 3) pk_nil))) pe_bl (nomark _))))) (pss_one (ps_ret pe_bl)) pss_nil)
      (pss_cons (ps_set (i := 5) sc_law.nd rfl (Or.inl rfl) (pe_callK0 (ok_straight T) (hr.mono (by first | decide | omega)) rfl T.g_straight T.F_straight.kp (kb_straight_0 T) pass0 (pk_cons (pv 4) pk_nil)))
      (pss_cons (ps_if (pt_cmpR (op_neD (hu64 hr)) (pv 5) (pe_call (ok__law_inward T 60) (hr.mono (by first | decide | omega)) rfl T.g__law_inward T.F__law_inward.kp (b__law_inward T) .nil pass0 (pa_cons (pe_call (ok__law_paired T 60) (hr.mono (by first | decide | omega)) rfl T.g__law_paired T.F__law_paired.kp (b__law_paired T) .nil pass0 (pa_cons (pv 4) pa_nil)) (pa_cons pe_bl pa_nil))) (nomark _)) (pss_one (ps_ret pe_bl)) pss_nil)
      (pss_cons (ps_set (i := 6) sc_law.nd rfl (Or.inl rfl) (pe_callTy call_tuple_of (by rfl) T.z_tuple (by decide +kernel) (pa_cons (pe_lc (own := [("size", 12)]) rfl sc_law.nd (pi_seq (pe_call (ok__law_sizes T) (hr.mono (by first | decide | omega)) rfl T.g__law_sizes T.F__law_sizes.kp (b__law_sizes T) .nil pass0 (pa_cons (pv 1) (pa_cons (pv 3) (pa_cons pe_int pa_nil))))) (blkOk_by (show blkC ["script", "deal", "p", "n", "condition", "told", "lists", "due", "choice", "good", "wide", "wrong", "size"] (defScope s_law) _ [("size", 12)] = true from by decide +kernel)) (fun _ _ _ _ _ => (pg_name (i := 12) sc_law.nd rfl (by first | exact Or.inl rfl | exact Or.inr rfl))) (fun _ _ _ _ _ => pts_nil) (fun _ _ _ _ _ => (pe_call (ok__law_row T) (hr.mono (by first | decide | omega)) rfl T.g__law_row T.F__law_row.kp (b__law_row T) .nil pass0 (pa_cons (pv 1) (pa_cons (pv 2) (pa_cons (pv 12) (pa_cons (pe_call (ok__law_of T) (hr.mono (by first | decide | omega)) rfl T.g__law_of T.F__law_of.kp (b__law_of T) .nil pass0 (pa_cons (pv 1) (pa_cons (pe_lst (pa_cons pe_int (pa_cons pe_int pa_nil))) pa_nil))) pa_nil))))))) pa_nil)))
      (pss_cons (ps_set (i := 7) sc_law.nd rfl (Or.inl rfl) (pe_lst pa_nil))
      (pss_cons (ps_for PassesOwn.never rfl (pi_seq (pe_call (ok__law_choices T) (hr.mono (by first | decide | omega)) rfl T.g__law_choices T.F__law_choices.kp (b__law_choices T) .nil pass0 (pa_cons (pv 6) pa_nil))) (pg_name (i := 8) sc_law.nd rfl (Or.inl rfl))
      (pss_cons (ps_set (i := 9) sc_law.nd rfl (Or.inl rfl) (pe_call (ok__law_holds T 60) (hr.mono (by first | decide | omega)) rfl T.g__law_holds T.F__law_holds.kp (b__law_holds T) .nil pass0 (pa_cons (pv 2) (pa_cons (pv 4) (pa_cons (pv 8) pa_nil)))))
      (pss_cons (ps_if (pt_val (pv 9)) (pss_one (ps_expr (pe_bm PySem.F.plainAttrs_list PySem.F.slot_list_append PySem.F.type_list_append mt_append (pv 7) (pa_cons (pv 8) pa_nil)))) pss_nil)
      (pss_one (ps_if (PW.pt (pw_and (pt_cmpR op_lt (pe_callB call_len_seq (by rfl) T.z_len PySem.boot_len (pa_cons (pv 7) pa_nil)) pe_int (nomark _)) (pw_and1 (PW.pt (pw_or (pt_cmpR (op_neD (hu64 hr)) (pe_callB call_reprB (by rfl) T.z_repr (by decide +kernel) (pa_cons (pe_call (ok_holds T 60) (hr.mono (by first | decide | omega)) rfl T.g_holds T.F_holds.kp (b_holds T) .nil pass0 (pa_cons (pv 2) (pa_cons (pv 4) (pa_cons (pv 8) pa_nil)))) pa_nil)) (pe_callB call_reprB (by rfl) T.z_repr (by decide +kernel) (pa_cons (pv 9) pa_nil)) (nomark _)) (pw_or1 (pt_cmpR (op_neD (hu64 hr)) (pe_callB call_reprB (by rfl) T.z_repr (by decide +kernel) (pa_cons (pe_callK0 (ok_holds T 60) (hr.mono (by first | decide | omega)) rfl T.g_holds T.F_holds.kp (kb_holds_021 T) pass0 (pk_cons (pv 2) (pk_cons (pv 8) (pk_cons (pv 5) pk_nil)))) pa_nil)) (pe_callB call_reprB (by rfl) T.z_repr (by decide +kernel) (pa_cons (pv 9) pa_nil)) (nomark _)))))))) (pss_one (ps_ret pe_bl)) pss_nil)))))
      (pss_cons (ps_if (PW.pt (pw_or (pt_cmpR (op_neD (hu64 hr)) (pe_callX (ok_held T) (hr.mono (by first | decide | omega)) rfl T.g_held T.F_held.kp (b_held T) (takes_no (W := fun _ _ _ _ => False) (fun _ _ _ _ z => z)) (pa_cons (pv 2) (pa_cons (pv 6) (pa_cons (pv 4) pa_nil)))) (pe_callTy call_tuple_of (by rfl) T.z_tuple (by decide +kernel) (pa_cons (pv 7) pa_nil)) (nomark _)) (pw_or1 (pt_cmpR (op_neD (hu64 hr)) (pe_callXK (ok_held T) (hr.mono (by first | decide | omega)) rfl T.g_held T.F_held.kp (kb_held_210 T) (takes_no (W := fun _ _ _ _ => False) (fun _ _ _ _ z => z)) (pk_cons (pv 5) (pk_cons (pv 6) (pk_cons (pv 2) pk_nil)))) (pe_callTy call_tuple_of (by rfl) T.z_tuple (by decide +kernel) (pa_cons (pv 7) pa_nil)) (nomark _))))) (pss_one (ps_ret pe_bl)) pss_nil)
      (pss_cons (ps_set (i := 10) sc_law.nd rfl (Or.inl rfl) (pe_callTy call_tuple_of (by rfl) T.z_tuple (by decide +kernel) (pa_cons (pe_lc (own := [("size", 12)]) rfl sc_law.nd (pi_seq (pe_call (ok__law_mixed T) (hr.mono (by first | decide | omega)) rfl T.g__law_mixed T.F__law_mixed.kp (b__law_mixed T) .nil pass0 (pa_cons (pv 1) (pa_cons (pe_lst (pa_cons pe_int (pa_cons pe_int (pa_cons pe_int (pa_cons pe_int (pa_cons pe_int pa_nil)))))) pa_nil)))) (blkOk_by (show blkC ["script", "deal", "p", "n", "condition", "told", "lists", "due", "choice", "good", "wide", "wrong", "size"] (defScope s_law) _ [("size", 12)] = true from by decide +kernel)) (fun _ _ _ _ _ => (pg_name (i := 12) sc_law.nd rfl (by first | exact Or.inl rfl | exact Or.inr rfl))) (fun _ _ _ _ _ => pts_nil) (fun _ _ _ _ _ => (pe_tupRg rfl rfl T.z_tuple (prg_1 rfl T.z_range (pv 12))))) pa_nil)))
      (pss_one (ps_tryA rfl rfl sc_law.nd (i := 11) rfl rfl ⟨rfl, rfl, .inl T.gc_Refused⟩ (takes_no (W := fun _ _ _ _ => False) (fun _ _ _ _ z => z)) (fun W pn xe tk po => (pss_one (ps_ret (pe_cmpR op_isU (pe_callX (ok_held T) (hr.mono (by first | decide | omega)) rfl T.g_held T.F_held.kp (b_held T) tk (pa_cons pe_int (pa_cons (pv 10) (pa_cons (pe_tup (pa_cons pe_str (pa_cons (pe_tup (pa_cons (pe_tup (pa_cons pe_str (pa_cons pe_int pa_nil))) (pa_cons (pe_tup (pa_cons pe_str (pa_cons pe_int pa_nil))) pa_nil))) pa_nil))) pa_nil)))) pe_non (nomark _))))) (fun a oe cls d pn hz hf => (pss_one (ps_ret (pe_cmpR (op_eqS hr) (pe_xf T.xf_Refused T.na_Refused hz hf (pv 11)) pe_int (nomark _))))))))))))))))), fun ca => (is_seq (is_asg (show ∀ j ∈ ([2, 3] : List Nat), j ∉ ([] : List Nat) from by decide) (ie_tup (ia_cons (ie_e (ie_call0 f__law_of_0 (ia_cons io_l (ia_cons (ie_e (ie_t (it_lst (ia_cons (ie_e (ie_k fun _ => .int _)) (ia_cons (ie_e (ie_k fun _ => .int _)) (ia_cons (ie_e (ie_k fun _ => .int _)) (ia_cons (ie_e (ie_k fun _ => .int _)) (ia_cons (ie_e (ie_k fun _ => .int _)) (ia_cons (ie_e (ie_k fun _ => .int _)) ia_nil))))))))) ia_nil)))) (ia_cons (ie_e (ie_call0 f__law_of_0 (ia_cons io_l (ia_cons (ie_e (ie_t (it_lst (ia_cons (ie_e (ie_k fun _ => .int _)) (ia_cons (ie_e (ie_k fun _ => .int _)) (ia_cons (ie_e (ie_op ops_add (ie_e (ie_k fun _ => .int _)) (ie_e (ie_call0 f__law_any_0 (ia_cons io_l (ia_cons (ie_e (ie_k fun _ => .int _)) ia_nil)))))) ia_nil)))))) ia_nil)))) ia_nil))) (ig_tup (igs_cons ig_name (igs_cons ig_name igs_nil))))
      (is_seq (is_set (show 4 ∉ ([] : List Nat) from by decide) (ie_call0 (f__law_condition_0 _) (ia_cons io_l (ia_cons (ie_e ie_v) (ia_cons (ie_e (ie_k fun _ => .int _)) ia_nil)))))
      (is_seq (is_if (ib_or (ib_test (ie_op ops_isnot (ie_e (ie_call0 (f_is_condition_0 _) (ia_cons (ie_e ie_v) (ia_cons (ie_e ie_v) ia_nil)))) (ie_e (ie_k fun _ => .bl _)))) (ib_test (ie_op ops_isnot (ie_e (ie_callK0 (idx := [1, 0]) kv_10 (f_is_condition_0 _) (ia_cons (ie_e (ie_call0 (f__law_spoilt_0 _) (ia_cons io_l (ia_cons (ie_e ie_v) (ia_cons (ie_e ie_v) ia_nil))))) (ia_cons (ie_e ie_v) ia_nil)))) (ie_e (ie_k fun _ => .bl _))))) (is_ret (ie_k fun _ => .bl _)) is_next)
      (is_seq (is_set (show 5 ∉ ([] : List Nat) from by decide) (ie_callK0 (idx := [0]) kv_0 f_straight_0 (ia_cons (ie_e ie_v) ia_nil)))
      (is_seq (is_if (ib_test (ie_op ops_ne io_l (ie_e (ie_call0 (f__law_inward_0 _) (ia_cons (ie_e (ie_call0 (f__law_paired_0 _) (ia_cons (ie_e ie_v) ia_nil))) (ia_cons (ie_e (ie_k fun _ => .bl _)) ia_nil)))))) (is_ret (ie_k fun _ => .bl _)) is_next)
      (is_seq (is_set (show 6 ∉ ([] : List Nat) from by decide) (ie_cb calls_tuple (ia_cons (ie_e (ie_t (it_lc (by decide) (ii_seq (ie_call0 f__law_sizes_0 (ia_cons io_l (ia_cons (ie_e ie_v) (ia_cons (ie_e (ie_k fun _ => .int _)) ia_nil))))) ig_name ib_yes (ie_call0 f__law_row_0 (ia_cons io_l (ia_cons (ie_e ie_v) (ia_cons (ie_e ie_v) (ia_cons (ie_e (ie_call0 f__law_of_0 (ia_cons io_l (ia_cons (ie_e (ie_t (it_lst (ia_cons (ie_e (ie_k fun _ => .int _)) (ia_cons (ie_e (ie_k fun _ => .int _)) ia_nil))))) ia_nil)))) ia_nil)))))))) ia_nil)))
      (is_seq (is_setT (show 7 ∉ ([] : List Nat) from by decide) (it_lst ia_nil))
      (is_seq (is_for (show ∀ j ∈ ([8] : List Nat), j ∉ ([] : List Nat) from by decide) (ii_seq (ie_call0 f__law_choices_0 (ia_cons (ie_e ie_v) ia_nil))) ig_name
      (is_seq (is_set (show 9 ∉ ([] : List Nat) from by decide) (ie_call0 (f__law_holds_0 _) (ia_cons (ie_e ie_v) (ia_cons (ie_e ie_v) (ia_cons (ie_e ie_v) ia_nil)))))
      (is_seq (is_if (ib_b ie_v) (is_app ie_v) is_next)
      (is_if (ib_and (ib_test (ie_op ops_lt (ie_e (ie_cb calls_len (ia_cons io_l ia_nil))) (ie_e (ie_k fun _ => .int _)))) (ib_or (ib_test (ie_op ops_ne (ie_e (ie_cb calls_repr (ia_cons (ie_e (ie_call0 (f_holds_0 _) (ia_cons (ie_e ie_v) (ia_cons (ie_e ie_v) (ia_cons (ie_e ie_v) ia_nil))))) ia_nil))) (ie_e (ie_cb calls_repr (ia_cons io_l ia_nil))))) (ib_test (ie_op ops_ne (ie_e (ie_cb calls_repr (ia_cons (ie_e (ie_callK0 (idx := [0, 2, 1]) kv_021 (f_holds_0 _) (ia_cons (ie_e ie_v) (ia_cons (ie_e ie_v) (ia_cons (ie_e ie_v) ia_nil))))) ia_nil))) (ie_e (ie_cb calls_repr (ia_cons io_l ia_nil))))))) (is_ret (ie_k fun _ => .bl _)) is_next))))
      (is_seq (is_if (ib_or (ib_test (ie_op ops_ne (ie_e (ie_callX (ia_cons (ie_e ie_v) (ia_cons (ie_e ie_v) (ia_cons (ie_e ie_v) ia_nil))))) (ie_e (ie_cb calls_tuple (ia_cons io_l ia_nil))))) (ib_test (ie_op ops_ne (ie_e (ie_callXK (idx := [2, 1, 0]) kv_210 (ia_cons (ie_e ie_v) (ia_cons (ie_e ie_v) (ia_cons (ie_e ie_v) ia_nil))))) (ie_e (ie_cb calls_tuple (ia_cons io_l ia_nil)))))) (is_ret (ie_k fun _ => .bl _)) is_next)
      (is_seq (is_set (show 10 ∉ ([] : List Nat) from by decide) (ie_cb calls_tuple (ia_cons (ie_e (ie_t (it_lc (by decide) (ii_seq (ie_call0 f__law_mixed_0 (ia_cons io_l (ia_cons (ie_e (ie_t (it_lst (ia_cons (ie_e (ie_k fun _ => .int _)) (ia_cons (ie_e (ie_k fun _ => .int _)) (ia_cons (ie_e (ie_k fun _ => .int _)) (ia_cons (ie_e (ie_k fun _ => .int _)) (ia_cons (ie_e (ie_k fun _ => .int _)) ia_nil)))))))) ia_nil)))) ig_name ib_yes (ie_trg (irg_1 io_l))))) ia_nil)))
      (is_try (k := 0) (show 11 ∉ ([] : List Nat) from by decide) T.e_Refused (fun E1 => (is_ret (ie_op ops_is (ie_e (ie_callX (ia_cons (ie_e (ie_k fun _ => .int _)) (ia_cons (ie_e ie_v) (ia_cons (ie_e (ie_tup (ia_cons (ie_e (ie_k fun _ => .str _)) (ia_cons (ie_e (ie_tup (ia_cons (ie_e (ie_tup (ia_cons (ie_e (ie_k fun _ => .str _)) (ia_cons (ie_e (ie_k fun _ => .int _)) ia_nil)))) (ia_cons (ie_e (ie_tup (ia_cons (ie_e (ie_k fun _ => .str _)) (ia_cons (ie_e (ie_k fun _ => .int _)) ia_nil)))) ia_nil)))) ia_nil)))) ia_nil))))) (ie_e (ie_k fun _ => .non))))) (fun a dx E1 => (is_ret (ie_op ops_eq (ie_e (ie_at (k := 0))) (ie_e (ie_k fun _ => .int _))))))))))))))))⟩
    obtain ⟨t, hps, his⟩ := hb
    refine ⟨_, pss_cons (ps_set (i := 1) sc_law.nd rfl (Or.inr rfl) (pe_call (ok__law_draw T (xc := XC A)) (hr.mono (by first | decide | omega)) rfl T.g__law_draw T.F__law_draw.kp (b__law_draw T) .nil pass0 (pa_cons (pv 0) (pa_cons pe_int pa_nil))))
      hps, ?_⟩
    exact law_run (EX := fun _ _ _ _ => False) hS his (hf K ns hl) (fun cs b h1 h2 => hm cs b (Nat.le_trans h1 hl) h2) (fun ca F O H1 cs b a w1 => edLaw_ok q))
end
end K84
end
section
set_option Elab.async false
set_option linter.all false
set_option maxRecDepth 100000
set_option maxHeartbeats 4000000
namespace K84
open PySem L2 Ip
theorem bmul {b : Int} (hb : b.natAbs < 2 ^ 31) (k : Int) (hk : k.natAbs < 2 ^ 31) : pMul (.int b) (.int k) = some (.int (b * k)) := mulOk (m := 31) _ _ hb hk (by decide) (by decide)
theorem any_ok {cs : List Int} {b n : Int} {P : Da → List Sl → Prop} {Px : Ex → List Sl → Prop} (hl : cs.length ≤ 63) (hb : b.natAbs < 2 ^ 31) (h0 : 0 < n) (hn : n < 1073741824)
    (h : ∀ k cs' b', 0 ≤ k → k < n → cs'.length ≤ 63 → b'.natAbs < 2 ^ 31 → P (.int k) [.dl cs' b', .fz (.int n)]) : f__law_any [.dl cs b, .fz (.int n)] P Px := by
  unfold f__law_any fnOf
  simp only [sim_sSeq, sim_sWhile]
  refine ⟨fun k ρ => ∃ cs : List Int, cs.length = k ∧ cs.length ≤ 63 ∧ ρ = [.dl cs b, .fz (.int n), .un], ⟨cs.length, cs, rfl, hl, rfl⟩, ?_⟩
  rintro k ρ ⟨cs, rfl, hl, rfl⟩
  have tail : ∀ cs : List Int, cs.length ≤ 63 → ∀ (r : Int), 0 ≤ r % n ∧ r % n < n := fun _ _ r => ⟨Int.emod_nonneg _ (by omega), Int.emod_lt_of_pos _ h0⟩
  rcases List.eq_nil_or_concat cs with rfl | ⟨ds, z, rfl⟩
  · simp [and_assoc, bmul hb, modOk, divOk, h0]
    have hbb : (((b * 40693 + 71) % 2147483647).natAbs) < 2 ^ 31 := by omega
    exact h _ _ _ (tail [] (by simp) _).1 (tail [] (by simp) _).2 (by simp) hbb
  · have hl' : ds.length + 1 ≤ 63 := by simpa using hl
    by_cases hz : z = 0
    · subst hz
      simp [v_atLast, and_assoc]
      exact ⟨ds.length, by omega, by omega⟩
    · simp [v_atLast, and_assoc, hz, divOk _ _ h0 hn, modOk _ _ h0]
      exact ⟨by omega, h _ _ _ (tail [] (by simp) _).1 (tail [] (by simp) _).2 (by simp; omega) hb⟩
def absD : Da → Option Da
  | .int i => some (.int (if i < 0 then -i else i))
  | _ => none
theorem absMap : ∀ ms : List Int, (ms.map PyData.int).filterMap absD = (ms.map fun i => if i < 0 then -i else i).map PyData.int
  | [] => rfl
  | m :: ms => by rw [List.map_cons, List.filterMap_cons]; show _ :: _ = _; rw [absMap ms]; rfl
def geD : Da → Option Da
  | .int i => if 1000000000000000000 ≤ i then some (.int i) else none
  | _ => none
theorem geD_list : ∀ l : List Int, ∃ ks : List Int, (l.map PyData.int).filterMap geD = ks.map PyData.int ∧ ks.length ≤ l.length
  | [] => ⟨[], rfl, Nat.le_refl _⟩
  | z :: l => by
    obtain ⟨ks, e, hk⟩ := geD_list l
    rw [List.map_cons, List.filterMap_cons]
    by_cases hz : 1000000000000000000 ≤ z
    · rw [show geD (.int z) = some (.int z) from if_pos hz]
      exact ⟨z :: ks, by rw [e]; rfl, by simp; omega⟩
    · rw [show geD (.int z) = none from if_neg hz]
      exact ⟨ks, e, by simp; omega⟩
theorem pow18 : pPow (.int 10) (.int 18) = some (.int 1000000000000000000) := by
  unfold pPow pInt2
  simp only
  rw [if_pos (by decide)]
  rfl
theorem draw_ok (K : PySem.W.Frag) (ns : List Int) (hl : ns.length ≤ 63) (Q : Da → List Sl → Prop) (Px : Ex → List Sl → Prop) (h : ∀ (cs : List Int) (b : Int) (ps : List Sl), cs.length ≤ ns.length → b.natAbs < 2 ^ 31 → Q (.list [.list (cs.map PyData.int), .int b]) ps) : f__law_draw K [.scr K ns, .fz (.int 84)] Q Px := by
  unfold f__law_draw fnOf
  simp [and_assoc]
  intro ms h1 h2
  refine lc_det absD _ _ (by simp; omega) ?_ ?_
  · intro d hd S1 S0 k1 k0
    simp only [List.mem_map] at hd
    obtain ⟨i, hi, rfl⟩ := hd
    simp
    exact k1 _ rfl _ rfl
  · rw [absMap]
    obtain ⟨cs, hc⟩ : ∃ cs : List Int, cs = ms.map fun i => if i < 0 then -i else i := ⟨_, rfl⟩
    have hcl : cs.length ≤ ns.length := by rw [hc, List.length_map]; exact h1
    rw [← hc]
    clear hc
    simp [mulOk (m := 31) 104729 84 (by decide) (by decide) (by decide) (by decide)]
    refine for_inv _ _ (fun _ ρ => ∃ (b : Int) (x : Sl), keepS (some x) = x ∧ b.natAbs < 2 ^ 31 ∧ ρ = [.scr K ns, .fz (.int 84), .fz (.list (cs.map PyData.int)), .fz (.int b), x]) ⟨_, _, rfl, by decide, rfl⟩ ?_ ?_
    · rintro i d ρ hd ⟨b, x, hx, hb, rfl⟩ N hN
      rw [List.getElem?_map] at hd
      cases hz : cs[i]? with
      | none => rw [hz] at hd; cases hd
      | some z =>
        rw [hz] at hd
        cases hd
        simp [bmul hb, modOk]
        exact hN _ ⟨_, _, rfl, by omega, rfl⟩
    · rintro ρ ⟨b, x, hx, hb, rfl⟩
      simp
      refine lc_det geD _ _ (by simp; omega) ?_ ?_
      · intro d hd S1 S0 k1 k0
        simp only [List.mem_map] at hd
        obtain ⟨i, hi, rfl⟩ := hd
        by_cases hz : 1000000000000000000 ≤ i
        · simp [pow18, hz]
          exact k1 _ (if_pos hz) _ (by simp [hx])
        · simp [pow18, hz]
          exact k0 (if_neg hz) _ (by simp [hx])
      · obtain ⟨ks, e, hk⟩ := geD_list cs
        rw [e]
        simp
        rw [← List.map_reverse]
        exact h _ _ _ (by rw [List.length_reverse]; omega) hb
end K84
end
section
set_option Elab.async false
set_option linter.all false
set_option maxRecDepth 100000
set_option maxHeartbeats 4000000
namespace K84
open PySem L2 Ip
/-- cells and blend of a deal -/
def DL (cs : List Int) (b : Int) : Prop := cs.length ≤ 63 ∧ b.natAbs < 2 ^ 31
theorem any_k {cs : List Int} {b n : Int} {P : Da → List Sl → Prop} {Px : Ex → List Sl → Prop} (hd : DL cs b) (h0 : 0 < n) (hn : n < 1073741824)
    (h : ∀ k cs' b', 0 ≤ k → k < n → DL cs' b' → P (.int k) [.dl cs' b', .fz (.int n)]) : f__law_any [.dl cs b, .fz (.int n)] P Px :=
  any_ok hd.1 hd.2 h0 hn fun k cs' b' h1 h2 h3 h4 => h k cs' b' h1 h2 ⟨h3, h4⟩
theorem of_k {cs : List Int} {b : Int} {ds : List Da} {P : Da → List Sl → Prop} {Px : Ex → List Sl → Prop} (hd : DL cs b) (h0 : 0 < ds.length) (hn : ds.length ≤ 100000)
    (h : ∀ d ∈ ds, ∀ cs' b', DL cs' b' → P d [.dl cs' b', .fz (.list ds)]) : f__law_of [.dl cs b, .fz (.list ds)] P Px := by
  unfold f__law_of fnOf
  simp
  refine any_k hd (by omega) (by omega) fun k cs' b' h1 h2 h3 => ?_
  simp
  obtain ⟨m, rfl⟩ : ∃ m : Nat, k = m := ⟨k.toNat, by omega⟩
  have hm : m < ds.length := by omega
  have e : ds[m]? = some ds[m] := List.getElem?_eq_getElem hm
  exact ⟨_, Ip.atI_nat e, h _ (List.getElem_mem hm) _ _ h3⟩
theorem rng_get {lo : Int} {n i : Nat} {d : Da} (h : (rng lo n)[i]? = some d) : i < n ∧ d = .int (lo + i) := by
  unfold rng at h
  rw [List.getElem?_map] at h
  cases e : (List.range n)[i]? with
  | none => rw [e] at h; cases h
  | some j =>
    rw [e] at h
    cases h
    have := (List.getElem?_eq_some_iff.mp e)
    obtain ⟨h1, h2⟩ := this
    rw [List.length_range] at h1
    rw [List.getElem_range] at h2
    exact ⟨h1, by rw [h2]⟩
theorem great_k {cs : List Int} {b : Int} {P : Da → List Sl → Prop} {Px : Ex → List Sl → Prop} (hd : DL cs b)
    (h : ∀ k cs' b', k.natAbs < 10 ^ 30 → DL cs' b' → P (.int k) [.dl cs' b', .fz (.int 30)]) : f__law_great [.dl cs b, .fz (.int 30)] P Px := by
  unfold f__law_great fnOf
  simp [divOk]
  refine for_inv _ _ (fun i ρ => i ≤ 6 ∧ ∃ (cs : List Int) (b f : Int) (x : Sl), DL cs b ∧ 0 ≤ f ∧ f < 100000 ^ i ∧ ρ = [.dl cs b, .fz (.int 30), .fz (.int f), x]) ⟨by decide, cs, b, 0, _, hd, by decide, by decide, rfl⟩ ?_ ?_
  · rintro i d ρ hi ⟨hi6, cs, b, f, x, hd, h0, h1, rfl⟩ N hN
    obtain ⟨hi', rfl⟩ := rng_get hi
    have hf : f.natAbs < 2 ^ 101 := by
      have : (100000 : Int) ^ i ≤ 100000 ^ 6 := by
        have q : (100000 : Nat) ^ i ≤ 100000 ^ 6 := Nat.pow_le_pow_right (by decide) hi6
        have q2 : ((100000 ^ i : Nat) : Int) ≤ ((100000 ^ 6 : Nat) : Int) := Int.ofNat_le.mpr q
        rw [Int.natCast_pow, Int.natCast_pow] at q2
        exact q2
      have h2 : (100000 : Int) ^ 6 < 2 ^ 101 := by decide
      omega
    have e1 : pMul (.int f) (.int 100000) = some (.int (f * 100000)) := mulOk (m := 101) f 100000 hf (by decide) (by decide) (by decide)
    clear hf
    simp [e1]
    refine any_k hd (by decide) (by decide) fun k cs' b' k0 k1 hd' => ?_
    simp
    refine hN _ ⟨by have : i < 6 := hi'; omega, cs', b', _, _, hd', by omega, ?_, rfl⟩
    rw [Int.pow_succ]
    omega
  · rintro ρ ⟨_, cs, b, f, x, hd, h0, h1, rfl⟩
    have h1' : f < 10 ^ 30 := by
      have : (100000 : Int) ^ 6 = 10 ^ 30 := by decide
      have e : (rng 0 6).length = 6 := by decide
      rw [e, this] at h1
      exact h1
    simp
    refine any_k hd (by decide) (by decide) fun k cs' b' k0 k1 hd' => ?_
    simp
    by_cases hk : k = 0
    · simp [hk]
      exact h _ _ _ (by omega) hd'
    · simp [hk]
      exact h _ _ _ (by omega) hd'
theorem ne_nil (ns : List Int) : pNe (.list (ns.map PyData.int)) (.list []) = some (.bool (!decide (ns = []))) := by
  unfold pNe
  rw [if_pos ⟨shaped_ints ns, shaped_ints []⟩, eqv_nil]
theorem erase_map (ns : List Int) (k : Nat) : (ns.map PyData.int).eraseIdx k = (ns.eraseIdx k).map PyData.int := by
  induction ns generalizing k with
  | nil => rfl
  | cons n ns ih =>
    cases k with
    | zero => rfl
    | succ k =>
      rw [List.map_cons, List.eraseIdx_cons_succ, List.eraseIdx_cons_succ, List.map_cons, ih]
theorem erase_perm : ∀ {l : List Int} {k : Nat} (hk : k < l.length), (l[k] :: l.eraseIdx k).Perm l
  | a :: l, 0, _ => .refl _
  | a :: l, k + 1, hk => by
    rw [List.eraseIdx_cons_succ, List.getElem_cons_succ]
    exact (List.Perm.swap a _ _).trans (List.Perm.cons a (erase_perm (by simpa using hk)))
theorem perm_out {l ds f : List Int} {k : Nat} (hk : k < l.length) (h : (f ++ l).Perm ds) : ((f ++ [l[k]]) ++ l.eraseIdx k).Perm ds := by
  refine List.Perm.trans ?_ h
  rw [List.append_assoc]
  refine List.Perm.append_left f ?_
  exact erase_perm hk
theorem mixed_k {cs : List Int} {b : Int} {ns : List Int} {P : Da → List Sl → Prop} {Px : Ex → List Sl → Prop} (hd : DL cs b) (hn : ns.length ≤ 1000)
    (h : ∀ ms : List Int, ms.Perm ns → ∀ cs' b', DL cs' b' → P (.list (ms.map PyData.int)) [.dl cs' b', .fz (.list (ns.map PyData.int))]) : f__law_mixed [.dl cs b, .fz (.list (ns.map PyData.int))] P Px := by
  unfold f__law_mixed fnOf
  simp [and_assoc]
  refine ⟨fun m ρ => ∃ (cs : List Int) (b : Int) (l f : List Int), DL cs b ∧ l.length = m ∧ (f ++ l).Perm ns ∧ ρ = [.dl cs b, .fz (.list (ns.map PyData.int)), .ol (l.map PyData.int), .ol (f.map PyData.int)], ⟨ns.length, cs, b, ns, [], hd, rfl, .refl _, rfl⟩, ?_⟩
  rintro m ρ ⟨cs, b, l, f, hd, rfl, hp, rfl⟩
  have hlen := hp.length_eq
  rw [List.length_append] at hlen
  by_cases hz : l = []
  · subst hz
    have e0 : pNe (.list []) (.list []) = some (.bool false) := ne_nil []
    simp [e0]
    rw [List.append_nil] at hp
    exact h f hp _ _ hd
  · have hl : 0 < l.length := List.length_pos_iff.mpr hz
    simp [ne_nil, hz]
    refine any_k hd (by omega) (by omega) fun k cs' b' k0 k1 hd' => ?_
    obtain ⟨j, rfl⟩ : ∃ j : Nat, k = j := ⟨k.toNat, by omega⟩
    have hj : j < l.length := by omega
    have e1 : ixN l.length (j : Int) = some j := by unfold ixN; rw [if_pos (by omega), if_pos (by omega)]; simp
    simp
    refine ⟨j, e1, by omega, .int l[j], ⟨l[j], List.getElem?_eq_getElem hj, rfl⟩, by omega, l.length - 1, by omega, cs', b', hd', l.eraseIdx j, by rw [List.length_eraseIdx, if_pos hj], f ++ [l[j]], perm_out hj hp, ⟨rfl, rfl⟩, erase_map _ _, ?_⟩
    rw [List.map_append]; rfl
end K84
end
section
set_option Elab.async false
set_option linter.all false
set_option maxRecDepth 100000
set_option maxHeartbeats 4000000
namespace K84
open PySem L2 Ip
def prodI : List Int → Int
  | [] => 1
  | x :: xs => x * prodI xs
theorem prod_pos : ∀ {l : List Int}, (∀ x ∈ l, 1 ≤ x) → 1 ≤ prodI l
  | [], _ => by decide
  | x :: xs, h => by
    have h1 := h x List.mem_cons_self
    have h2 := prod_pos (l := xs) fun y hy => h y (List.mem_cons_of_mem _ hy)
    show 1 ≤ x * prodI xs
    calc (1 : Int) = 1 * 1 := rfl
      _ ≤ x * prodI xs := Int.mul_le_mul h1 h2 (by decide) (by omega)
theorem prod_set : ∀ {l : List Int} {k : Nat} {z : Int}, (∀ x ∈ l, 1 ≤ x) → 1 ≤ z → prodI (l.set k z) ≤ prodI l * z
  | [], k, z, _, hz => by
    show (1 : Int) ≤ 1 * z
    omega
  | x :: xs, 0, z, h, hz => by
    have h1 := h x List.mem_cons_self
    have h2 := prod_pos (l := xs) fun y hy => h y (List.mem_cons_of_mem _ hy)
    show z * prodI xs ≤ x * prodI xs * z
    have : 0 ≤ prodI xs * z := Int.mul_nonneg (by omega) (by omega)
    calc z * prodI xs = 1 * (prodI xs * z) := by rw [Int.one_mul, Int.mul_comm]
      _ ≤ x * (prodI xs * z) := Int.mul_le_mul_of_nonneg_right h1 this
      _ = x * prodI xs * z := by rw [Int.mul_assoc]
  | x :: xs, k + 1, z, h, hz => by
    have h1 := h x List.mem_cons_self
    have ih := prod_set (l := xs) (k := k) (z := z) (fun y hy => h y (List.mem_cons_of_mem _ hy)) hz
    show x * prodI (xs.set k z) ≤ x * prodI xs * z
    rw [Int.mul_assoc]
    exact Int.mul_le_mul_of_nonneg_left ih (by omega)
theorem set_map (ns : List Int) (k : Nat) (z : Int) : (ns.map PyData.int).set k (.int z) = (ns.set k z).map PyData.int := by rw [List.map_set]
theorem rep1 (n : Nat) : (List.replicate n [PyData.int 1]).flatten = (List.replicate n (1 : Int)).map PyData.int := by
  induction n with
  | zero => rfl
  | succ n ih => rw [List.replicate_succ, List.flatten_cons, ih]; rfl
theorem rng_ints (lo : Int) (n : Nat) : rng lo n = ((List.range n).map fun i : Nat => lo + (i : Int)).map PyData.int := by unfold rng; rw [List.map_map]; rfl
theorem sizes_k {cs : List Int} {b : Int} {n : Nat} {P : Da → List Sl → Prop} {Px : Ex → List Sl → Prop} (hd : DL cs b) (hn : n ≤ 10)
    (h : ∀ fs : List Int, fs.length = n → (∀ x ∈ fs, 1 ≤ x) → prodI fs ≤ 12 → ∀ cs' b', DL cs' b' → P (.list (fs.map PyData.int)) [.dl cs' b', .fz (.int n), .fz (.int 12)]) : f__law_sizes [.dl cs b, .fz (.int n), .fz (.int 12)] P Px := by
  unfold f__law_sizes fnOf
  have e0 : pRepL (.list [.int 1]) (.int n) = some ((List.replicate n (1 : Int)).map PyData.int) := by
    unfold pRepL
    simp only
    rw [if_pos ⟨by omega, by simp; omega, by omega⟩]
    rw [Int.toNat_natCast, rep1]
  simp [and_assoc, e0]
  refine ⟨by omega, ?_⟩
  rw [rng_ints]
  refine mixed_k hd (by simp; omega) fun ms hp cs' b' hd' => ?_
  have hlen := hp.length_eq
  simp at hlen
  simp
  refine for_inv _ _ (fun i ρ => ∃ (cs : List Int) (b : Int) (fs : List Int) (left : Int) (x y : Sl), DL cs b ∧ fs.length = n ∧ (∀ z ∈ fs, 1 ≤ z) ∧ 1 ≤ left ∧ prodI fs * left ≤ 12 ∧ ρ = [.dl cs b, .fz (.int n), .fz (.int 12), .ol (fs.map PyData.int), .fz (.int left), x, y])
    ⟨cs', b', List.replicate n 1, 12, .un, .un, hd', by simp, by simp, by decide, ?_, by rw [List.map_replicate]⟩ ?_ ?_
  · have : ∀ m : Nat, prodI (List.replicate m 1) = 1 := fun m => by
      induction m with
      | zero => rfl
      | succ m ih => rw [List.replicate_succ]; show 1 * prodI _ = 1; rw [ih]; rfl
    rw [this]; decide
  · rintro i d ρ hi ⟨cs, b, fs, left, x, y, hd, h1, h2, h3, h4, rfl⟩ N hN
    rw [List.getElem?_map] at hi
    cases hz : ms[i]? with
    | none => rw [hz] at hi; cases hi
    | some at_ =>
      rw [hz] at hi
      cases hi
      have hm := hp.mem_iff.mp (List.mem_of_getElem? hz)
      simp at hm
      obtain ⟨j, hj, rfl⟩ := hm
      have hl12 : left ≤ 12 := by
        have hp1 := prod_pos h2
        calc left = 1 * left := by rw [Int.one_mul]
          _ ≤ prodI fs * left := Int.mul_le_mul_of_nonneg_right hp1 (by omega)
          _ ≤ 12 := h4
      have eg : (if left < 12 then left else 12 : Int) = left := by
        by_cases z : left < 12
        · rw [if_pos z]
        · rw [if_neg z]; omega
      simp [pInt0, eg]
      refine any_k hd (by omega) (by omega) fun k1 cs1 b1 a1 a2 hd1 => ?_
      have eg2 : (1 : Int) ≤ (if 2 < left then 2 else left) ∧ (if 2 < left then 2 else left) ≤ left := by
        by_cases z : 2 < left
        · rw [if_pos z]; omega
        · rw [if_neg z]; omega
      simp [pInt0]
      refine any_k hd1 (by omega) (by omega) fun k2 cs2 b2 c1 c2 hd2 => ?_
      simp
      refine of_k hd2 (by simp) (by simp) fun d hdm cs3 b3 hd3 => ?_
      obtain ⟨v, rfl, v1, v2⟩ : ∃ v : Int, d = .int v ∧ 1 ≤ v ∧ v ≤ left := by
        simp at hdm
        rcases hdm with rfl | rfl | rfl
        · exact ⟨_, rfl, h3, Int.le_refl _⟩
        · exact ⟨1 + k1, rfl, by omega, by omega⟩
        · exact ⟨1 + k2, rfl, by omega, by omega⟩
      have e1 : ixN fs.length (j : Int) = some j := by unfold ixN; rw [if_pos (by omega), if_pos (by omega)]; simp
      have hj' : j < fs.length := by omega
      have e2 : atI ((fs.set j v).map PyData.int) (j : Int) = some (.int v) := Ip.atI_nat (by rw [List.getElem?_map, List.getElem?_set_self hj']; rfl)
      rw [← set_map] at e2
      simp [e1]
      refine ⟨_, e2, ?_⟩
      have e3 : pDiv (.int left) (.int v) = some (.int (left / v)) := divOk _ _ (by omega) (by omega)
      refine ⟨_, e3, hN _ ⟨cs3, b3, fs.set j v, left / v, _, _, hd3, by rw [List.length_set]; exact h1, ?_, ?_, ?_, by rw [set_map]⟩⟩
      · intro z hz
        rcases List.mem_or_eq_of_mem_set hz with hz | rfl
        · exact h2 z hz
        · exact v1
      · exact Int.le_ediv_of_mul_le (by omega) (by omega)
      · have hp1 := prod_pos h2
        have hv : v * (left / v) ≤ left := Int.mul_ediv_self_le (by omega)
        have hq : 0 ≤ left / v := Int.ediv_nonneg (by omega) (by omega)
        calc prodI (fs.set j v) * (left / v) ≤ prodI fs * v * (left / v) := Int.mul_le_mul_of_nonneg_right (prod_set h2 v1) hq
          _ = prodI fs * (v * (left / v)) := Int.mul_assoc _ _ _
          _ ≤ prodI fs * left := Int.mul_le_mul_of_nonneg_left hv (by omega)
          _ ≤ 12 := h4
  · rintro ρ ⟨cs, b, fs, left, x, y, hd, h1, h2, h3, h4, rfl⟩
    simp
    refine h fs h1 h2 ?_ _ _ hd
    have := prod_pos h2
    calc prodI fs = prodI fs * 1 := by rw [Int.mul_one]
      _ ≤ prodI fs * left := Int.mul_le_mul_of_nonneg_left h3 (by omega)
      _ ≤ 12 := h4
end K84
end
section
set_option Elab.async false
set_option linter.all false
set_option maxRecDepth 100000
set_option maxHeartbeats 4000000
namespace K84
open PySem L2 Ip
structure RowOk (p : Int) (size : Nat) (ns : List Int) : Prop where
  len : ns.length ≤ size
  big : ∀ x ∈ ns, x.natAbs < 10 ^ 30
  fld : p ≠ 0 → ∀ x ∈ ns, 0 ≤ x ∧ x < p
theorem ints_of : ∀ {ys : List Da} {Y : Int → Prop}, (∀ (i : Nat) y, ys[i]? = some y → ∃ k : Int, y = .int k ∧ Y k) → ∃ ns : List Int, ys = ns.map PyData.int ∧ ∀ x ∈ ns, Y x
  | [], Y, _ => ⟨[], rfl, fun x hx => by cases hx⟩
  | y :: ys, Y, h => by
    obtain ⟨k, rfl, hk⟩ := h 0 y rfl
    obtain ⟨ns, rfl, hn⟩ := ints_of (ys := ys) (Y := Y) fun i y hy => h (i + 1) y hy
    refine ⟨k :: ns, rfl, fun x hx => ?_⟩
    rcases List.mem_cons.mp hx with rfl | hx
    · exact hk
    · exact hn x hx
theorem row_great {cs : List Int} {b : Int} {size : Nat} {P : Da → List Sl → Prop} {Px : Ex → List Sl → Prop} (hd : DL cs b) (hs : size ≤ 12)
    (h : ∀ ns : List Int, RowOk 0 size ns → ∀ cs' b', DL cs' b' → P (.tuple (ns.map PyData.int)) [.dl cs' b', .fz (.int 0), .fz (.int size), .fz (.int 30)]) : f__law_row [.dl cs b, .fz (.int 0), .fz (.int size), .fz (.int 30)] P Px := by
  unfold f__law_row fnOf
  simp [and_assoc]
  refine ⟨by omega, ?_⟩
  refine lc_inv (fun ρ => ∃ (cs : List Int) (b : Int), DL cs b ∧ ρ = [.dl cs b, .fz (.int 0), .fz (.int size), .fz (.int 30), .un, .un, .un]) _ _ _ (fun i y => ∃ k : Int, y = .int k ∧ k.natAbs < 10 ^ 30) ⟨cs, b, hd, rfl⟩ ?_ ?_ ?_
  · simp [rng]; omega
  · rintro i d ρ hi ⟨cs, b, hd, rfl⟩ R hR
    simp
    refine great_k hd fun k cs' b' hk hd' => ?_
    simp
    exact hR _ _ ⟨k, rfl, hk⟩ ⟨cs', b', hd', by simp⟩
  · rintro ys ρ ⟨cs, b, hd, rfl⟩ hl hY
    obtain ⟨ns, rfl, hn⟩ := ints_of hY
    simp [rng] at hl
    simp
    refine ⟨ns, by simp, by omega, ?_⟩
    refine h _ ⟨?_, fun x hx => hn x (mem_srtd.mp hx), fun z => absurd rfl z⟩ _ _ hd
    exact Nat.le_trans (srtd_len ns) (by omega)
theorem intsD_map : ∀ ns : List Int, intsD (ns.map PyData.int) = some ns
  | [] => rfl
  | n :: ns => by
    show (intsD (ns.map PyData.int)).map (n :: ·) = _
    rw [intsD_map ns]; rfl
theorem row_small {cs : List Int} {b p digits : Int} {size : Nat} {P : Da → List Sl → Prop} {Px : Ex → List Sl → Prop} (hd : DL cs b) (hs : size ≤ 12) (hp0 : 0 ≤ p) (hp1 : p ≤ 101) (hp : ¬(p = 0 ∧ 1 < digits))
    (h : ∀ ns : List Int, RowOk p size ns → ∀ cs' b', DL cs' b' → P (.tuple (ns.map PyData.int)) [.dl cs' b', .fz (.int p), .fz (.int size), .fz (.int digits)]) : f__law_row [.dl cs b, .fz (.int p), .fz (.int size), .fz (.int digits)] P Px := by
  have main : ∀ (ls : List Int) (m : Nat) (e : Ed), (∀ x ∈ ls, x.natAbs < 10 ^ 30 ∧ (p ≠ 0 → 0 ≤ x ∧ x < p)) → ls.length ≤ 1000 → m ≤ ls.length ∧ m ≤ size →
      (∀ (cs : List Int) (b : Int) (l f : List Int) (x : Sl), DL cs b → RowOk p size (srt f) → e.nx [.dl cs b, .fz (.int p), .fz (.int size), .fz (.int digits), .ol (l.map PyData.int), .ol (f.map PyData.int), x]) →
      forL (gN 6) (sApp 5 (tPopAt 4 (tE (tCal f__law_any [0] 2 (tA (tLu 0) (tA (tE (tCb (f1 pLen) (tA (tLu 4) tA0))) tA0)))))) e
        (rng 0 m) [.dl cs b, .fz (.int p), .fz (.int size), .fz (.int digits), .ol (ls.map PyData.int), .ol [], .un] := by
    intro ls m e hls hl hm he
    refine for_inv _ _ (fun i ρ => ∃ (cs : List Int) (b : Int) (l f : List Int) (x : Sl), DL cs b ∧ (f ++ l).Perm ls ∧ f.length = i ∧ ρ = [.dl cs b, .fz (.int p), .fz (.int size), .fz (.int digits), .ol (l.map PyData.int), .ol (f.map PyData.int), x])
      ⟨cs, b, ls, [], .un, hd, .refl _, rfl, rfl⟩ ?_ ?_
    · rintro i d ρ hi ⟨cs, b, l, f, x, hd, hp, hf, rfl⟩ N hN
      obtain ⟨hi', rfl⟩ := rng_get hi
      have hlen := hp.length_eq
      rw [List.length_append] at hlen
      simp
      refine any_k hd (by omega) (by omega) fun k cs' b' k0 k1 hd' => ?_
      obtain ⟨j, rfl⟩ : ∃ j : Nat, k = j := ⟨k.toNat, by omega⟩
      have hj : j < l.length := by omega
      have e1 : ixN l.length (j : Int) = some j := by unfold ixN; rw [if_pos (by omega), if_pos (by omega)]; simp
      simp [e1]
      refine ⟨by omega, .int l[j], ⟨l[j], List.getElem?_eq_getElem hj, rfl⟩, by omega, ?_⟩
      refine hN _ ⟨cs', b', l.eraseIdx j, f ++ [l[j]], .fz (.int (i : Int)), hd', perm_out hj hp, by simp [hf], ?_⟩
      rw [erase_map, List.map_append]; simp
    · rintro ρ ⟨cs, b, l, f, x, hd, hp, hf, rfl⟩
      simp [rng] at hf
      refine he _ _ _ _ _ hd ⟨?_, fun x hx => ?_, fun z x hx => ?_⟩
      · rw [(srt_perm f).length_eq]; omega
      · exact (hls x (hp.mem_iff.mp (List.mem_append_left _ ((srt_perm f).mem_iff.mp hx)))).1
      · exact (hls x (hp.mem_iff.mp (List.mem_append_left _ ((srt_perm f).mem_iff.mp hx)))).2 z
  unfold f__law_row fnOf
  by_cases hz : p = 0
  · subst hz
    have hdg : ¬(1 < digits) := fun z => hp ⟨rfl, z⟩
    simp [and_assoc, hdg, pInt0]
    refine ⟨by split <;> omega, by split <;> omega, ?_⟩
    rw [rng_ints (-9) 19]
    refine main _ _ _ (by decide) (by decide) ⟨by simp; split <;> omega, by split <;> omega⟩ fun cs b l f x hd hr => ?_
    simp [pSorted, intsD_map]
    exact h _ hr _ _ hd
  · simp [and_assoc, hz, pInt0]
    refine ⟨by omega, by omega, by split <;> omega, by split <;> omega, ?_⟩
    rw [rng_ints 0 p.toNat]
    refine main ((List.range p.toNat).map fun i : Nat => (0 : Int) + (i : Int)) _ _ (fun x hx => by
      rw [List.mem_map] at hx
      simp only [List.mem_range] at hx
      obtain ⟨a, ha, rfl⟩ := hx
      exact ⟨by omega, fun _ => by omega⟩) (by rw [List.length_map, List.length_range]; omega) ⟨by simp only [List.length_map, List.length_range]; split <;> omega, by split <;> omega⟩ fun cs b l f x hd hr => ?_
    simp [pSorted, intsD_map]
    exact h _ hr _ _ hd
end K84
end
section
set_option Elab.async false
set_option linter.all false
set_option maxRecDepth 100000
set_option maxHeartbeats 4000000
namespace K84
open PySem L2 Ip
/-! ### trees -/
def LeafI (d : Da) : Prop := ∃ k : Int, d = .tuple [.str "is", .int k] ∧ 0 ≤ k ∧ k < 10 ^ 30
def LeafO (N : Int) (d : Da) : Prop := ∃ i : Int, d = .tuple [.str "of", .int i] ∧ 0 ≤ i ∧ i < N
def SumD (N : Int) : Nat → Da → Prop
  | 0, _ => False
  | n + 1, d => LeafI d ∨ LeafO N d ∨ (∃ e, SumD N n e ∧ d = .tuple [.str "minus", e]) ∨
      (∃ es : List Da, (∀ e ∈ es, SumD N n e) ∧ 2 ≤ es.length ∧ es.length ≤ 10 ∧ d = .tuple [.str "add", .tuple es]) ∨
      (∃ os is : List Da, (∀ e ∈ os, LeafO N e) ∧ (∀ e ∈ is, LeafI e) ∧ os.length ≤ 4 ∧ 2 ≤ os.length + is.length ∧ os.length + is.length ≤ 10 ∧ d = .tuple [.str "times", .tuple (os ++ is)])
/-- N lists, sums of at most m steps, at most n steps, at most q rows one in another -/
def CondD (N : Int) (m : Nat) : Nat → Nat → Da → Prop
  | 0, _, _ => False
  | n + 1, q, d => (∃ (w : Str) (es : List Da), (w = "unlike" ∨ w = "like") ∧ (∀ e ∈ es, SumD N m e) ∧ 2 ≤ es.length ∧ es.length ≤ 5 ∧ d = .tuple [.str w, .tuple es]) ∨
      (∃ e, CondD N m n q e ∧ d = .tuple [.str "not", e]) ∨
      (∃ (w : Str) (es : List Da) (r : Nat), (w = "all" ∨ w = "some") ∧ (∀ e ∈ es, CondD N m n r e) ∧ 2 ≤ es.length ∧ es.length ≤ 10 ∧ d = .tuple [.str w, .tuple es] ∧ r < q)
theorem SumD.mono {N : Int} : ∀ {n m : Nat} {d : Da}, n ≤ m → SumD N n d → SumD N m d
  | 0, _, _, _, h => h.elim
  | n + 1, 0, _, hm, _ => by omega
  | n + 1, m + 1, d, hm, h => by
    rcases h with h | h | ⟨e, he, rfl⟩ | ⟨es, he, h1, h2, rfl⟩ | h
    · exact .inl h
    · exact .inr (.inl h)
    · exact .inr (.inr (.inl ⟨e, he.mono (by omega), rfl⟩))
    · exact .inr (.inr (.inr (.inl ⟨es, fun e h => (he e h).mono (by omega), h1, h2, rfl⟩)))
    · exact .inr (.inr (.inr (.inr h)))
theorem CondD.mono {N : Int} {k : Nat} : ∀ {n m q r : Nat} {d : Da}, n ≤ m → q ≤ r → CondD N k n q d → CondD N k m r d
  | 0, _, _, _, _, _, _, h => h.elim
  | n + 1, 0, _, _, _, hm, _, _ => by omega
  | n + 1, m + 1, q, r, d, hm, hq, h => by
    rcases h with h | ⟨e, he, rfl⟩ | ⟨w, es, u, hw, he, h1, h2, rfl, hu⟩
    · exact .inl h
    · exact .inr (.inl ⟨e, he.mono (by omega) hq, rfl⟩)
    · exact .inr (.inr ⟨w, es, u, hw, fun e h => (he e h).mono (by omega) (Nat.le_refl _), h1, h2, rfl, by omega⟩)
theorem leaf_k {cs : List Int} {b N : Int} {P : Da → List Sl → Prop} {Px : Ex → List Sl → Prop} (hd : DL cs b) (h0 : 0 < N) (hn : N ≤ 10)
    (h : ∀ d, LeafI d ∨ LeafO N d → ∀ cs' b', DL cs' b' → P d [.dl cs' b', .fz (.int N)]) : f__law_leaf [.dl cs b, .fz (.int N)] P Px := by
  unfold f__law_leaf fnOf
  simp
  refine any_k hd (by omega) (by omega) fun k1 cs1 b1 a1 a2 hd1 => ?_
  simp
  refine great_k hd1 fun g cs2 b2 hg hd2 => ?_
  simp
  refine any_k hd2 (by omega) (by omega) fun k2 cs3 b3 c1 c2 hd3 => ?_
  simp
  refine of_k hd3 (by simp) (by simp) fun d hdm cs4 b4 hd4 => ?_
  simp at hdm ⊢
  refine h d ?_ _ _ hd4
  rcases hdm with rfl | rfl | rfl | rfl
  · exact .inr ⟨_, rfl, a1, a2⟩
  · exact .inr ⟨_, rfl, by omega, by omega⟩
  · refine .inl ⟨_, rfl, ?_, ?_⟩ <;> split <;> omega
  · exact .inl ⟨_, rfl, c1, by omega⟩
end K84
end
section
set_option Elab.async false
set_option linter.all false
set_option maxRecDepth 100000
set_option maxHeartbeats 4000000
namespace K84
open PySem L2 Ip
theorem list_of {α : Type} {ys : List α} {Y : α → Prop} (h : ∀ (i : Nat) y, ys[i]? = some y → Y y) : ∀ y ∈ ys, Y y := fun y hy => by
  obtain ⟨i, hi⟩ := List.mem_iff_getElem?.mp hy
  exact h i y hi
theorem rng_len (lo : Int) (n : Nat) : (rng lo n).length = n := by simp [rng]
theorem sum_zero {N : Int} (h0 : 0 < N) (hn : N ≤ 10) : ∀ (n : Nat), 0 < n → ∀ (cs : List Int) (b : Int) (P : Da → List Sl → Prop) (Px : Ex → List Sl → Prop), DL cs b →
    (∀ d, SumD N 1 d → ∀ cs' b', DL cs' b' → P d [.dl cs' b', .fz (.int N), .fz (.int 0), .fz (.int 4)]) → f__law_sum n [.dl cs b, .fz (.int N), .fz (.int 0), .fz (.int 4)] P Px := by
    intro n hn' cs b P Px hd h
    obtain ⟨n, rfl⟩ : ∃ m, n = m + 1 := ⟨n - 1, by omega⟩
    show fnOf 4 4 _ _ _ _
    unfold fnOf
    simp
    refine any_k hd (by omega) (by omega) fun k cs' b' k0 k1 hd' => ?_
    have hk : k = 0 := by omega
    subst hk
    simp
    refine leaf_k hd' h0 hn fun d hl cs2 b2 hd2 => ?_
    simp
    exact h d (hl.elim .inl fun z => .inr (.inl z)) _ _ hd2
theorem sum_k {N : Int} (h0 : 0 < N) (hn : N ≤ 10) : ∀ (deep n : Nat), deep < n → ∀ (cs : List Int) (b : Int) (P : Da → List Sl → Prop) (Px : Ex → List Sl → Prop), DL cs b →
    (∀ d, SumD N (8 * deep + 1) d → ∀ cs' b', DL cs' b' → P d [.dl cs' b', .fz (.int N), .fz (.int deep), .fz (.int 4)]) → f__law_sum n [.dl cs b, .fz (.int N), .fz (.int deep), .fz (.int 4)] P Px := by
  intro deep
  induction deep with
  | zero =>
    exact sum_zero h0 hn
  | succ deep ih =>
    intro n hn' cs b P Px hd h
    obtain ⟨n, rfl⟩ : ∃ m, n = m + 1 := ⟨n - 1, by omega⟩
    have hdp : (0 : Int) < (deep : Int) + 1 := by omega
    have hds : (deep : Int) + 1 - 1 = (deep : Int) := by omega
    show fnOf 4 4 _ _ _ _
    unfold fnOf
    simp [hdp]
    refine any_k hd (by omega) (by omega) fun k cs1 b1 k0 k1 hd1 => ?_
    simp
    have hk : k = 0 ∨ k = 1 ∨ k = 2 ∨ k = 3 := by omega
    rcases hk with rfl | rfl | rfl | rfl
    · simp
      refine leaf_k hd1 h0 hn fun d hl cs2 b2 hd2 => ?_
      simp
      exact h d (hl.elim .inl fun z => .inr (.inl z)) _ _ hd2
    · simp [hds]
      refine ih n (by omega) _ _ _ _ hd1 fun d hsd cs2 b2 hd2 => ?_
      simp
      refine of_k hd2 (by simp) (by simp) fun v hv cs3 b3 hd3 => ?_
      obtain ⟨j, rfl, hj⟩ : ∃ j : Nat, v = .int j ∧ j ≤ 8 := by
        simp at hv
        rcases hv with rfl | rfl
        · exact ⟨1, rfl, by omega⟩
        · exact ⟨8, rfl, by omega⟩
      simp
      refine ⟨by omega, ?_⟩
      refine for_inv _ _ (fun i ρ => ∃ (cs : List Int) (b : Int) (f : Da) (x : Sl), DL cs b ∧ SumD N (8 * deep + 1 + i) f ∧ ρ = [.dl cs b, .fz (.int N), .fz (.int ((deep : Int) + 1)), .fz (.int 4), .fz (.int 1), .fz f, x, .un]) ⟨cs3, b3, d, _, hd3, hsd, rfl⟩ ?_ ?_
      · rintro i e ρ hi ⟨cs, b, f, x, hd, hf, rfl⟩ M hM
        simp
        exact hM _ ⟨cs, b, _, _, hd, .inr (.inr (.inl ⟨f, hf, rfl⟩)), rfl⟩
      · rintro ρ ⟨cs, b, f, x, hd, hf, rfl⟩
        simp
        refine h f (hf.mono ?_) _ _ hd
        rw [rng_len]; omega
    · simp [hds]
      refine of_k hd1 (by simp) (by simp) fun v hv cs3 b3 hd3 => ?_
      obtain ⟨j, rfl, hj2, hj⟩ : ∃ j : Nat, v = .int j ∧ 2 ≤ j ∧ j ≤ 10 := by
        simp at hv
        rcases hv with rfl | rfl
        · exact ⟨2, rfl, by omega, by omega⟩
        · exact ⟨10, rfl, by omega, by omega⟩
      simp
      refine ⟨by omega, ?_⟩
      refine lc_inv (fun ρ => ∃ (cs : List Int) (b : Int), DL cs b ∧ ρ = [.dl cs b, .fz (.int N), .fz (.int ((deep : Int) + 1)), .fz (.int 4), .fz (.int 2), .un, .un, .un]) _ _ _ (fun _ y => SumD N (8 * deep + 1) y) ⟨cs3, b3, hd3, rfl⟩ ?_ ?_ ?_
      · rw [rng_len]; simp; omega
      · rintro i e ρ hi ⟨cs, b, hd, rfl⟩ R hR
        obtain ⟨hi', rfl⟩ := rng_get hi
        by_cases hz : 0 < i
        · have hz' : (0 : Int) < (0 : Int) + (i : Int) := by omega
          simp [hz]
          refine sum_zero h0 hn n (by omega) _ _ _ _ hd fun d hsd cs' b' hd' => ?_
          simp
          exact hR _ _ (hsd.mono (by omega)) ⟨cs', b', hd', by simp⟩
        · have hi0 : i = 0 := by omega
          subst hi0
          simp [hds]
          refine ih n (by omega) _ _ _ _ hd fun d hsd cs' b' hd' => ?_
          simp
          exact hR _ _ hsd ⟨cs', b', hd', by simp⟩
      · rintro ys ρ ⟨cs, b, hd, rfl⟩ hl hY
        rw [rng_len] at hl
        simp
        refine h _ (.inr (.inr (.inr (.inl ⟨ys, fun e he => (list_of hY e he).mono (by omega), by omega, by omega, rfl⟩)))) _ _ hd
    · simp
      refine lc_inv (fun ρ => ∃ (cs : List Int) (b : Int), DL cs b ∧ ρ = [.dl cs b, .fz (.int N), .fz (.int ((deep : Int) + 1)), .fz (.int 4), .fz (.int 3), .un, .un, .un]) _ _ _ (fun _ y => LeafO N y) ⟨cs1, b1, hd1, rfl⟩ ?_ ?_ ?_
      · rw [rng_len]; decide
      · rintro i e ρ hi ⟨cs, b, hd, rfl⟩ R hR
        simp
        refine any_k hd (by omega) (by omega) fun k cs' b' k0 k1 hd' => ?_
        simp
        exact hR _ _ ⟨k, rfl, k0, k1⟩ ⟨cs', b', hd', by simp⟩
      · rintro os ρ ⟨cs, b, hd, rfl⟩ hlo hO
        rw [rng_len] at hlo
        have hlo : os.length = 4 := hlo
        simp
        refine of_k hd (by simp) (by simp) fun v hv cs3 b3 hd3 => ?_
        obtain ⟨j, rfl, hj2, hj⟩ : ∃ j : Nat, v = .int j ∧ 2 ≤ j ∧ j ≤ 6 := by
          simp at hv
          rcases hv with rfl | rfl
          · exact ⟨2, rfl, by omega, by omega⟩
          · exact ⟨6, rfl, by omega, by omega⟩
        simp
        refine ⟨by omega, ?_⟩
        refine lc_inv (fun ρ => ∃ (cs : List Int) (b : Int), DL cs b ∧ ρ = [.dl cs b, .fz (.int N), .fz (.int ((deep : Int) + 1)), .fz (.int 4), .fz (.int 3), .un, .un, .un]) _ _ _ (fun _ y => LeafI y) ⟨cs3, b3, hd3, rfl⟩ ?_ ?_ ?_
        · rw [rng_len]; simp; omega
        · rintro i e ρ hi ⟨cs, b, hd, rfl⟩ R hR
          simp
          refine any_k hd (by omega) (by omega) fun k cs' b' k0 k1 hd' => ?_
          simp
          exact hR _ _ ⟨k, rfl, k0, by omega⟩ ⟨cs', b', hd', by simp⟩
        · rintro is ρ ⟨cs, b, hd, rfl⟩ hli hI
          rw [rng_len] at hli
          have e1 : pAdd (.list os) (.list is) = some (.list (os ++ is)) := by rw [v_addL, if_pos (by omega)]
          simp [e1]
          exact h _ (.inr (.inr (.inr (.inr ⟨os, is, list_of hO, list_of hI, by omega, by omega, by omega, rfl⟩)))) _ _ hd
end K84
end
section
set_option Elab.async false
set_option linter.all false
set_option maxRecDepth 100000
set_option maxHeartbeats 4000000
namespace K84
open PySem L2 Ip
theorem cond_zero {N : Int} (h0 : 0 < N) (hn : N ≤ 10) : ∀ (n : Nat), 0 < n → ∀ (cs : List Int) (b : Int) (P : Da → List Sl → Prop) (Px : Ex → List Sl → Prop), DL cs b →
    (∀ d, CondD N 17 1 0 d → ∀ cs' b', DL cs' b' → P d [.dl cs' b', .fz (.int N), .fz (.int 0)]) → f__law_condition n [.dl cs b, .fz (.int N), .fz (.int 0)] P Px := by
  intro n hn' cs b P Px hd h
  obtain ⟨n, rfl⟩ : ∃ m, n = m + 1 := ⟨n - 1, by omega⟩
  show fnOf 3 4 _ _ _ _
  unfold fnOf
  simp
  refine any_k hd (by omega) (by omega) fun k cs1 b1 k0 k1 hd1 => ?_
  obtain ⟨w, hw, ew⟩ : ∃ w : Str, (w = "unlike" ∨ w = "like") ∧ atI [PyData.str "unlike", PyData.str "like"] k = some (.str w) := by
    have hk : k = 0 ∨ k = 1 := by omega
    rcases hk with rfl | rfl
    · exact ⟨_, .inl rfl, rfl⟩
    · exact ⟨_, .inr rfl, rfl⟩
  have hk2 : k < 2 := by omega
  simp [hk2, ew]
  refine of_k hd1 (by simp) (by simp) fun v hv cs3 b3 hd3 => ?_
  obtain ⟨j, rfl, hj2, hj⟩ : ∃ j : Nat, v = .int j ∧ 2 ≤ j ∧ j ≤ 5 := by
    simp at hv
    rcases hv with rfl | rfl | rfl
    · exact ⟨2, rfl, by omega, by omega⟩
    · exact ⟨3, rfl, by omega, by omega⟩
    · exact ⟨5, rfl, by omega, by omega⟩
  simp
  refine ⟨by omega, ?_⟩
  refine lc_inv (fun ρ => ∃ (cs : List Int) (b : Int), DL cs b ∧ ρ = [.dl cs b, .fz (.int N), .fz (.int 0), .fz (.int k), .un, .un, .un]) _ _ _ (fun _ y => SumD N 17 y) ⟨cs3, b3, hd3, rfl⟩ ?_ ?_ ?_
  · rw [rng_len]; simp; omega
  · rintro i e ρ hi ⟨cs, b, hd, rfl⟩ R hR
    simp
    refine sum_k h0 hn 2 8 (by omega) _ _ _ _ hd fun d hsd cs' b' hd' => ?_
    simp
    exact hR _ _ hsd ⟨cs', b', hd', by simp⟩
  · rintro ys ρ ⟨cs, b, hd, rfl⟩ hl hY
    rw [rng_len] at hl
    simp
    exact h _ (.inl ⟨w, ys, hw, list_of hY, by omega, by omega, rfl⟩) _ _ hd
theorem cond_k {N : Int} (h0 : 0 < N) (hn : N ≤ 10) : ∀ (deep n : Nat), deep < n → ∀ (cs : List Int) (b : Int) (P : Da → List Sl → Prop) (Px : Ex → List Sl → Prop), DL cs b →
    (∀ d, CondD N 17 (8 * deep + 1) deep d → ∀ cs' b', DL cs' b' → P d [.dl cs' b', .fz (.int N), .fz (.int deep)]) → f__law_condition n [.dl cs b, .fz (.int N), .fz (.int deep)] P Px := by
  intro deep
  induction deep with
  | zero => exact fun n h cs b P Px hd hp => cond_zero h0 hn n h cs b P Px hd hp
  | succ deep ih =>
    intro n hn' cs b P Px hd h
    obtain ⟨n, rfl⟩ : ∃ m, n = m + 1 := ⟨n - 1, by omega⟩
    have hdp : (0 : Int) < (deep : Int) + 1 := by omega
    have hds : (deep : Int) + 1 - 1 = (deep : Int) := by omega
    show fnOf 3 4 _ _ _ _
    unfold fnOf
    simp [hdp]
    refine any_k hd (by omega) (by omega) fun k cs1 b1 k0 k1 hd1 => ?_
    simp
    have hk : k < 2 ∨ k = 2 ∨ 2 < k := by omega
    rcases hk with hk | rfl | hk
    · obtain ⟨w, hw, ew⟩ : ∃ w : Str, (w = "unlike" ∨ w = "like") ∧ atI [PyData.str "unlike", PyData.str "like"] k = some (.str w) := by
        have hk' : k = 0 ∨ k = 1 := by omega
        rcases hk' with rfl | rfl
        · exact ⟨_, .inl rfl, rfl⟩
        · exact ⟨_, .inr rfl, rfl⟩
      have hk9 : ¬ 2 ≤ k := by omega
      simp [hk, hk9, ew]
      refine of_k hd1 (by simp) (by simp) fun v hv cs3 b3 hd3 => ?_
      obtain ⟨j, rfl, hj2, hj⟩ : ∃ j : Nat, v = .int j ∧ 2 ≤ j ∧ j ≤ 5 := by
        simp at hv
        rcases hv with rfl | rfl | rfl
        · exact ⟨2, rfl, by omega, by omega⟩
        · exact ⟨3, rfl, by omega, by omega⟩
        · exact ⟨5, rfl, by omega, by omega⟩
      simp
      refine ⟨by omega, ?_⟩
      refine lc_inv (fun ρ => ∃ (cs : List Int) (b : Int), DL cs b ∧ ρ = [.dl cs b, .fz (.int N), .fz (.int ((deep : Int) + 1)), .fz (.int k), .un, .un, .un]) _ _ _ (fun _ y => SumD N 17 y) ⟨cs3, b3, hd3, rfl⟩ ?_ ?_ ?_
      · rw [rng_len]; simp; omega
      · rintro i e ρ hi ⟨cs, b, hd, rfl⟩ R hR
        simp
        refine sum_k h0 hn 2 8 (by omega) _ _ _ _ hd fun d hsd cs' b' hd' => ?_
        simp
        exact hR _ _ hsd ⟨cs', b', hd', by simp⟩
      · rintro ys ρ ⟨cs, b, hd, rfl⟩ hl hY
        rw [rng_len] at hl
        simp
        exact h _ (.inl ⟨w, ys, hw, list_of hY, by omega, by omega, rfl⟩) _ _ hd
    · simp [hds]
      refine ih n (by omega) _ _ _ _ hd1 fun d hsd cs2 b2 hd2 => ?_
      simp
      refine of_k hd2 (by simp) (by simp) fun v hv cs3 b3 hd3 => ?_
      obtain ⟨j, rfl, hj⟩ : ∃ j : Nat, v = .int j ∧ j ≤ 8 := by
        simp at hv
        rcases hv with rfl | rfl | rfl | rfl
        · exact ⟨1, rfl, by omega⟩
        · exact ⟨2, rfl, by omega⟩
        · exact ⟨7, rfl, by omega⟩
        · exact ⟨8, rfl, by omega⟩
      simp
      refine ⟨by omega, ?_⟩
      refine for_inv _ _ (fun i ρ => ∃ (cs : List Int) (b : Int) (f : Da) (x : Sl), DL cs b ∧ CondD N 17 (8 * deep + 1 + i) deep f ∧ ρ = [.dl cs b, .fz (.int N), .fz (.int ((deep : Int) + 1)), .fz (.int 2), .fz f, x, .un]) ⟨cs3, b3, d, _, hd3, hsd, rfl⟩ ?_ ?_
      · rintro i e ρ hi ⟨cs, b, f, x, hd, hf, rfl⟩ M hM
        simp
        exact hM _ ⟨cs, b, _, _, hd, .inr (.inl ⟨f, hf, rfl⟩), rfl⟩
      · rintro ρ ⟨cs, b, f, x, hd, hf, rfl⟩
        simp
        refine h f (hf.mono ?_ (by omega)) _ _ hd
        rw [rng_len]; omega
    · have hk3 : k = 3 ∨ k = 4 := by omega
      have hnk : ¬ k < 2 := by omega
      have hnk2 : ¬ k = 2 := by omega
      obtain ⟨w, hw, ew⟩ : ∃ w : Str, (w = "all" ∨ w = "some") ∧ atI [PyData.str "all", PyData.str "some"] (k - 3) = some (.str w) := by
        rcases hk3 with rfl | rfl
        · exact ⟨_, .inl rfl, rfl⟩
        · exact ⟨_, .inr rfl, rfl⟩
      have hk9 : 2 ≤ k := by omega
      simp [hnk, hnk2, hk9, ew]
      refine of_k hd1 (by simp) (by simp) fun v hv cs3 b3 hd3 => ?_
      obtain ⟨j, rfl, hj2, hj⟩ : ∃ j : Nat, v = .int j ∧ 2 ≤ j ∧ j ≤ 10 := by
        simp at hv
        rcases hv with rfl | rfl | rfl
        · exact ⟨2, rfl, by omega, by omega⟩
        · exact ⟨4, rfl, by omega, by omega⟩
        · exact ⟨10, rfl, by omega, by omega⟩
      simp
      refine ⟨by omega, ?_⟩
      refine lc_inv (fun ρ => ∃ (cs : List Int) (b : Int), DL cs b ∧ ρ = [.dl cs b, .fz (.int N), .fz (.int ((deep : Int) + 1)), .fz (.int k), .un, .un, .un]) _ _ _ (fun _ y => CondD N 17 (8 * deep + 1) deep y) ⟨cs3, b3, hd3, rfl⟩ ?_ ?_ ?_
      · rw [rng_len]; simp; omega
      · rintro i e ρ hi ⟨cs, b, hd, rfl⟩ R hR
        obtain ⟨hi', rfl⟩ := rng_get hi
        by_cases hz : i = 0
        · subst hz
          simp [hds]
          refine ih n (by omega) _ _ _ _ hd fun d hsd cs' b' hd' => ?_
          simp
          exact hR _ _ hsd ⟨cs', b', hd', by simp⟩
        · have hz' : ¬ (i : Int) = 0 := by omega
          simp [hz]
          refine cond_zero h0 hn n (by omega) _ _ _ _ hd fun d hsd cs' b' hd' => ?_
          simp
          exact hR _ _ (hsd.mono (by omega) (by omega)) ⟨cs', b', hd', by simp⟩
      · rintro ys ρ ⟨cs, b, hd, rfl⟩ hl hY
        rw [rng_len] at hl
        simp
        exact h _ (.inr (.inr ⟨w, ys, deep, hw, fun e he => (list_of hY e he).mono (by omega) (Nat.le_refl _), by omega, by omega, rfl, by omega⟩)) _ _ hd
end K84
end
section
set_option Elab.async false
set_option linter.all false
set_option maxRecDepth 100000
set_option maxHeartbeats 4000000
namespace K84
open PySem L2 Ip
def noDict : Da → Bool
  | .dict _ => false
  | _ => true
def numB : Da → Bool
  | .int k => decide (0 ≤ k)
  | _ => false
def isI : Da → Bool
  | .int _ => true
  | _ => false
theorem integer_k {d : Da} {P : Da → List Sl → Prop} {Px : Ex → List Sl → Prop} (hd : noDict d = true) (h : P (.bool (isI d)) [.fz d]) : f_is_integer [.fz d] P Px := by
  unfold f_is_integer fnOf
  cases d <;> first | (cases hd; done) | skip
  all_goals simp [pIsi, isTy, tyD]
  all_goals exact h
theorem number_k {d : Da} {P : Da → List Sl → Prop} {Px : Ex → List Sl → Prop} (hd : noDict d = true) (h : P (.bool (numB d)) [.fz d]) : f_is_number [.fz d] P Px := by
  unfold f_is_number fnOf
  simp
  refine integer_k hd ?_
  cases d <;> first | (cases hd; done) | skip
  all_goals simp [isI]
  all_goals exact h
def indexB (N : Int) : Da → Bool
  | .int k => decide (0 ≤ k) && decide (k < N)
  | _ => false
theorem index_k {d : Da} {N : Int} {P : Da → List Sl → Prop} {Px : Ex → List Sl → Prop} (hd : noDict d = true) (h : P (.bool (indexB N d)) [.fz d, .fz (.int N)]) : f_is_index [.fz d, .fz (.int N)] P Px := by
  unfold f_is_index fnOf
  simp
  refine number_k hd ?_
  cases d <;> first | (cases hd; done) | skip
  all_goals simp [numB]
  case int k =>
    by_cases hk : 0 ≤ k
    · simp [hk]
      have e : indexB N (.int k) = decide (k < N) := by simp [indexB, hk]
      rw [← e]; exact .inl h
    · simp [hk]
      have e : indexB N (.int k) = false := by simp [indexB, hk]
      rw [← e]; exact ⟨by omega, h⟩
  all_goals exact h
end K84
end
section
set_option Elab.async false
set_option linter.all false
set_option maxRecDepth 100000
set_option maxHeartbeats 4000000
namespace K84
open PySem L2 Ip
def lenT : Da → Option Nat
  | .tuple ds => some ds.length
  | _ => none
theorem rowof_k {d : Da} {P : Da → List Sl → Prop} {Px : Ex → List Sl → Prop} (hd : noDict d = true) (h : P (.bool (decide (lenT d = some 2))) [.fz d, .fz (.tuple [.int 2])]) : f_is_row_of [.fz d, .fz (.tuple [.int 2])] P Px := by
  unfold f_is_row_of fnOf
  cases d <;> first | (cases hd; done) | skip
  case tuple ds =>
    simp [pIn, flatD, eqF]
    have e : (2 == (ds.length : Int)) = decide (ds.length = 2) := by
      by_cases z : ds.length = 2
      · rw [z]; decide
      · rw [decide_eq_false z]; exact beq_false_of_ne (by omega)
    simp [lenT] at h
    simp [e]
    exact h
  all_goals simp [pIsi, isTy, tyD]
  all_goals exact h
end K84
end
section
set_option Elab.async false
set_option linter.all false
set_option maxRecDepth 100000
set_option maxHeartbeats 4000000
namespace K84
open PySem L2 Ip
/-- the words of this law -/
def wordsL : List Str := ["is", "of", "minus", "add", "times", "not", "all", "some", "like", "unlike", "any"]
theorem words_ok : ∀ x ∈ wordsL, PyData.strOk x = true := by decide +kernel
theorem eqW {x y : Str} (hx : x ∈ wordsL) (hy : y ∈ wordsL) : pEq (.str x) (.str y) = some (.bool (x == y)) := v_eqS _ _ (words_ok x hx) (words_ok y hy)
theorem within_k {d : Da} {m : Int} {P : Da → List Sl → Prop} {Px : Ex → List Sl → Prop} (hd : noDict d = true) (h : P (.bool (match lenT d with | some k => decide (2 ≤ k) && decide ((k : Int) ≤ m) | none => false)) [.fz d, .fz (.int m)]) : f_is_row_within [.fz d, .fz (.int m)] P Px := by
  unfold f_is_row_within fnOf
  cases d <;> first | (cases hd; done) | skip
  case tuple ds =>
    simp [lenT] at h
    by_cases z : 2 ≤ ds.length
    · have z' : (2 : Int) ≤ (ds.length : Int) := by omega
      simp [z] at h
      simp [z, z']
      exact h
    · have z' : ¬ (2 : Int) ≤ (ds.length : Int) := by omega
      simp [z] at h
      simp [z, z']
      exact h
  all_goals simp [pIsi, isTy, tyD]
  all_goals exact h
end K84
end
section
set_option Elab.async false
set_option linter.all false
set_option maxRecDepth 100000
namespace K84
open PySem L2 Ip
@[simp] theorem ok_is : PyData.strOk "is" = true := by decide +kernel
@[simp] theorem ok_of : PyData.strOk "of" = true := by decide +kernel
@[simp] theorem ok_minus : PyData.strOk "minus" = true := by decide +kernel
@[simp] theorem ok_add : PyData.strOk "add" = true := by decide +kernel
@[simp] theorem ok_times : PyData.strOk "times" = true := by decide +kernel
@[simp] theorem ok_not : PyData.strOk "not" = true := by decide +kernel
@[simp] theorem ok_all : PyData.strOk "all" = true := by decide +kernel
@[simp] theorem ok_some : PyData.strOk "some" = true := by decide +kernel
@[simp] theorem ok_like : PyData.strOk "like" = true := by decide +kernel
@[simp] theorem ok_unlike : PyData.strOk "unlike" = true := by decide +kernel
@[simp] theorem ok_any : PyData.strOk "any" = true := by decide +kernel
@[simp] theorem be_is_is : (("is" : Str) == "is") = true := by decide +kernel
@[simp] theorem be_is_of : (("is" : Str) == "of") = false := by decide +kernel
@[simp] theorem ne_is_of : (("is" : Str) = "of") = False := eq_false (by decide +kernel)
@[simp] theorem be_is_minus : (("is" : Str) == "minus") = false := by decide +kernel
@[simp] theorem ne_is_minus : (("is" : Str) = "minus") = False := eq_false (by decide +kernel)
@[simp] theorem be_is_add : (("is" : Str) == "add") = false := by decide +kernel
@[simp] theorem ne_is_add : (("is" : Str) = "add") = False := eq_false (by decide +kernel)
@[simp] theorem be_is_times : (("is" : Str) == "times") = false := by decide +kernel
@[simp] theorem ne_is_times : (("is" : Str) = "times") = False := eq_false (by decide +kernel)
@[simp] theorem be_is_not : (("is" : Str) == "not") = false := by decide +kernel
@[simp] theorem ne_is_not : (("is" : Str) = "not") = False := eq_false (by decide +kernel)
@[simp] theorem be_is_all : (("is" : Str) == "all") = false := by decide +kernel
@[simp] theorem ne_is_all : (("is" : Str) = "all") = False := eq_false (by decide +kernel)
@[simp] theorem be_is_some : (("is" : Str) == "some") = false := by decide +kernel
@[simp] theorem ne_is_some : (("is" : Str) = "some") = False := eq_false (by decide +kernel)
@[simp] theorem be_is_like : (("is" : Str) == "like") = false := by decide +kernel
@[simp] theorem ne_is_like : (("is" : Str) = "like") = False := eq_false (by decide +kernel)
@[simp] theorem be_is_unlike : (("is" : Str) == "unlike") = false := by decide +kernel
@[simp] theorem ne_is_unlike : (("is" : Str) = "unlike") = False := eq_false (by decide +kernel)
@[simp] theorem be_is_any : (("is" : Str) == "any") = false := by decide +kernel
@[simp] theorem ne_is_any : (("is" : Str) = "any") = False := eq_false (by decide +kernel)
@[simp] theorem be_of_is : (("of" : Str) == "is") = false := by decide +kernel
@[simp] theorem ne_of_is : (("of" : Str) = "is") = False := eq_false (by decide +kernel)
@[simp] theorem be_of_of : (("of" : Str) == "of") = true := by decide +kernel
@[simp] theorem be_of_minus : (("of" : Str) == "minus") = false := by decide +kernel
@[simp] theorem ne_of_minus : (("of" : Str) = "minus") = False := eq_false (by decide +kernel)
@[simp] theorem be_of_add : (("of" : Str) == "add") = false := by decide +kernel
@[simp] theorem ne_of_add : (("of" : Str) = "add") = False := eq_false (by decide +kernel)
@[simp] theorem be_of_times : (("of" : Str) == "times") = false := by decide +kernel
@[simp] theorem ne_of_times : (("of" : Str) = "times") = False := eq_false (by decide +kernel)
@[simp] theorem be_of_not : (("of" : Str) == "not") = false := by decide +kernel
@[simp] theorem ne_of_not : (("of" : Str) = "not") = False := eq_false (by decide +kernel)
@[simp] theorem be_of_all : (("of" : Str) == "all") = false := by decide +kernel
@[simp] theorem ne_of_all : (("of" : Str) = "all") = False := eq_false (by decide +kernel)
@[simp] theorem be_of_some : (("of" : Str) == "some") = false := by decide +kernel
@[simp] theorem ne_of_some : (("of" : Str) = "some") = False := eq_false (by decide +kernel)
@[simp] theorem be_of_like : (("of" : Str) == "like") = false := by decide +kernel
@[simp] theorem ne_of_like : (("of" : Str) = "like") = False := eq_false (by decide +kernel)
@[simp] theorem be_of_unlike : (("of" : Str) == "unlike") = false := by decide +kernel
@[simp] theorem ne_of_unlike : (("of" : Str) = "unlike") = False := eq_false (by decide +kernel)
@[simp] theorem be_of_any : (("of" : Str) == "any") = false := by decide +kernel
@[simp] theorem ne_of_any : (("of" : Str) = "any") = False := eq_false (by decide +kernel)
@[simp] theorem be_minus_is : (("minus" : Str) == "is") = false := by decide +kernel
@[simp] theorem ne_minus_is : (("minus" : Str) = "is") = False := eq_false (by decide +kernel)
@[simp] theorem be_minus_of : (("minus" : Str) == "of") = false := by decide +kernel
@[simp] theorem ne_minus_of : (("minus" : Str) = "of") = False := eq_false (by decide +kernel)
@[simp] theorem be_minus_minus : (("minus" : Str) == "minus") = true := by decide +kernel
@[simp] theorem be_minus_add : (("minus" : Str) == "add") = false := by decide +kernel
@[simp] theorem ne_minus_add : (("minus" : Str) = "add") = False := eq_false (by decide +kernel)
@[simp] theorem be_minus_times : (("minus" : Str) == "times") = false := by decide +kernel
@[simp] theorem ne_minus_times : (("minus" : Str) = "times") = False := eq_false (by decide +kernel)
@[simp] theorem be_minus_not : (("minus" : Str) == "not") = false := by decide +kernel
@[simp] theorem ne_minus_not : (("minus" : Str) = "not") = False := eq_false (by decide +kernel)
@[simp] theorem be_minus_all : (("minus" : Str) == "all") = false := by decide +kernel
@[simp] theorem ne_minus_all : (("minus" : Str) = "all") = False := eq_false (by decide +kernel)
@[simp] theorem be_minus_some : (("minus" : Str) == "some") = false := by decide +kernel
@[simp] theorem ne_minus_some : (("minus" : Str) = "some") = False := eq_false (by decide +kernel)
@[simp] theorem be_minus_like : (("minus" : Str) == "like") = false := by decide +kernel
@[simp] theorem ne_minus_like : (("minus" : Str) = "like") = False := eq_false (by decide +kernel)
@[simp] theorem be_minus_unlike : (("minus" : Str) == "unlike") = false := by decide +kernel
@[simp] theorem ne_minus_unlike : (("minus" : Str) = "unlike") = False := eq_false (by decide +kernel)
@[simp] theorem be_minus_any : (("minus" : Str) == "any") = false := by decide +kernel
@[simp] theorem ne_minus_any : (("minus" : Str) = "any") = False := eq_false (by decide +kernel)
@[simp] theorem be_add_is : (("add" : Str) == "is") = false := by decide +kernel
@[simp] theorem ne_add_is : (("add" : Str) = "is") = False := eq_false (by decide +kernel)
@[simp] theorem be_add_of : (("add" : Str) == "of") = false := by decide +kernel
@[simp] theorem ne_add_of : (("add" : Str) = "of") = False := eq_false (by decide +kernel)
@[simp] theorem be_add_minus : (("add" : Str) == "minus") = false := by decide +kernel
@[simp] theorem ne_add_minus : (("add" : Str) = "minus") = False := eq_false (by decide +kernel)
@[simp] theorem be_add_add : (("add" : Str) == "add") = true := by decide +kernel
@[simp] theorem be_add_times : (("add" : Str) == "times") = false := by decide +kernel
@[simp] theorem ne_add_times : (("add" : Str) = "times") = False := eq_false (by decide +kernel)
@[simp] theorem be_add_not : (("add" : Str) == "not") = false := by decide +kernel
@[simp] theorem ne_add_not : (("add" : Str) = "not") = False := eq_false (by decide +kernel)
@[simp] theorem be_add_all : (("add" : Str) == "all") = false := by decide +kernel
@[simp] theorem ne_add_all : (("add" : Str) = "all") = False := eq_false (by decide +kernel)
@[simp] theorem be_add_some : (("add" : Str) == "some") = false := by decide +kernel
@[simp] theorem ne_add_some : (("add" : Str) = "some") = False := eq_false (by decide +kernel)
@[simp] theorem be_add_like : (("add" : Str) == "like") = false := by decide +kernel
@[simp] theorem ne_add_like : (("add" : Str) = "like") = False := eq_false (by decide +kernel)
@[simp] theorem be_add_unlike : (("add" : Str) == "unlike") = false := by decide +kernel
@[simp] theorem ne_add_unlike : (("add" : Str) = "unlike") = False := eq_false (by decide +kernel)
@[simp] theorem be_add_any : (("add" : Str) == "any") = false := by decide +kernel
@[simp] theorem ne_add_any : (("add" : Str) = "any") = False := eq_false (by decide +kernel)
@[simp] theorem be_times_is : (("times" : Str) == "is") = false := by decide +kernel
@[simp] theorem ne_times_is : (("times" : Str) = "is") = False := eq_false (by decide +kernel)
@[simp] theorem be_times_of : (("times" : Str) == "of") = false := by decide +kernel
@[simp] theorem ne_times_of : (("times" : Str) = "of") = False := eq_false (by decide +kernel)
@[simp] theorem be_times_minus : (("times" : Str) == "minus") = false := by decide +kernel
@[simp] theorem ne_times_minus : (("times" : Str) = "minus") = False := eq_false (by decide +kernel)
@[simp] theorem be_times_add : (("times" : Str) == "add") = false := by decide +kernel
@[simp] theorem ne_times_add : (("times" : Str) = "add") = False := eq_false (by decide +kernel)
@[simp] theorem be_times_times : (("times" : Str) == "times") = true := by decide +kernel
@[simp] theorem be_times_not : (("times" : Str) == "not") = false := by decide +kernel
@[simp] theorem ne_times_not : (("times" : Str) = "not") = False := eq_false (by decide +kernel)
@[simp] theorem be_times_all : (("times" : Str) == "all") = false := by decide +kernel
@[simp] theorem ne_times_all : (("times" : Str) = "all") = False := eq_false (by decide +kernel)
@[simp] theorem be_times_some : (("times" : Str) == "some") = false := by decide +kernel
@[simp] theorem ne_times_some : (("times" : Str) = "some") = False := eq_false (by decide +kernel)
@[simp] theorem be_times_like : (("times" : Str) == "like") = false := by decide +kernel
@[simp] theorem ne_times_like : (("times" : Str) = "like") = False := eq_false (by decide +kernel)
@[simp] theorem be_times_unlike : (("times" : Str) == "unlike") = false := by decide +kernel
@[simp] theorem ne_times_unlike : (("times" : Str) = "unlike") = False := eq_false (by decide +kernel)
@[simp] theorem be_times_any : (("times" : Str) == "any") = false := by decide +kernel
@[simp] theorem ne_times_any : (("times" : Str) = "any") = False := eq_false (by decide +kernel)
@[simp] theorem be_not_is : (("not" : Str) == "is") = false := by decide +kernel
@[simp] theorem ne_not_is : (("not" : Str) = "is") = False := eq_false (by decide +kernel)
@[simp] theorem be_not_of : (("not" : Str) == "of") = false := by decide +kernel
@[simp] theorem ne_not_of : (("not" : Str) = "of") = False := eq_false (by decide +kernel)
@[simp] theorem be_not_minus : (("not" : Str) == "minus") = false := by decide +kernel
@[simp] theorem ne_not_minus : (("not" : Str) = "minus") = False := eq_false (by decide +kernel)
@[simp] theorem be_not_add : (("not" : Str) == "add") = false := by decide +kernel
@[simp] theorem ne_not_add : (("not" : Str) = "add") = False := eq_false (by decide +kernel)
@[simp] theorem be_not_times : (("not" : Str) == "times") = false := by decide +kernel
@[simp] theorem ne_not_times : (("not" : Str) = "times") = False := eq_false (by decide +kernel)
@[simp] theorem be_not_not : (("not" : Str) == "not") = true := by decide +kernel
@[simp] theorem be_not_all : (("not" : Str) == "all") = false := by decide +kernel
@[simp] theorem ne_not_all : (("not" : Str) = "all") = False := eq_false (by decide +kernel)
@[simp] theorem be_not_some : (("not" : Str) == "some") = false := by decide +kernel
@[simp] theorem ne_not_some : (("not" : Str) = "some") = False := eq_false (by decide +kernel)
@[simp] theorem be_not_like : (("not" : Str) == "like") = false := by decide +kernel
@[simp] theorem ne_not_like : (("not" : Str) = "like") = False := eq_false (by decide +kernel)
@[simp] theorem be_not_unlike : (("not" : Str) == "unlike") = false := by decide +kernel
@[simp] theorem ne_not_unlike : (("not" : Str) = "unlike") = False := eq_false (by decide +kernel)
@[simp] theorem be_not_any : (("not" : Str) == "any") = false := by decide +kernel
@[simp] theorem ne_not_any : (("not" : Str) = "any") = False := eq_false (by decide +kernel)
@[simp] theorem be_all_is : (("all" : Str) == "is") = false := by decide +kernel
@[simp] theorem ne_all_is : (("all" : Str) = "is") = False := eq_false (by decide +kernel)
@[simp] theorem be_all_of : (("all" : Str) == "of") = false := by decide +kernel
@[simp] theorem ne_all_of : (("all" : Str) = "of") = False := eq_false (by decide +kernel)
@[simp] theorem be_all_minus : (("all" : Str) == "minus") = false := by decide +kernel
@[simp] theorem ne_all_minus : (("all" : Str) = "minus") = False := eq_false (by decide +kernel)
@[simp] theorem be_all_add : (("all" : Str) == "add") = false := by decide +kernel
@[simp] theorem ne_all_add : (("all" : Str) = "add") = False := eq_false (by decide +kernel)
@[simp] theorem be_all_times : (("all" : Str) == "times") = false := by decide +kernel
@[simp] theorem ne_all_times : (("all" : Str) = "times") = False := eq_false (by decide +kernel)
@[simp] theorem be_all_not : (("all" : Str) == "not") = false := by decide +kernel
@[simp] theorem ne_all_not : (("all" : Str) = "not") = False := eq_false (by decide +kernel)
@[simp] theorem be_all_all : (("all" : Str) == "all") = true := by decide +kernel
@[simp] theorem be_all_some : (("all" : Str) == "some") = false := by decide +kernel
@[simp] theorem ne_all_some : (("all" : Str) = "some") = False := eq_false (by decide +kernel)
@[simp] theorem be_all_like : (("all" : Str) == "like") = false := by decide +kernel
@[simp] theorem ne_all_like : (("all" : Str) = "like") = False := eq_false (by decide +kernel)
@[simp] theorem be_all_unlike : (("all" : Str) == "unlike") = false := by decide +kernel
@[simp] theorem ne_all_unlike : (("all" : Str) = "unlike") = False := eq_false (by decide +kernel)
@[simp] theorem be_all_any : (("all" : Str) == "any") = false := by decide +kernel
@[simp] theorem ne_all_any : (("all" : Str) = "any") = False := eq_false (by decide +kernel)
@[simp] theorem be_some_is : (("some" : Str) == "is") = false := by decide +kernel
@[simp] theorem ne_some_is : (("some" : Str) = "is") = False := eq_false (by decide +kernel)
@[simp] theorem be_some_of : (("some" : Str) == "of") = false := by decide +kernel
@[simp] theorem ne_some_of : (("some" : Str) = "of") = False := eq_false (by decide +kernel)
@[simp] theorem be_some_minus : (("some" : Str) == "minus") = false := by decide +kernel
@[simp] theorem ne_some_minus : (("some" : Str) = "minus") = False := eq_false (by decide +kernel)
@[simp] theorem be_some_add : (("some" : Str) == "add") = false := by decide +kernel
@[simp] theorem ne_some_add : (("some" : Str) = "add") = False := eq_false (by decide +kernel)
@[simp] theorem be_some_times : (("some" : Str) == "times") = false := by decide +kernel
@[simp] theorem ne_some_times : (("some" : Str) = "times") = False := eq_false (by decide +kernel)
@[simp] theorem be_some_not : (("some" : Str) == "not") = false := by decide +kernel
@[simp] theorem ne_some_not : (("some" : Str) = "not") = False := eq_false (by decide +kernel)
@[simp] theorem be_some_all : (("some" : Str) == "all") = false := by decide +kernel
@[simp] theorem ne_some_all : (("some" : Str) = "all") = False := eq_false (by decide +kernel)
@[simp] theorem be_some_some : (("some" : Str) == "some") = true := by decide +kernel
@[simp] theorem be_some_like : (("some" : Str) == "like") = false := by decide +kernel
@[simp] theorem ne_some_like : (("some" : Str) = "like") = False := eq_false (by decide +kernel)
@[simp] theorem be_some_unlike : (("some" : Str) == "unlike") = false := by decide +kernel
@[simp] theorem ne_some_unlike : (("some" : Str) = "unlike") = False := eq_false (by decide +kernel)
@[simp] theorem be_some_any : (("some" : Str) == "any") = false := by decide +kernel
@[simp] theorem ne_some_any : (("some" : Str) = "any") = False := eq_false (by decide +kernel)
@[simp] theorem be_like_is : (("like" : Str) == "is") = false := by decide +kernel
@[simp] theorem ne_like_is : (("like" : Str) = "is") = False := eq_false (by decide +kernel)
@[simp] theorem be_like_of : (("like" : Str) == "of") = false := by decide +kernel
@[simp] theorem ne_like_of : (("like" : Str) = "of") = False := eq_false (by decide +kernel)
@[simp] theorem be_like_minus : (("like" : Str) == "minus") = false := by decide +kernel
@[simp] theorem ne_like_minus : (("like" : Str) = "minus") = False := eq_false (by decide +kernel)
@[simp] theorem be_like_add : (("like" : Str) == "add") = false := by decide +kernel
@[simp] theorem ne_like_add : (("like" : Str) = "add") = False := eq_false (by decide +kernel)
@[simp] theorem be_like_times : (("like" : Str) == "times") = false := by decide +kernel
@[simp] theorem ne_like_times : (("like" : Str) = "times") = False := eq_false (by decide +kernel)
@[simp] theorem be_like_not : (("like" : Str) == "not") = false := by decide +kernel
@[simp] theorem ne_like_not : (("like" : Str) = "not") = False := eq_false (by decide +kernel)
@[simp] theorem be_like_all : (("like" : Str) == "all") = false := by decide +kernel
@[simp] theorem ne_like_all : (("like" : Str) = "all") = False := eq_false (by decide +kernel)
@[simp] theorem be_like_some : (("like" : Str) == "some") = false := by decide +kernel
@[simp] theorem ne_like_some : (("like" : Str) = "some") = False := eq_false (by decide +kernel)
@[simp] theorem be_like_like : (("like" : Str) == "like") = true := by decide +kernel
@[simp] theorem be_like_unlike : (("like" : Str) == "unlike") = false := by decide +kernel
@[simp] theorem ne_like_unlike : (("like" : Str) = "unlike") = False := eq_false (by decide +kernel)
@[simp] theorem be_like_any : (("like" : Str) == "any") = false := by decide +kernel
@[simp] theorem ne_like_any : (("like" : Str) = "any") = False := eq_false (by decide +kernel)
@[simp] theorem be_unlike_is : (("unlike" : Str) == "is") = false := by decide +kernel
@[simp] theorem ne_unlike_is : (("unlike" : Str) = "is") = False := eq_false (by decide +kernel)
@[simp] theorem be_unlike_of : (("unlike" : Str) == "of") = false := by decide +kernel
@[simp] theorem ne_unlike_of : (("unlike" : Str) = "of") = False := eq_false (by decide +kernel)
@[simp] theorem be_unlike_minus : (("unlike" : Str) == "minus") = false := by decide +kernel
@[simp] theorem ne_unlike_minus : (("unlike" : Str) = "minus") = False := eq_false (by decide +kernel)
@[simp] theorem be_unlike_add : (("unlike" : Str) == "add") = false := by decide +kernel
@[simp] theorem ne_unlike_add : (("unlike" : Str) = "add") = False := eq_false (by decide +kernel)
@[simp] theorem be_unlike_times : (("unlike" : Str) == "times") = false := by decide +kernel
@[simp] theorem ne_unlike_times : (("unlike" : Str) = "times") = False := eq_false (by decide +kernel)
@[simp] theorem be_unlike_not : (("unlike" : Str) == "not") = false := by decide +kernel
@[simp] theorem ne_unlike_not : (("unlike" : Str) = "not") = False := eq_false (by decide +kernel)
@[simp] theorem be_unlike_all : (("unlike" : Str) == "all") = false := by decide +kernel
@[simp] theorem ne_unlike_all : (("unlike" : Str) = "all") = False := eq_false (by decide +kernel)
@[simp] theorem be_unlike_some : (("unlike" : Str) == "some") = false := by decide +kernel
@[simp] theorem ne_unlike_some : (("unlike" : Str) = "some") = False := eq_false (by decide +kernel)
@[simp] theorem be_unlike_like : (("unlike" : Str) == "like") = false := by decide +kernel
@[simp] theorem ne_unlike_like : (("unlike" : Str) = "like") = False := eq_false (by decide +kernel)
@[simp] theorem be_unlike_unlike : (("unlike" : Str) == "unlike") = true := by decide +kernel
@[simp] theorem be_unlike_any : (("unlike" : Str) == "any") = false := by decide +kernel
@[simp] theorem ne_unlike_any : (("unlike" : Str) = "any") = False := eq_false (by decide +kernel)
@[simp] theorem be_any_is : (("any" : Str) == "is") = false := by decide +kernel
@[simp] theorem ne_any_is : (("any" : Str) = "is") = False := eq_false (by decide +kernel)
@[simp] theorem be_any_of : (("any" : Str) == "of") = false := by decide +kernel
@[simp] theorem ne_any_of : (("any" : Str) = "of") = False := eq_false (by decide +kernel)
@[simp] theorem be_any_minus : (("any" : Str) == "minus") = false := by decide +kernel
@[simp] theorem ne_any_minus : (("any" : Str) = "minus") = False := eq_false (by decide +kernel)
@[simp] theorem be_any_add : (("any" : Str) == "add") = false := by decide +kernel
@[simp] theorem ne_any_add : (("any" : Str) = "add") = False := eq_false (by decide +kernel)
@[simp] theorem be_any_times : (("any" : Str) == "times") = false := by decide +kernel
@[simp] theorem ne_any_times : (("any" : Str) = "times") = False := eq_false (by decide +kernel)
@[simp] theorem be_any_not : (("any" : Str) == "not") = false := by decide +kernel
@[simp] theorem ne_any_not : (("any" : Str) = "not") = False := eq_false (by decide +kernel)
@[simp] theorem be_any_all : (("any" : Str) == "all") = false := by decide +kernel
@[simp] theorem ne_any_all : (("any" : Str) = "all") = False := eq_false (by decide +kernel)
@[simp] theorem be_any_some : (("any" : Str) == "some") = false := by decide +kernel
@[simp] theorem ne_any_some : (("any" : Str) = "some") = False := eq_false (by decide +kernel)
@[simp] theorem be_any_like : (("any" : Str) == "like") = false := by decide +kernel
@[simp] theorem ne_any_like : (("any" : Str) = "like") = False := eq_false (by decide +kernel)
@[simp] theorem be_any_unlike : (("any" : Str) == "unlike") = false := by decide +kernel
@[simp] theorem ne_any_unlike : (("any" : Str) = "unlike") = False := eq_false (by decide +kernel)
@[simp] theorem be_any_any : (("any" : Str) == "any") = true := by decide +kernel
end K84
end
section
set_option Elab.async false
set_option linter.all false
set_option maxRecDepth 100000
set_option maxHeartbeats 4000000
namespace K84
open PySem L2 Ip
/-- a def at some values gives a value, and leaves them -/
def Ev (f : Fn) (ps : List Sl) (d : Da) : Prop := ∀ (P : Da → List Sl → Prop) (Px : Ex → List Sl → Prop), P d ps → f ps P Px
theorem eqS {x y : Str} (hx : PyData.strOk x = true) (hy : PyData.strOk y = true) : pEq (.str x) (.str y) = some (.bool (x == y)) := v_eqS _ _ hx hy
theorem in2 {neg : Bool} {w x y : Str} : pIn neg (.str w) (.tuple [.str x, .str y]) = some (.bool (if neg then !(x == w || (y == w || false)) else (x == w || (y == w || false)))) := rfl
theorem in2l {neg : Bool} {w x y : Str} : pIn neg (.str w) (.list [.str x, .str y]) = some (.bool (if neg then !(x == w || (y == w || false)) else (x == w || (y == w || false)))) := rfl
theorem isi_str {x : Str} : pIsi "str" (.str x) = some (.bool true) := rfl
theorem allB {ds : List Da} {g : Da → Bool} : onBools (fun bs => some (.bool (bs.all id))) (.list (ds.map fun e => .bool (g e))) = some (.bool (ds.all g)) := by
  have e : (ds.map fun e => PyData.bool (g e)) = (ds.map g).map .bool := by rw [List.map_map]; rfl
  rw [e]
  show (boolsD _).bind _ = _
  rw [boolsD_map]
  show some (PyData.bool ((ds.map g).all id)) = _
  rw [List.all_map]; rfl
theorem anyB {ds : List Da} {g : Da → Bool} : onBools (fun bs => some (.bool (bs.any id))) (.list (ds.map fun e => .bool (g e))) = some (.bool (ds.any g)) := by
  have e : (ds.map fun e => PyData.bool (g e)) = (ds.map g).map .bool := by rw [List.map_map]; rfl
  rw [e]
  show (boolsD _).bind _ = _
  rw [boolsD_map]
  show some (PyData.bool ((ds.map g).any id)) = _
  rw [List.any_map]; rfl
/-- a comprehension over a list whose every turn gives g -/
theorem lc_map {G : WG} {A : WT Da} {vs : List Nat} {P : List Da → En → Prop} {Px : Ex → En → Prop} {ρ : En} (g : Da → Da) (ds : List Da) (hl : ds.length ≤ 100000)
    (h : ∀ d ∈ ds, ∀ S : Da → En → Prop, (∀ ρ4, backE ρ ρ4 vs = ρ → S (g d) ρ4) → G d (wipeE ρ vs) (fun ρ2 => A ρ2 S noX))
    (hp : P (ds.map g) ρ) : lcL G tYesD A vs P Px [] ds ρ := by
  refine lc_det (fun d => some (g d)) ds [] (by simpa using hl) ?_ ?_
  · intro d hd S1 S0 k1 k0
    have := h d hd S1 (k1 _ rfl)
    simpa using this
  · rw [List.nil_append, List.filterMap_eq_map']
    exact hp
theorem sum_nd {N : Int} : ∀ {n : Nat} {d : Da}, SumD N n d → noDict d = true
  | 0, _, h => h.elim
  | n + 1, _, h => by
    rcases h with ⟨k, rfl, _⟩ | ⟨k, rfl, _⟩ | ⟨e, _, rfl⟩ | ⟨es, _, _, _, rfl⟩ | ⟨os, is, _, _, _, _, _, rfl⟩ <;> rfl
theorem cond_nd {N : Int} {m : Nat} : ∀ {n q : Nat} {d : Da}, CondD N m n q d → noDict d = true
  | 0, _, _, h => h.elim
  | n + 1, _, _, h => by
    rcases h with ⟨w, es, _, _, _, _, rfl⟩ | ⟨e, _, rfl⟩ | ⟨w, es, r, _, _, _, _, rfl, _⟩ <;> rfl
theorem leafI_tree {N : Int} {m : Nat} {d : Da} (h : LeafI d) : Ev (f_is_sum_tree (m + 1)) [.fz (.int N), .fz d] (.bool true) := by
  intro P Px hp
  obtain ⟨k, rfl, h0, h1⟩ := h
  show fnOf 2 3 _ _ _ _
  unfold fnOf
  simp
  refine rowof_k rfl ?_
  simp [and_assoc, lenT, isi_str, eqS]
  refine number_k rfl ?_
  simp [numB, h0]
  have e : decide (k < 1000000000000000000000000000000) = true := decide_eq_true (by omega)
  rw [e]
  exact hp
theorem leafO_tree {N : Int} {m : Nat} {d : Da} (h : LeafO N d) : Ev (f_is_sum_tree (m + 1)) [.fz (.int N), .fz d] (.bool true) := by
  intro P Px hp
  obtain ⟨k, rfl, h0, h1⟩ := h
  show fnOf 2 3 _ _ _ _
  unfold fnOf
  simp
  refine rowof_k rfl ?_
  simp [and_assoc, lenT, isi_str, eqS]
  refine index_k rfl ?_
  simp [indexB, h0, h1]
  exact hp
theorem row_tree {N : Int} {m : Nat} {w : Str} (hw : w = "add" ∨ w = "times") {es : List Da} (h2 : 2 ≤ es.length) (h10 : es.length ≤ 10) (g : Da → Bool)
    (h : ∀ e ∈ es, Ev (f_is_sum_tree m) [.fz (.int N), .fz e] (.bool (g e))) : Ev (f_is_sum_tree (m + 1)) [.fz (.int N), .fz (.tuple [.str w, .tuple es])] (.bool (es.all g)) := by
  intro P Px hp
  show fnOf 2 3 _ _ _ _
  unfold fnOf
  simp
  refine rowof_k rfl ?_
  rcases hw with rfl | rfl
  all_goals
    simp [and_assoc, lenT, isi_str, eqS, in2]
    refine within_k rfl ?_
    simp [lenT, h2, h10]
    refine .inr ⟨show (es.length : Int) ≤ 10 by omega, ?_⟩
    refine lc_map (fun e => .bool (g e)) es (by omega) ?_ ?_
    · intro e he S hS
      simp
      refine h e he _ _ ?_
      simp
      exact hS _ (by simp)
    · simp [allB]
      exact hp
theorem tree_ok {N : Int} : ∀ (n m : Nat) (d : Da), n < m → SumD N n d → Ev (f_is_sum_tree m) [.fz (.int N), .fz d] (.bool true)
  | 0, _, _, _, h => h.elim
  | n + 1, 0, _, hm, _ => by omega
  | n + 1, m + 1, d, hm, h => by
    rcases h with h | h | ⟨e, he, rfl⟩ | ⟨es, he, h1, h2, rfl⟩ | ⟨os, is, ho, hi, h4, h1, h2, rfl⟩
    · exact leafI_tree h
    · exact leafO_tree h
    · intro P Px hp
      show fnOf 2 3 _ _ _ _
      unfold fnOf
      simp
      refine rowof_k rfl ?_
      simp [and_assoc, lenT, isi_str, eqS]
      refine tree_ok n m e (by omega) he _ _ ?_
      simp
      exact hp
    · have := row_tree (N := N) (m := m) (.inl rfl) h1 h2 (fun _ => true) fun e h => tree_ok n m e (by omega) (he e h)
      rwa [List.all_eq_true.mpr (fun _ _ => rfl)] at this
    · obtain ⟨m, rfl⟩ : ∃ k, m = k + 1 := ⟨m - 1, by omega⟩
      have := row_tree (N := N) (m := m + 1) (.inr rfl) (es := os ++ is) (by simpa using h1) (by simpa using h2) (fun _ => true) fun e h => by
        rcases List.mem_append.mp h with h | h
        · exact leafO_tree (ho e h)
        · exact leafI_tree (hi e h)
      rwa [List.all_eq_true.mpr (fun _ _ => rfl)] at this
end K84
end
section
set_option Elab.async false
set_option linter.all false
set_option maxRecDepth 100000
set_option maxHeartbeats 4000000
namespace K84
open PySem L2 Ip
/-! ### form degrees -/
theorem leafI_deg {m : Nat} {d : Da} (h : LeafI d) : Ev (f_form_degree (m + 1)) [.fz d] (.int 0) := by
  intro P Px hp
  obtain ⟨k, rfl, h0, h1⟩ := h
  show fnOf 1 4 _ _ _ _
  unfold fnOf
  simp [and_assoc, in2, eqS]
  exact hp
theorem leafO_deg {N : Int} {m : Nat} {d : Da} (h : LeafO N d) : Ev (f_form_degree (m + 1)) [.fz d] (.int 1) := by
  intro P Px hp
  obtain ⟨k, rfl, h0, h1⟩ := h
  show fnOf 1 4 _ _ _ _
  unfold fnOf
  simp [and_assoc, in2, eqS]
  exact hp
theorem intsG {ds : List Da} {g : Da → Int} {f : List Int → Option Da} : onInts f (.list (ds.map fun e => .int (g e))) = f (ds.map g) := by
  have e : (ds.map fun e => PyData.int (g e)) = (ds.map g).map .int := by rw [List.map_map]; rfl
  rw [e]
  show (intsD _).bind _ = _
  rw [Ip.intsD_map]
  rfl
theorem add_deg {m : Nat} {es : List Da} {g : Da → Int} {x : Int} (h10 : es.length ≤ 10) (h : ∀ e ∈ es, Ev (f_form_degree m) [.fz e] (.int (g e))) (hx : (es.map g).max? = some x) : Ev (f_form_degree (m + 1)) [.fz (.tuple [.str "add", .tuple es])] (.int x) := by
  intro P Px hp
  show fnOf 1 4 _ _ _ _
  unfold fnOf
  simp [and_assoc, in2, eqS]
  refine lc_map (fun e => .int (g e)) es (by omega) ?_ ?_
  · intro e he S hS
    simp
    refine h e he _ _ ?_
    simp
    exact hS _ (by simp)
  · simp [intsG, hx, eqS]
    exact hp
theorem times_deg {m : Nat} {es : List Da} {g : Da → Int} (h10 : es.length ≤ 10) (h : ∀ e ∈ es, Ev (f_form_degree m) [.fz e] (.int (g e))) : Ev (f_form_degree (m + 1)) [.fz (.tuple [.str "times", .tuple es])] (.int (es.map g).sum) := by
  intro P Px hp
  show fnOf 1 4 _ _ _ _
  unfold fnOf
  simp [and_assoc, in2, eqS]
  refine lc_map (fun e => .int (g e)) es (by omega) ?_ ?_
  · intro e he S hS
    simp
    refine h e he _ _ ?_
    simp
    exact hS _ (by simp)
  · simp [intsG, eqS]
    exact hp
theorem minus_deg {m : Nat} {e : Da} {x : Int} (h : Ev (f_form_degree m) [.fz e] (.int x)) : Ev (f_form_degree (m + 1)) [.fz (.tuple [.str "minus", e])] (.int x) := by
  intro P Px hp
  show fnOf 1 4 _ _ _ _
  unfold fnOf
  simp [and_assoc, in2, eqS]
  refine h _ _ ?_
  simp
  exact hp
theorem max_le {l : List Int} {x b : Int} (h : ∀ y ∈ l, y ≤ b) (hx : l.max? = some x) : x ≤ b := h x (List.max?_mem hx)
theorem exG {es : List Da} {R : Da → Int → Prop} (h : ∀ e ∈ es, ∃ x, R e x) : ∃ g : Da → Int, ∀ e ∈ es, R e (g e) :=
  ⟨fun e => open Classical in if z : e ∈ es then Classical.choose (h e z) else 0, fun e he => by
    simp only
    rw [dif_pos he]
    exact Classical.choose_spec (h e he)⟩
theorem sum0 {es : List Da} {g : Da → Int} (h : ∀ e ∈ es, g e = 0) : (es.map g).sum = 0 := by
  induction es with
  | nil => rfl
  | cons e es ih => rw [List.map_cons, List.sum_cons, ih fun e he => h e (List.mem_cons_of_mem _ he), h e List.mem_cons_self]; rfl
theorem sum1 {es : List Da} {g : Da → Int} (h : ∀ e ∈ es, g e = 1) : (es.map g).sum = es.length := by
  induction es with
  | nil => rfl
  | cons e es ih => rw [List.map_cons, List.sum_cons, ih fun e he => h e (List.mem_cons_of_mem _ he), h e List.mem_cons_self, List.length_cons]; omega
def degL : Da → Int
  | .tuple [_, .int _] => 0
  | _ => 0
theorem leaf_ne {N : Int} {d : Da} (h : LeafI d) (h2 : LeafO N d) : False := by
  obtain ⟨k, rfl, _⟩ := h
  obtain ⟨j, e, _⟩ := h2
  have e1 : (("is" : Str)) = "of" := by cases e
  exact absurd e1 (by decide +kernel)
theorem deg_ok {N : Int} : ∀ (n m : Nat) (d : Da), n < m → SumD N n d → ∃ x : Int, x ≤ 4 ∧ Ev (f_form_degree m) [.fz d] (.int x)
  | 0, _, _, _, h => h.elim
  | n + 1, 0, _, hm, _ => by omega
  | n + 1, m + 1, d, hm, h => by
    rcases h with h | h | ⟨e, he, rfl⟩ | ⟨es, he, h1, h2, rfl⟩ | ⟨os, is, ho, hi, h4, h1, h2, rfl⟩
    · exact ⟨0, by decide, leafI_deg h⟩
    · exact ⟨1, by decide, leafO_deg h⟩
    · obtain ⟨x, hx, h⟩ := deg_ok n m e (by omega) he
      exact ⟨x, hx, minus_deg h⟩
    · obtain ⟨g, hg⟩ := exG fun e h => deg_ok n m e (by omega) (he e h)
      cases hx : (es.map g).max? with
      | none =>
        rw [List.max?_eq_none_iff] at hx
        rw [List.map_eq_nil_iff] at hx
        subst hx
        simp at h1
      | some x =>
        refine ⟨x, max_le (fun y hy => ?_) hx, add_deg h2 (fun e h => (hg e h).2) hx⟩
        obtain ⟨e, he, rfl⟩ := List.mem_map.mp hy
        exact (hg e he).1
    · obtain ⟨m, rfl⟩ : ∃ k, m = k + 1 := ⟨m - 1, by omega⟩
      obtain ⟨g, hg⟩ := exG (es := os ++ is) (R := fun e x => (LeafO N e → x = 1) ∧ (LeafI e → x = 0) ∧ Ev (f_form_degree (m + 1)) [.fz e] (.int x)) fun e h => by
        rcases List.mem_append.mp h with h | h
        · exact ⟨1, fun _ => rfl, fun z => (leaf_ne z (ho e h)).elim, leafO_deg (ho e h)⟩
        · exact ⟨0, fun z => (leaf_ne (hi e h) z).elim, fun _ => rfl, leafI_deg (hi e h)⟩
      refine ⟨_, ?_, times_deg (by simpa using h2) fun e h => (hg e h).2.2⟩
      rw [List.map_append, List.sum_append, sum1 fun e he => (hg e (List.mem_append_left _ he)).1 (ho e he), sum0 fun e he => (hg e (List.mem_append_right _ he)).2.1 (hi e he)]
      omega
/-! ### conditions -/
theorem base_cond {N : Int} {m : Nat} {w : Str} (hw : w = "unlike" ∨ w = "like") {es : List Da} (h2 : 2 ≤ es.length) (h5 : es.length ≤ 5) (g : Da → Bool) (hb : ∀ e ∈ es, ∃ b : Bool, Ev (f_is_sum_tree 60) [.fz (.int N), .fz e] (.bool b) ∧
      ((b = false ∧ g e = false) ∨ (b = true ∧ ∃ x : Int, Ev (f_form_degree 60) [.fz e] (.int x) ∧ g e = decide (x ≤ 4)))) : Ev (f_is_condition (m + 1)) [.fz (.int N), .fz (.tuple [.str w, .tuple es])] (.bool (es.all g)) := by
  intro P Px hp
  show fnOf 2 3 _ _ _ _
  unfold fnOf
  simp
  refine rowof_k rfl ?_
  rcases hw with rfl | rfl
  all_goals
    simp [and_assoc, lenT, isi_str, eqS, in2]
    refine within_k rfl ?_
    simp [lenT, h2, h5]
    refine .inr ⟨show (es.length : Int) ≤ 5 by omega, ?_⟩
    refine lc_map (fun e => .bool (g e)) es (by omega) ?_ ?_
    · intro e he S hS
      obtain ⟨b, k1, k2⟩ := hb e he
      simp
      refine k1 _ _ ?_
      simp
      rcases k2 with ⟨rfl, k2⟩ | ⟨rfl, x, k2, k3⟩
      · simp
        rw [k2] at hS
        exact hS _ (by simp)
      · simp
        refine k2 _ _ ?_
        simp
        rw [k3] at hS
        exact hS _ (by simp)
    · simp [allB]
      exact hp
theorem rows_cond {N : Int} {m : Nat} {w : Str} (hw : w = "all" ∨ w = "some") {es : List Da} (h2 : 2 ≤ es.length) (h10 : es.length ≤ 10) (g : Da → Bool)
    (h : ∀ e ∈ es, Ev (f_is_condition m) [.fz (.int N), .fz e] (.bool (g e))) : Ev (f_is_condition (m + 1)) [.fz (.int N), .fz (.tuple [.str w, .tuple es])] (.bool (es.all g)) := by
  intro P Px hp
  show fnOf 2 3 _ _ _ _
  unfold fnOf
  simp
  refine rowof_k rfl ?_
  rcases hw with rfl | rfl
  all_goals
    simp [and_assoc, lenT, isi_str, eqS, in2]
    refine within_k rfl ?_
    simp [lenT, h2, h10]
    refine .inl ⟨show (es.length : Int) ≤ 10 by omega, ?_⟩
    refine lc_map (fun e => .bool (g e)) es (by omega) ?_ ?_
    · intro e he S hS
      simp
      refine h e he _ _ ?_
      simp
      exact hS _ (by simp)
    · simp [allB]
      exact hp
theorem not_cond {N : Int} {m : Nat} {e : Da} {b : Bool} (h : Ev (f_is_condition m) [.fz (.int N), .fz e] (.bool b)) : Ev (f_is_condition (m + 1)) [.fz (.int N), .fz (.tuple [.str "not", e])] (.bool b) := by
  intro P Px hp
  show fnOf 2 3 _ _ _ _
  unfold fnOf
  simp
  refine rowof_k rfl ?_
  simp [and_assoc, lenT, isi_str, eqS]
  refine h _ _ ?_
  simp
  exact hp
theorem cond_ok {N : Int} : ∀ (n m q : Nat) (d : Da), n < m → CondD N 17 n q d → Ev (f_is_condition m) [.fz (.int N), .fz d] (.bool true)
  | 0, _, _, _, _, h => h.elim
  | n + 1, 0, _, _, hm, _ => by omega
  | n + 1, m + 1, q, d, hm, h => by
    rcases h with ⟨w, es, hw, he, h1, h2, rfl⟩ | ⟨e, he, rfl⟩ | ⟨w, es, r, hw, he, h1, h2, rfl, _⟩
    · have := base_cond (N := N) (m := m) hw h1 h2 (fun _ => true) fun e h => ⟨true, tree_ok 17 60 e (by omega) (he e h), .inr ⟨rfl, by
        obtain ⟨x, hx, k⟩ := deg_ok 17 60 e (by omega) (he e h)
        exact ⟨x, k, (decide_eq_true hx).symm⟩⟩⟩
      rwa [List.all_eq_true.mpr (fun _ _ => rfl)] at this
    · exact not_cond (cond_ok n m q e (by omega) he)
    · have := rows_cond (N := N) (m := m) hw h1 h2 (fun _ => true) fun e h => cond_ok n m r e (by omega) (he e h)
      rwa [List.all_eq_true.mpr (fun _ _ => rfl)] at this
end K84
end
section
set_option Elab.async false
set_option linter.all false
set_option maxRecDepth 100000
set_option maxHeartbeats 4000000
namespace K84
open PySem L2 Ip
/-! ### worths -/
def elem (p k : Int) : Int := if p = 0 then k else k % p
theorem elem_add (p a b : Int) : elem p (elem p a + elem p b) = elem p (a + b) := by
  unfold elem
  by_cases h : p = 0
  · simp [h]
  · simp [h]
theorem elem_mul (p a b : Int) : elem p (elem p a * elem p b) = elem p (a * b) := by
  unfold elem
  by_cases h : p = 0
  · simp [h]
  · simp only [h, if_false]
    rw [← Int.mul_emod]
theorem elem_neg (p a : Int) : elem p (0 - elem p a) = elem p (0 - a) := by
  unfold elem
  by_cases h : p = 0
  · simp [h]
  · simp only [h, if_false]
    rw [Int.sub_emod, Int.emod_emod_of_dvd _ (Int.dvd_refl p), ← Int.sub_emod]
theorem element_k {p k : Int} (hp : 0 ≤ p) : Ev f_element [.fz (.int p), .fz (.int k)] (.int (elem p k)) := by
  intro P Px h
  unfold f_element fnOf
  unfold elem at h
  by_cases hz : p = 0
  · simp [hz] at h
    simp [hz]
    exact h
  · simp [hz] at h
    simp [hz, modOk _ _ (show 0 < p by omega)]
    exact h
theorem element2_k {p k : Int} (hp : 0 ≤ p) : Ev f__law_element [.fz (.int p), .fz (.int k)] (.int (elem p k)) := by
  intro P Px h
  unfold f__law_element fnOf
  unfold elem at h
  by_cases hz : p = 0
  · simp [hz] at h
    simp [hz]
    exact h
  · simp [hz] at h
    simp [hz, modOk _ _ (show 0 < p by omega)]
    exact h
/-- a choice: an element of each list -/
structure ChOk (p N : Int) (c : List Int) : Prop where
  len : (c.length : Int) = N
  big : ∀ x ∈ c, x.natAbs < 10 ^ 30
  fld : p ≠ 0 → ∀ x ∈ c, 0 ≤ x ∧ x < p
/-- what a sum is worth, by the law and by the program -/
def Worth (p : Int) (c : List Int) (m : Nat) (d : Da) (k : Int) : Prop :=
  Ev (f__law_sum_worth m) [.fz d, .fz (.tuple (c.map PyData.int))] (.int k) ∧ Ev (f_sum_worth m) [.fz (.int p), .fz d, .fz (.tuple (c.map PyData.int))] (.int (elem p k))
section
variable {p N : Int} {c : List Int} {m : Nat}
theorem is_worth (hp : 0 ≤ p) {k : Int} : Worth p c (m + 1) (.tuple [.str "is", .int k]) k := by
  constructor
  · intro P Px h
    show fnOf 2 3 _ _ _ _
    unfold fnOf
    simp [and_assoc, eqS]
    exact h
  · intro P Px h
    show fnOf 3 5 _ _ _ _
    unfold fnOf
    simp [and_assoc, eqS, in2]
    refine element_k hp _ _ ?_
    simp
    exact h
theorem of_worth (hc : ChOk p N c) {i : Nat} {k : Int} (hi : c[i]? = some k) : Worth p c (m + 1) (.tuple [.str "of", .int i]) k := by
  have e1 : atI (c.map PyData.int) (i : Int) = some (.int k) := Ip.atI_nat (by rw [List.getElem?_map, hi]; rfl)
  have e2 : elem p k = k := by
    unfold elem
    by_cases z : p = 0
    · simp [z]
    · have := hc.fld z k (List.mem_of_getElem? hi)
      simp only [z, if_false]
      exact Int.emod_eq_of_lt this.1 this.2
  constructor
  · intro P Px h
    show fnOf 2 3 _ _ _ _
    unfold fnOf
    simp [and_assoc, eqS, e1]
    exact h
  · intro P Px h
    rw [e2] at h
    show fnOf 3 5 _ _ _ _
    unfold fnOf
    simp [and_assoc, eqS, in2, e1]
    exact h
theorem minus_worth (hp : 0 ≤ p) {d : Da} {k : Int} (hk : Worth p c m d k) : Worth p c (m + 1) (.tuple [.str "minus", d]) (0 - k) := by
  constructor
  · intro P Px h
    show fnOf 2 3 _ _ _ _
    unfold fnOf
    simp [and_assoc, eqS]
    refine hk.1 _ _ ?_
    simp at h ⊢
    exact h
  · intro P Px h
    rw [← elem_neg] at h
    show fnOf 3 5 _ _ _ _
    unfold fnOf
    simp [and_assoc, eqS, in2]
    refine hk.2 _ _ ?_
    simp
    refine element_k hp _ _ ?_
    simp at h ⊢
    exact h
def foldW (add : Bool) (es : List Da) (g : Da → Int) (i : Nat) : Int := (es.take i).foldl (fun s e => if add then s + g e else s * g e) (if add then 0 else 1)
theorem foldW_next {add : Bool} {es : List Da} {g : Da → Int} {i : Nat} {e : Da} (h : es[i]? = some e) : foldW add es g (i + 1) = if add then foldW add es g i + g e else foldW add es g i * g e := by
  unfold foldW
  rw [List.take_succ, h, List.foldl_append]
  rfl
theorem add_worth (hp : 0 ≤ p) {es : List Da} {g : Da → Int} (h10 : es.length ≤ 10) (hg : ∀ e ∈ es, Worth p c m e (g e)) : Worth p c (m + 1) (.tuple [.str "add", .tuple es]) (foldW true es g es.length) := by
  constructor
  · intro P Px h
    show fnOf 2 3 _ _ _ _
    unfold fnOf
    simp [and_assoc, eqS]
    refine for_inv _ _ (fun i ρ => ∃ x y : Sl, ρ = [.fz (.tuple [.str "add", .tuple es]), .fz (.tuple (c.map PyData.int)), .fz (.int (foldW true es g i)), x, y]) ⟨_, _, rfl⟩ ?_ ?_
    · rintro i d ρ hi ⟨x, y, rfl⟩ M hM
      simp
      refine (hg d (List.mem_of_getElem? hi)).1 _ _ ?_
      simp [eqS]
      refine hM _ ⟨.fz d, .fz (.int (g d)), ?_⟩
      rw [foldW_next hi]; rfl
    · rintro ρ ⟨x, y, rfl⟩
      simp
      exact h
  · intro P Px h
    show fnOf 3 5 _ _ _ _
    unfold fnOf
    simp [and_assoc, eqS, in2]
    refine for_inv _ _ (fun i ρ => ∃ x y : Sl, ρ = [.fz (.int p), .fz (.tuple [.str "add", .tuple es]), .fz (.tuple (c.map PyData.int)), .fz (.str "add"), .fz (.tuple es), .fz (.int (elem p (foldW true es g i))), x, y]) ⟨.un, .un, ?_⟩ ?_ ?_
    · have : elem p (foldW true es g 0) = 0 := by unfold elem foldW; simp
      rw [this]
    · rintro i d ρ hi ⟨x, y, rfl⟩ M hM
      simp
      refine (hg d (List.mem_of_getElem? hi)).2 _ _ ?_
      simp [eqS]
      refine element_k hp _ _ ?_
      simp
      refine hM _ ⟨.fz d, .fz (.int (elem p (g d))), ?_⟩
      rw [foldW_next hi, elem_add]; rfl
    · rintro ρ ⟨x, y, rfl⟩
      simp
      exact h
theorem elem_abs {k : Int} {b : Nat} (hp : 0 ≤ p) (h101 : p ≤ 101) (hb : 101 ≤ b) (h : k.natAbs < b) : (elem p k).natAbs < b := by
  unfold elem
  by_cases z : p = 0
  · simp [z]; exact h
  · have h1 := Int.emod_nonneg k z
    have h2 := Int.emod_lt_of_pos k (show 0 < p by omega)
    simp only [z, if_false]
    omega
theorem foldW_abs {es : List Da} {g : Da → Int} (hg : ∀ e ∈ es, (g e).natAbs < 10 ^ 30) : ∀ i, i ≤ es.length → (foldW false es g i).natAbs ≤ (10 ^ 30) ^ i
  | 0, _ => Nat.le_refl 1
  | i + 1, hi => by
    have e := List.getElem?_eq_getElem (show i < es.length by omega)
    rw [foldW_next e]
    show (foldW false es g i * g es[i]).natAbs ≤ _
    rw [Int.natAbs_mul, Nat.pow_succ]
    exact Nat.mul_le_mul (foldW_abs hg i (by omega)) (Nat.le_of_lt (hg _ (List.getElem_mem _)))
theorem times_worth (hp : 0 ≤ p) (hp1 : p ≠ 1) (h101 : p ≤ 101) {es : List Da} {g : Da → Int} (h10 : es.length ≤ 10) (hg : ∀ e ∈ es, Worth p c m e (g e)) (hb : ∀ e ∈ es, (g e).natAbs < 10 ^ 30) : Worth p c (m + 1) (.tuple [.str "times", .tuple es]) (foldW false es g es.length) := by
  have bd : ∀ i, i ≤ es.length → (foldW false es g i).natAbs < 2 ^ 1001 := fun i hi => by
    have h1 := foldW_abs hb i hi
    have h2 : (10 ^ 30) ^ i ≤ (10 ^ 30) ^ 10 := Nat.pow_le_pow_right (by decide) (by omega)
    have h3 : (10 ^ 30) ^ 10 < 2 ^ 1001 := by decide +kernel
    omega
  have b30 : ∀ k : Int, k.natAbs < 10 ^ 30 → k.natAbs < 2 ^ 1001 := fun k h => by
    have h3 : 10 ^ 30 < 2 ^ 1001 := by decide +kernel
    omega
  have big : 101 ≤ 2 ^ 1001 := by decide +kernel
  constructor
  · intro P Px h
    show fnOf 2 3 _ _ _ _
    unfold fnOf
    simp [and_assoc, eqS]
    refine for_inv _ _ (fun i ρ => ∃ x y : Sl, ρ = [.fz (.tuple [.str "times", .tuple es]), .fz (.tuple (c.map PyData.int)), .fz (.int (foldW false es g i)), x, y]) ⟨_, _, rfl⟩ ?_ ?_
    · rintro i d ρ hi ⟨x, y, rfl⟩ M hM
      have hl := (List.getElem?_eq_some_iff.mp hi).1
      have e1 := mulOk (foldW false es g i) (g d) (bd i (by omega)) (b30 _ (hb d (List.mem_of_getElem? hi))) (by decide) (by decide)
      simp
      refine (hg d (List.mem_of_getElem? hi)).1 _ _ ?_
      simp [eqS, e1]
      refine hM _ ⟨.fz d, .fz (.int (g d)), ?_⟩
      rw [foldW_next hi]; rfl
    · rintro ρ ⟨x, y, rfl⟩
      simp
      exact h
  · intro P Px h
    show fnOf 3 5 _ _ _ _
    unfold fnOf
    simp [and_assoc, eqS, in2]
    refine for_inv _ _ (fun i ρ => ∃ x y : Sl, ρ = [.fz (.int p), .fz (.tuple [.str "times", .tuple es]), .fz (.tuple (c.map PyData.int)), .fz (.str "times"), .fz (.tuple es), .fz (.int (elem p (foldW false es g i))), x, y]) ⟨.un, .un, ?_⟩ ?_ ?_
    · have : elem p (foldW false es g 0) = 1 := by
        show elem p 1 = 1
        unfold elem
        by_cases z : p = 0
        · simp [z]
        · simp only [z, if_false]
          exact Int.emod_eq_of_lt (by decide) (by omega)
      rw [this]
    · rintro i d ρ hi ⟨x, y, rfl⟩ M hM
      have hl := (List.getElem?_eq_some_iff.mp hi).1
      have e1 := mulOk (elem p (foldW false es g i)) (elem p (g d)) (elem_abs hp h101 big (bd i (by omega))) (elem_abs hp h101 big (b30 _ (hb d (List.mem_of_getElem? hi)))) (by decide) (by decide)
      simp
      refine (hg d (List.mem_of_getElem? hi)).2 _ _ ?_
      simp [eqS, e1]
      refine element_k hp _ _ ?_
      simp
      refine hM _ ⟨.fz d, .fz (.int (elem p (g d))), ?_⟩
      rw [foldW_next hi, elem_mul]; rfl
    · rintro ρ ⟨x, y, rfl⟩
      simp
      exact h
theorem leafI_worth (hp : 0 ≤ p) {d : Da} (h : LeafI d) : ∃ k : Int, k.natAbs < 10 ^ 30 ∧ ∀ m, Worth p c (m + 1) d k := by
  obtain ⟨k, rfl, h0, h1⟩ := h
  exact ⟨k, by omega, fun m => is_worth hp⟩
theorem leafO_worth (hc : ChOk p N c) {d : Da} (h : LeafO N d) : ∃ k : Int, k.natAbs < 10 ^ 30 ∧ ∀ m, Worth p c (m + 1) d k := by
  obtain ⟨i, rfl, h0, h1⟩ := h
  obtain ⟨j, rfl⟩ : ∃ j : Nat, i = j := ⟨i.toNat, by omega⟩
  have hj : j < c.length := by have := hc.len; omega
  have e := List.getElem?_eq_getElem hj
  exact ⟨c[j], hc.big _ (List.getElem_mem hj), fun m => of_worth hc e⟩
theorem worth_ok (hp : 0 ≤ p) (hp1 : p ≠ 1) (h101 : p ≤ 101) (hc : ChOk p N c) : ∀ (n : Nat) (d : Da), SumD N n d → ∃ k : Int, ∀ m, n < m → Worth p c m d k
  | 0, _, h => h.elim
  | n + 1, d, h => by
    have up : ∀ {k : Int} {d : Da}, (∀ m, Worth p c (m + 1) d k) → ∀ m, n + 1 < m → Worth p c m d k := fun h m hm => by
      obtain ⟨m, rfl⟩ : ∃ j, m = j + 1 := ⟨m - 1, by omega⟩
      exact h m
    rcases h with h | h | ⟨e, he, rfl⟩ | ⟨es, he, h1, h2, rfl⟩ | ⟨os, is, ho, hi, h4, h1, h2, rfl⟩
    · obtain ⟨k, _, h⟩ := leafI_worth (c := c) hp h
      exact ⟨k, up h⟩
    · obtain ⟨k, _, h⟩ := leafO_worth hc h
      exact ⟨k, up h⟩
    · obtain ⟨k, h⟩ := worth_ok hp hp1 h101 hc n e he
      exact ⟨0 - k, fun m hm => by
        obtain ⟨m, rfl⟩ : ∃ j, m = j + 1 := ⟨m - 1, by omega⟩
        exact minus_worth hp (h m (by omega))⟩
    · obtain ⟨g, hg⟩ := exG fun e h => worth_ok hp hp1 h101 hc n e (he e h)
      exact ⟨foldW true es g es.length, fun m hm => by
        obtain ⟨m, rfl⟩ : ∃ j, m = j + 1 := ⟨m - 1, by omega⟩
        exact add_worth hp h2 fun e he => hg e he m (by omega)⟩
    · obtain ⟨g, hg⟩ := exG (es := os ++ is) (R := fun d (k : Int) => k.natAbs < 10 ^ 30 ∧ ∀ m, Worth p c (m + 1) d k) fun e h => by
        rcases List.mem_append.mp h with h | h
        · exact leafO_worth hc (ho e h)
        · exact leafI_worth hp (hi e h)
      exact ⟨foldW false (os ++ is) g (os ++ is).length, fun m hm => by
        obtain ⟨m, rfl⟩ : ∃ j, m = j + 2 := ⟨m - 2, by omega⟩
        exact times_worth (m := m + 1) hp hp1 h101 (by simpa using h2) (fun e he => (hg e he).2 m) (fun e he => (hg e he).1)⟩
end
end K84
end
section
set_option Elab.async false
set_option linter.all false
set_option maxRecDepth 100000
set_option maxHeartbeats 4000000
namespace K84
open PySem L2 Ip
/-! ### plain counting -/
def cntL : List Int → List Int → List Int
  | _, [] => []
  | acc, x :: xs => (acc.count x : Int) :: cntL (acc ++ [x]) xs
def triT : Nat → Nat → Int
  | _, 0 => 0
  | a, n + 1 => a + triT (a + 1) n
theorem cnt_unlike : ∀ (xs acc : List Int), 0 ≤ (cntL acc xs).sum ∧ ((cntL acc xs).sum = 0 ↔ xs.Nodup ∧ ∀ x ∈ xs, x ∉ acc)
  | [], acc => by simp [cntL]
  | x :: xs, acc => by
    obtain ⟨h1, h2⟩ := cnt_unlike xs (acc ++ [x])
    have e : (cntL acc (x :: xs)).sum = (acc.count x : Int) + (cntL (acc ++ [x]) xs).sum := by
      show (((acc.count x : Int)) :: cntL (acc ++ [x]) xs).sum = _
      rw [List.sum_cons]
    rw [e]
    refine ⟨by omega, ?_⟩
    have e2 : ((acc.count x : Int) + (cntL (acc ++ [x]) xs).sum = 0) ↔ (acc.count x = 0 ∧ (cntL (acc ++ [x]) xs).sum = 0) := by omega
    rw [e2, h2, List.count_eq_zero, List.nodup_cons]
    constructor
    · rintro ⟨a, b, c⟩
      refine ⟨⟨fun z => (c x z) (by simp), b⟩, fun y hy => ?_⟩
      rcases List.mem_cons.mp hy with rfl | hy
      · exact a
      · exact fun z => c y hy (List.mem_append_left _ z)
    · rintro ⟨⟨a, b⟩, c⟩
      refine ⟨c x List.mem_cons_self, b, fun y hy z => ?_⟩
      rcases List.mem_append.mp z with z | z
      · exact c y (List.mem_cons_of_mem _ hy) z
      · rw [List.mem_singleton] at z; subst z; exact a hy
theorem cnt_like : ∀ (xs acc : List Int), (cntL acc xs).sum ≤ triT acc.length xs.length ∧ ((cntL acc xs).sum = triT acc.length xs.length ↔ ∀ x ∈ xs, ∀ y ∈ acc ++ xs, y = x)
  | [], acc => by simp [cntL, triT]
  | x :: xs, acc => by
    obtain ⟨h1, h2⟩ := cnt_like xs (acc ++ [x])
    have e : (cntL acc (x :: xs)).sum = (acc.count x : Int) + (cntL (acc ++ [x]) xs).sum := by
      show (((acc.count x : Int)) :: cntL (acc ++ [x]) xs).sum = _
      rw [List.sum_cons]
    rw [List.length_append, List.length_singleton] at h1 h2
    have hc : acc.count x ≤ acc.length := List.count_le_length
    rw [e, List.length_cons]
    show _ ≤ (acc.length : Int) + triT (acc.length + 1) xs.length ∧ (_ = (acc.length : Int) + triT (acc.length + 1) xs.length ↔ _)
    refine ⟨by omega, ?_⟩
    have e2 : ((acc.count x : Int) + (cntL (acc ++ [x]) xs).sum = (acc.length : Int) + triT (acc.length + 1) xs.length) ↔ (acc.count x = acc.length ∧ (cntL (acc ++ [x]) xs).sum = triT (acc.length + 1) xs.length) := by omega
    rw [e2, h2, List.count_eq_length]
    constructor
    · rintro ⟨a, b⟩ z hz y hy
      rcases List.mem_cons.mp hz with rfl | hz
      · rcases List.mem_append.mp hy with hy | hy
        · exact (a y hy).symm
        · rcases List.mem_cons.mp hy with rfl | hy
          · rfl
          · exact (b y hy z (by simp)).symm
      · exact b z hz y (by
          rw [List.append_assoc]
          exact hy)
    · intro h
      refine ⟨fun y hy => (h x List.mem_cons_self y (List.mem_append_left _ hy)).symm, fun z hz y hy => ?_⟩
      rw [List.append_assoc] at hy
      exact h z (List.mem_cons_of_mem _ hz) y hy
theorem insA_len {x : Int} : ∀ {l : List Int}, l.Pairwise (· < ·) → (insA x l).length = if x ∈ l then l.length else l.length + 1
  | [], _ => by simp [insA]
  | y :: ys, h => by
    have h' := List.pairwise_cons.mp h
    unfold insA
    by_cases h1 : x < y
    · rw [if_pos h1, if_neg]
      · rfl
      · intro z
        rcases List.mem_cons.mp z with rfl | z
        · omega
        · have := h'.1 x z; omega
    · rw [if_neg h1]
      by_cases h2 : x = y
      · rw [if_pos h2, if_pos (by rw [h2]; exact List.mem_cons_self)]
      · rw [if_neg h2, List.length_cons, insA_len h'.2]
        by_cases h3 : x ∈ ys
        · rw [if_pos h3, if_pos (List.mem_cons_of_mem _ h3)]; rfl
        · rw [if_neg h3, if_neg (by simp [h2, h3])]; rfl
theorem srtd_asc2 : ∀ vs : List Int, (srtd vs).Pairwise (· < ·)
  | [] => .nil
  | x :: xs => insA_asc (srtd_asc2 xs)
theorem srtd_cons (x : Int) (xs : List Int) : (srtd (x :: xs)).length = if x ∈ xs then (srtd xs).length else (srtd xs).length + 1 := by
  show (insA x (srtd xs)).length = _
  rw [insA_len (srtd_asc2 xs)]
  simp only [mem_srtd]
theorem srtd_nod : ∀ vs : List Int, (srtd vs).length = vs.length ↔ vs.Nodup
  | [] => by simp [srtd]
  | x :: xs => by
    have h1 := srtd_len xs
    have ih := srtd_nod xs
    rw [srtd_cons, List.nodup_cons, List.length_cons]
    by_cases h : x ∈ xs
    · rw [if_pos h]
      constructor
      · intro z; omega
      · intro z; exact absurd h z.1
    · rw [if_neg h, ← ih]
      constructor
      · intro z; exact ⟨h, by omega⟩
      · intro z; omega
theorem srtd_one {vs : List Int} (h : vs ≠ []) : (srtd vs).length = 1 ↔ ∀ a ∈ vs, ∀ b ∈ vs, b = a := by
  constructor
  · intro h1 a ha b hb
    obtain ⟨z, e⟩ := List.length_eq_one_iff.mp h1
    have ha' := mem_srtd.mpr ha
    have hb' := mem_srtd.mpr hb
    rw [e, List.mem_singleton] at ha' hb'
    rw [ha', hb']
  · intro h1
    have asc := srtd_asc2 vs
    cases e : srtd vs with
    | nil =>
      obtain ⟨a, ha⟩ := List.exists_mem_of_ne_nil _ h
      have := mem_srtd.mpr ha
      rw [e] at this
      cases this
    | cons y ys =>
      cases ys with
      | nil => rfl
      | cons z zs =>
        rw [e] at asc
        have lt := (List.pairwise_cons.mp asc).1 z List.mem_cons_self
        have hy : y ∈ vs := mem_srtd.mp (by rw [e]; exact List.mem_cons_self)
        have hz : z ∈ vs := mem_srtd.mp (by rw [e]; exact List.mem_cons_of_mem _ List.mem_cons_self)
        have := h1 y hy z hz
        omega
/-- unlike: no pair is the same -/
theorem plain_unlike (vs : List Int) : ((cntL [] vs).sum = 0) ↔ ((srtd vs).length = vs.length) := by
  rw [(cnt_unlike vs []).2, srtd_nod]
  simp
/-- like: all pairs are the same -/
theorem plain_like {vs : List Int} (h : vs ≠ []) : ((cntL [] vs).sum = triT 0 vs.length) ↔ ((srtd vs).length = 1) := by
  have := (cnt_like vs []).2
  rw [List.length_nil, List.nil_append] at this
  rw [this, srtd_one h]
/-! ### where conditions hold -/
def wd : Da → Str
  | .tuple [.str w, _] => w
  | _ => ""
def sub1 : Da → Da
  | .tuple [_, e] => e
  | _ => .none
def rows : Da → List Da
  | .tuple [_, .tuple es] => es
  | _ => []
def HV (wv : Da → Int) : Nat → Da → Bool
  | 0, _ => false
  | n + 1, d => if wd d = "not" then !HV wv n (sub1 d) else if wd d = "all" then (rows d).all (HV wv n) else if wd d = "some" then (rows d).any (HV wv n)
      else if wd d = "like" then decide ((srtd ((rows d).map wv)).length = 1) else decide ((srtd ((rows d).map wv)).length = (rows d).length)
section
variable {wv : Da → Int} {n : Nat} {e : Da} {es : List Da}
theorem hv_not : HV wv (n + 1) (.tuple [.str "not", e]) = !HV wv n e := by
  show (if ("not" : Str) = "not" then _ else _) = _
  rw [if_pos rfl]; rfl
theorem hv_all : HV wv (n + 1) (.tuple [.str "all", .tuple es]) = es.all (HV wv n) := by
  show (if ("all" : Str) = "not" then _ else if ("all" : Str) = "all" then _ else _) = _
  rw [if_neg (by decide +kernel), if_pos rfl]; rfl
theorem hv_some : HV wv (n + 1) (.tuple [.str "some", .tuple es]) = es.any (HV wv n) := by
  show (if ("some" : Str) = "not" then _ else if ("some" : Str) = "all" then _ else if ("some" : Str) = "some" then _ else _) = _
  rw [if_neg (by decide +kernel), if_neg (by decide +kernel), if_pos rfl]; rfl
theorem hv_like : HV wv (n + 1) (.tuple [.str "like", .tuple es]) = decide ((srtd (es.map wv)).length = 1) := by
  show (if ("like" : Str) = "not" then _ else if ("like" : Str) = "all" then _ else if ("like" : Str) = "some" then _ else if ("like" : Str) = "like" then _ else _) = _
  rw [if_neg (by decide +kernel), if_neg (by decide +kernel), if_neg (by decide +kernel), if_pos rfl]; rfl
theorem hv_unlike : HV wv (n + 1) (.tuple [.str "unlike", .tuple es]) = decide ((srtd (es.map wv)).length = es.length) := by
  show (if ("unlike" : Str) = "not" then _ else if ("unlike" : Str) = "all" then _ else if ("unlike" : Str) = "some" then _ else if ("unlike" : Str) = "like" then _ else _) = _
  rw [if_neg (by decide +kernel), if_neg (by decide +kernel), if_neg (by decide +kernel), if_neg (by decide +kernel)]; rfl
end
theorem all_congr {l : List Da} {f g : Da → Bool} (h : ∀ x ∈ l, f x = g x) : l.all f = l.all g := by
  induction l with
  | nil => rfl
  | cons x xs ih => rw [List.all_cons, List.all_cons, h x List.mem_cons_self, ih fun y hy => h y (List.mem_cons_of_mem _ hy)]
theorem any_congr {l : List Da} {f g : Da → Bool} (h : ∀ x ∈ l, f x = g x) : l.any f = l.any g := by
  induction l with
  | nil => rfl
  | cons x xs ih => rw [List.any_cons, List.any_cons, h x List.mem_cons_self, ih fun y hy => h y (List.mem_cons_of_mem _ hy)]
theorem hv_up {N : Int} {wv : Da → Int} {k : Nat} : ∀ {n m q : Nat} {d : Da}, n ≤ m → CondD N k n q d → HV wv m d = HV wv n d
  | 0, _, _, _, _, h => h.elim
  | n + 1, 0, _, _, hm, _ => by omega
  | n + 1, m + 1, q, d, hm, h => by
    rcases h with ⟨w, es, hw, he, h1, h2, rfl⟩ | ⟨e, he, rfl⟩ | ⟨w, es, r, hw, he, h1, h2, rfl, _⟩
    · rcases hw with rfl | rfl
      · rw [hv_unlike, hv_unlike]
      · rw [hv_like, hv_like]
    · rw [hv_not, hv_not, hv_up (by omega) he]
    · rcases hw with rfl | rfl
      · rw [hv_all, hv_all]
        exact all_congr fun e h => hv_up (by omega) (he e h)
      · rw [hv_some, hv_some]
        exact any_congr fun e h => hv_up (by omega) (he e h)
end K84
end
section
set_option Elab.async false
set_option linter.all false
set_option maxRecDepth 100000
set_option maxHeartbeats 4000000
namespace K84
open PySem L2 Ip
section
variable {p N : Int} {c : List Int}
abbrev ch (c : List Int) : Sl := .fz (.tuple (c.map PyData.int))
theorem not_holds {m : Nat} {e : Da} {b : Bool} (h : Ev (f_holds m) [.fz (.int p), .fz e, ch c] (.bool b)) : Ev (f_holds (m + 1)) [.fz (.int p), .fz (.tuple [.str "not", e]), ch c] (.bool !b) := by
  intro P Px hp
  show fnOf 3 4 _ _ _ _
  unfold fnOf
  simp [and_assoc, eqS]
  refine h _ _ ?_
  cases b <;> (simp at hp ⊢; exact hp)
theorem all_holds {m : Nat} {es : List Da} {g : Da → Bool} (h10 : es.length ≤ 10) (h : ∀ e ∈ es, Ev (f_holds m) [.fz (.int p), .fz e, ch c] (.bool (g e))) : Ev (f_holds (m + 1)) [.fz (.int p), .fz (.tuple [.str "all", .tuple es]), ch c] (.bool (es.all g)) := by
  intro P Px hp
  show fnOf 3 4 _ _ _ _
  unfold fnOf
  simp [and_assoc, eqS]
  refine lc_map (fun e => .bool (g e)) es (by omega) ?_ ?_
  · intro e he S hS
    simp
    refine h e he _ _ ?_
    simp
    exact hS _ (by simp)
  · simp [allB]
    exact hp
theorem some_holds {m : Nat} {es : List Da} {g : Da → Bool} (h10 : es.length ≤ 10) (h : ∀ e ∈ es, Ev (f_holds m) [.fz (.int p), .fz e, ch c] (.bool (g e))) : Ev (f_holds (m + 1)) [.fz (.int p), .fz (.tuple [.str "some", .tuple es]), ch c] (.bool (es.any g)) := by
  intro P Px hp
  show fnOf 3 4 _ _ _ _
  unfold fnOf
  simp [and_assoc, eqS]
  refine lc_map (fun e => .bool (g e)) es (by omega) ?_ ?_
  · intro e he S hS
    simp
    refine h e he _ _ ?_
    simp
    exact hS _ (by simp)
  · simp [anyB]
    exact hp
theorem map_int (es : List Da) (g : Da → Int) : (es.map fun e => PyData.int (g e)) = (es.map g).map PyData.int := by rw [List.map_map]; rfl
theorem base_holds {m : Nat} {w : Str} (hw : w = "unlike" ∨ w = "like") {es : List Da} {g : Da → Int} (h5 : es.length ≤ 5) (h : ∀ e ∈ es, Ev (f_sum_worth 60) [.fz (.int p), .fz e, ch c] (.int (g e))) :
    Ev (f_holds (m + 1)) [.fz (.int p), .fz (.tuple [.str w, .tuple es]), ch c] (.bool (decide ((srtd (es.map g)).length = if w = "like" then 1 else es.length))) := by
  intro P Px hp
  show fnOf 3 4 _ _ _ _
  unfold fnOf
  rcases hw with rfl | rfl
  · simp at hp
    simp [and_assoc, eqS]
    refine lc_map (fun e => .int (g e)) es (by omega) ?_ ?_
    · intro e he S hS
      simp
      refine h e he _ _ ?_
      simp
      exact hS _ (by simp)
    · simp [and_assoc, eqS]
      refine ⟨es.map g, map_int es g, by simp; omega, ?_⟩
      have e1 : (((srtd (es.map g)).length : Int) == (es.length : Int)) = decide ((srtd (es.map g)).length = es.length) := by
        by_cases z : (srtd (es.map g)).length = es.length
        · simp [z]
        · simp [z]; omega
      rw [e1]
      exact hp
  · simp at hp
    simp [and_assoc, eqS]
    refine lc_map (fun e => .int (g e)) es (by omega) ?_ ?_
    · intro e he S hS
      simp
      refine h e he _ _ ?_
      simp
      exact hS _ (by simp)
    · simp [and_assoc, eqS]
      refine ⟨es.map g, map_int es g, by simp; omega, ?_⟩
      have e1 : (((srtd (es.map g)).length : Int) == 1) = decide ((srtd (es.map g)).length = 1) := by
        by_cases z : (srtd (es.map g)).length = 1
        · simp [z]
        · simp [z]; omega
      rw [e1]
      exact hp
theorem not_lholds {m : Nat} {e : Da} {b : Bool} (h : Ev (f__law_holds m) [.fz (.int p), .fz e, ch c] (.bool b)) : Ev (f__law_holds (m + 1)) [.fz (.int p), .fz (.tuple [.str "not", e]), ch c] (.bool !b) := by
  intro P Px hp
  show fnOf 3 6 _ _ _ _
  unfold fnOf
  simp [and_assoc, eqS]
  refine h _ _ ?_
  cases b <;> (simp at hp ⊢; exact hp)
theorem lc_cnt {G : WG} {Tt : WT Bool} {A : WT Da} {vs : List Nat} {P : List Da → En → Prop} {Px : Ex → En → Prop} {ρ : En} (g : Da → Bool) (ds : List Da) (hl : ds.length ≤ 100000)
    (h : ∀ d ∈ ds, ∀ (S1 : Da → En → Prop) (S0 : En → Prop), (g d = true → ∀ ρ4, backE ρ ρ4 vs = ρ → S1 (.int 1) ρ4) → (g d = false → ∀ ρ3, backE ρ ρ3 vs = ρ → S0 ρ3) →
      G d (wipeE ρ vs) (fun ρ2 => Tt ρ2 (fun b ρ3 => (b = true ∧ A ρ3 S1 noX) ∨ (b = false ∧ S0 ρ3)) noX))
    (hp : P (List.replicate (ds.countP g) (.int 1)) ρ) : lcL G Tt A vs P Px [] ds ρ := by
  refine lc_det (fun d => if g d then some (.int 1) else none) ds [] (by simpa using hl) ?_ ?_
  · intro d hd S1 S0 k1 k0
    refine h d hd S1 S0 (fun z => k1 _ (by rw [if_pos z])) (fun z => k0 (by rw [if_neg (by rw [z]; exact Bool.false_ne_true)]))
  · rw [List.nil_append]
    have e : (ds.filterMap fun d => if g d then some (PyData.int 1) else none) = List.replicate (ds.countP g) (.int 1) := by
      clear h hp hl
      induction ds with
      | nil => rfl
      | cons d ds ih =>
        rw [List.filterMap_cons]
        by_cases z : g d = true
        · rw [if_pos z, List.countP_cons_of_pos z, List.replicate_succ, ih]
        · rw [if_neg z, List.countP_cons_of_neg z, ih]
    rw [e]
    exact hp
theorem count_all (es : List Da) (g : Da → Bool) : (((es.countP g : Nat) : Int) == (es.length : Int)) = es.all g := by
  have := List.countP_eq_length (p := g) (l := es)
  by_cases z : es.countP g = es.length
  · rw [z, beq_self_eq_true, eq_comm, List.all_eq_true]
    exact this.mp z
  · rw [beq_false_of_ne (by omega), eq_comm, Bool.eq_false_iff]
    intro y
    exact z (this.mpr (List.all_eq_true.mp y))
theorem count_any (es : List Da) (g : Da → Bool) : (decide ((0 : Int) < (es.countP g : Nat))) = es.any g := by
  have := List.countP_pos_iff (p := g) (l := es)
  by_cases z : 0 < es.countP g
  · rw [decide_eq_true (by omega), eq_comm, List.any_eq_true]
    exact this.mp z
  · rw [decide_eq_false (by omega), eq_comm, Bool.eq_false_iff]
    intro y
    exact z (this.mpr (List.any_eq_true.mp y))
theorem all_lholds {m : Nat} {es : List Da} {g : Da → Bool} (h10 : es.length ≤ 10) (h : ∀ e ∈ es, Ev (f__law_holds m) [.fz (.int p), .fz e, ch c] (.bool (g e))) : Ev (f__law_holds (m + 1)) [.fz (.int p), .fz (.tuple [.str "all", .tuple es]), ch c] (.bool (es.all g)) := by
  intro P Px hp
  show fnOf 3 6 _ _ _ _
  unfold fnOf
  simp [and_assoc, eqS, in2l]
  refine lc_cnt g es (by omega) ?_ ?_
  · intro e he S1 S0 k1 k0
    simp
    refine h e he _ _ ?_
    simp
    cases hg : g e with
    | true => simp; exact k1 hg _ (by simp)
    | false => simp; exact k0 hg _ (by simp)
  · cases hg : es.all g with
    | true => rw [hg] at hp; simp at hg; simp [and_assoc, eqS, count_all]; exact .inl ⟨hg, hp⟩
    | false => rw [hg] at hp; simp at hg; simp [and_assoc, eqS, count_all]; exact .inr ⟨hg, hp⟩
theorem some_lholds {m : Nat} {es : List Da} {g : Da → Bool} (h1 : es ≠ []) (h10 : es.length ≤ 10) (h : ∀ e ∈ es, Ev (f__law_holds m) [.fz (.int p), .fz e, ch c] (.bool (g e))) : Ev (f__law_holds (m + 1)) [.fz (.int p), .fz (.tuple [.str "some", .tuple es]), ch c] (.bool (es.any g)) := by
  intro P Px hp
  show fnOf 3 6 _ _ _ _
  unfold fnOf
  simp [and_assoc, eqS, in2l]
  refine lc_cnt g es (by omega) ?_ ?_
  · intro e he S1 S0 k1 k0
    simp
    refine h e he _ _ ?_
    simp
    cases hg : g e with
    | true => simp; exact k1 hg _ (by simp)
    | false => simp; exact k0 hg _ (by simp)
  · cases hg : es.all g with
    | true =>
      have : es.any g = true := by
        obtain ⟨a, ha⟩ := List.exists_mem_of_ne_nil _ h1
        exact List.any_eq_true.mpr ⟨a, ha, List.all_eq_true.mp hg a ha⟩
      rw [this] at hp; simp at hg; simp [and_assoc, eqS, count_all]; exact .inl ⟨hg, hp⟩
    | false =>
      simp at hg
      simp [and_assoc, eqS, count_all]
      refine .inr ⟨hg, ?_⟩
      have e : decide (∃ a, a ∈ es ∧ g a = true) = es.any g := by
        rw [Bool.eq_iff_iff, decide_eq_true_iff, List.any_eq_true]
      rw [e]
      exact hp
end
end K84
end
section
set_option Elab.async false
set_option linter.all false
set_option maxRecDepth 100000
set_option maxHeartbeats 4000000
namespace K84
open PySem L2 Ip
/-! ### what is no sum -/
theorem is_tree {N : Int} {m : Nat} {k : Int} : Ev (f_is_sum_tree (m + 1)) [.fz (.int N), .fz (.tuple [.str "is", .int k])] (.bool (decide (0 ≤ k) && decide (k < 10 ^ 30))) := by
  intro P Px hp
  show fnOf 2 3 _ _ _ _
  unfold fnOf
  simp
  refine rowof_k rfl ?_
  simp [and_assoc, lenT, isi_str, eqS]
  refine number_k rfl ?_
  by_cases h0 : 0 ≤ k
  · simp [h0] at hp
    simp [numB, h0]
    exact hp
  · simp [h0] at hp
    simp [numB, h0]
    exact hp
theorem of_tree {N : Int} {m : Nat} {v : Da} (hv : noDict v = true) : Ev (f_is_sum_tree (m + 1)) [.fz (.int N), .fz (.tuple [.str "of", v])] (.bool (indexB N v)) := by
  intro P Px hp
  show fnOf 2 3 _ _ _ _
  unfold fnOf
  simp
  refine rowof_k rfl ?_
  simp [and_assoc, lenT, isi_str, eqS]
  refine index_k hv ?_
  simp
  exact hp
theorem len_tree {N : Int} {m : Nat} {ds : List Da} (h : ds.length ≠ 2) : Ev (f_is_sum_tree (m + 1)) [.fz (.int N), .fz (.tuple ds)] (.bool false) := by
  intro P Px hp
  show fnOf 2 3 _ _ _ _
  unfold fnOf
  simp
  refine rowof_k rfl ?_
  simp [lenT, h]
  exact hp
def withinB (m : Int) (d : Da) : Bool := match lenT d with | some k => decide (2 ≤ k) && decide ((k : Int) ≤ m) | none => false
theorem within_k2 {d : Da} {m : Int} {P : Da → List Sl → Prop} {Px : Ex → List Sl → Prop} (hd : noDict d = true) (h : P (.bool (withinB m d)) [.fz d, .fz (.int m)]) : f_is_row_within [.fz d, .fz (.int m)] P Px := within_k hd h
theorem in_tree {N : Int} {m : Nat} {w : Str} {v : Da} (hw : w = "add" ∨ w = "times") (hv : noDict v = true) (h : withinB 10 v = false) : Ev (f_is_sum_tree (m + 1)) [.fz (.int N), .fz (.tuple [.str w, v])] (.bool false) := by
  intro P Px hp
  show fnOf 2 3 _ _ _ _
  unfold fnOf
  simp
  refine rowof_k rfl ?_
  rcases hw with rfl | rfl
  all_goals
    simp [and_assoc, lenT, isi_str, eqS, in2]
    refine within_k2 hv ?_
    rw [show withinB _ v = false from h]
    simp
    exact hp
theorem minus_tree {N : Int} {m : Nat} {e : Da} {b : Bool} (h : Ev (f_is_sum_tree m) [.fz (.int N), .fz e] (.bool b)) : Ev (f_is_sum_tree (m + 1)) [.fz (.int N), .fz (.tuple [.str "minus", e])] (.bool b) := by
  intro P Px hp
  show fnOf 2 3 _ _ _ _
  unfold fnOf
  simp
  refine rowof_k rfl ?_
  simp [and_assoc, lenT, isi_str, eqS]
  refine h _ _ ?_
  simp
  exact hp
def lenG : Da → Int
  | .tuple [_, .tuple es] => es.length
  | _ => 0
def lenG2 : Da → Int
  | .tuple [_, .tuple _] => 5
  | _ => 0
/-- no sum, or of too great a form degree -/
def BadS (N : Int) (d : Da) : Prop := noDict d = true ∧ (Ev (f_is_sum_tree 60) [.fz (.int N), .fz d] (.bool false) ∨ (Ev (f_is_sum_tree 60) [.fz (.int N), .fz d] (.bool true) ∧ ∃ x : Int, Ev (f_form_degree 60) [.fz d] (.int x) ∧ ¬ x ≤ 4))
theorem sumc (es : List Da) (c : Int) : (es.map fun _ => c).sum = es.length * c := by
  induction es with
  | nil => simp
  | cons e es ih => rw [List.map_cons, List.sum_cons, ih, List.length_cons]; rw [show ((es.length + 1 : Nat) : Int) = (es.length : Int) + 1 by omega, Int.add_mul]; omega
theorem ofs_tree {N : Int} {m : Nat} {es : List Da} (he : ∀ e ∈ es, LeafO N e) (h2 : 2 ≤ es.length) (h10 : es.length ≤ 10) : Ev (f_is_sum_tree (m + 2)) [.fz (.int N), .fz (.tuple [.str "times", .tuple es])] (.bool true) := by
  have := row_tree (N := N) (m := m + 1) (.inr rfl) h2 h10 (fun _ => true) fun e h => leafO_tree (he e h)
  rwa [List.all_eq_true.mpr (fun _ _ => rfl)] at this
theorem ofs_deg {N : Int} {m : Nat} {es : List Da} (he : ∀ e ∈ es, LeafO N e) (h10 : es.length ≤ 10) : Ev (f_form_degree (m + 2)) [.fz (.tuple [.str "times", .tuple es])] (.int es.length) := by
  have := times_deg (m := m + 1) (es := es) (g := fun _ => 1) h10 fun e h => leafO_deg (he e h)
  rwa [sumc, Int.mul_one] at this
theorem bad_k {cs : List Int} {b N : Int} {P : Da → List Sl → Prop} {Px : Ex → List Sl → Prop} (hd : DL cs b) (h0 : 0 < N) (hn : N ≤ 10)
    (h : ∀ d, BadS N d → ∀ cs' b', DL cs' b' → P d [.dl cs' b', .fz (.int N)]) : f__law_bad_sum [.dl cs b, .fz (.int N)] P Px := by
  unfold f__law_bad_sum fnOf
  have e11 : ∀ d : Da, pMul (.tuple [d]) (.int 11) = some (.tuple [d, d, d, d, d, d, d, d, d, d, d]) := fun d => by
    unfold pMul
    simp only
    rw [if_pos ⟨by simp, by decide, by decide, by simp⟩]
    rfl
  have e5 : ∀ d : Da, pMul (.tuple [d]) (.int 5) = some (.tuple [d, d, d, d, d]) := fun d => by
    unfold pMul
    simp only
    rw [if_pos ⟨by simp, by decide, by decide, by simp⟩]
    rfl
  have e3 : ∀ d : Da, pMul (.tuple [d]) (.int 3) = some (.tuple [d, d, d]) := fun d => by
    unfold pMul
    simp only
    rw [if_pos ⟨by simp, by decide, by decide, by simp⟩]
    rfl
  have e2 : ∀ d : Da, pMul (.tuple [d]) (.int 2) = some (.tuple [d, d]) := fun d => by
    unfold pMul
    simp only
    rw [if_pos ⟨by simp, by decide, by decide, by simp⟩]
    rfl
  have p30 : pPow (.int 10) (.int 30) = some (.int (10 ^ 30)) := by
    unfold pPow pInt2
    simp only
    rw [if_pos (by decide)]
    rfl
  simp (config := {maxSteps := 2000000}) [and_assoc, e11, e5, e3, e2, p30, v_addL]
  have L : LeafO N (.tuple [.str "of", .int (N - 1)]) := ⟨N - 1, rfl, by omega, by omega⟩
  have O : LeafI (.tuple [.str "is", .int 1]) := ⟨1, rfl, by decide, by decide⟩
  have all : ∀ (k : Nat), ∀ e ∈ List.replicate k (PyData.tuple [.str "of", .int (N - 1)]), LeafO N e := fun k e he => by rw [(List.mem_replicate.mp he).2]; exact L
  refine of_k hd (by simp) (by simp) fun d hdm cs4 b4 hd4 => ?_
  simp
  refine h d ?_ _ _ hd4
  simp only [List.mem_cons, List.not_mem_nil, or_false] at hdm
  rcases hdm with rfl | rfl | rfl | rfl | rfl | rfl | rfl | rfl | rfl | rfl | rfl | rfl | rfl | rfl
  · refine ⟨rfl, .inl ?_⟩
    have := of_tree (N := N) (m := 59) (v := .int N) rfl
    rwa [show indexB N (.int N) = false by simp [indexB]] at this
  · refine ⟨rfl, .inl ?_⟩
    exact of_tree (N := N) (m := 59) (v := .int (-1)) rfl
  · refine ⟨rfl, .inl ?_⟩
    exact of_tree (N := N) (m := 59) (v := .bool true) rfl
  · exact ⟨rfl, .inl (is_tree (m := 59))⟩
  · exact ⟨rfl, .inl (is_tree (m := 59))⟩
  · exact ⟨rfl, .inl (in_tree (m := 59) (.inl rfl) rfl rfl)⟩
  · exact ⟨rfl, .inl (in_tree (m := 59) (.inr rfl) rfl rfl)⟩
  · exact ⟨rfl, .inl (in_tree (m := 59) (.inl rfl) rfl rfl)⟩
  · exact ⟨rfl, .inr ⟨ofs_tree (m := 58) (all 5) (by simp) (by simp), 5, ofs_deg (m := 58) (all 5) (by simp), by decide⟩⟩
  · exact ⟨rfl, .inr ⟨minus_tree (m := 59) (ofs_tree (m := 57) (all 5) (by simp) (by simp)), 5, minus_deg (m := 59) (ofs_deg (m := 57) (all 5) (by simp)), by decide⟩⟩
  · have t3 : Ev (f_is_sum_tree 58) [.fz (.int N), .fz (.tuple [.str "times", .tuple (List.replicate 3 (PyData.tuple [.str "of", .int (N - 1)]))])] (.bool true) := ofs_tree (m := 56) (all 3) (by simp) (by simp)
    have t2 : Ev (f_is_sum_tree 58) [.fz (.int N), .fz (.tuple [.str "times", .tuple (List.replicate 2 (PyData.tuple [.str "of", .int (N - 1)]))])] (.bool true) := ofs_tree (m := 56) (all 2) (by simp) (by simp)
    have d3 : Ev (f_form_degree 58) [.fz (.tuple [.str "times", .tuple (List.replicate 3 (PyData.tuple [.str "of", .int (N - 1)]))])] (.int 3) := ofs_deg (m := 56) (all 3) (by simp)
    have d2 : Ev (f_form_degree 58) [.fz (.tuple [.str "times", .tuple (List.replicate 2 (PyData.tuple [.str "of", .int (N - 1)]))])] (.int 2) := ofs_deg (m := 56) (all 2) (by simp)
    have T := row_tree (N := N) (m := 58) (.inr rfl) (es := [.tuple [.str "times", .tuple (List.replicate 3 (PyData.tuple [.str "of", .int (N - 1)]))], .tuple [.str "times", .tuple (List.replicate 2 (PyData.tuple [.str "of", .int (N - 1)]))]]) (by simp) (by simp) (fun _ => true) fun e he => by
      rcases List.mem_cons.mp he with rfl | he
      · exact t3
      · rcases List.mem_cons.mp he with rfl | he
        · exact t2
        · cases he
    have T2 := times_deg (m := 58) (es := [.tuple [.str "times", .tuple (List.replicate 3 (PyData.tuple [.str "of", .int (N - 1)]))], .tuple [.str "times", .tuple (List.replicate 2 (PyData.tuple [.str "of", .int (N - 1)]))]]) (g := lenG) (by simp) fun e he => by
      rcases List.mem_cons.mp he with rfl | he
      · exact d3
      · rcases List.mem_cons.mp he with rfl | he
        · exact d2
        · cases he
    refine ⟨rfl, .inr ⟨?_, 5, ?_, by decide⟩⟩
    · refine row_tree (N := N) (m := 59) (.inl rfl) (by simp) (by simp) (fun _ => true) fun e he => ?_
      rcases List.mem_cons.mp he with rfl | he
      · exact leafI_tree (m := 58) O
      · rcases List.mem_cons.mp he with rfl | he
        · exact T
        · cases he
    · refine add_deg (m := 59) (g := lenG2) (by simp) (fun e he => ?_) rfl
      rcases List.mem_cons.mp he with rfl | he
      · exact leafI_deg (m := 58) O
      · rcases List.mem_cons.mp he with rfl | he
        · exact T2
        · cases he
  · exact ⟨rfl, .inl (in_tree (m := 59) (.inl rfl) rfl rfl)⟩
  · exact ⟨rfl, .inl (len_tree (m := 59) (by simp))⟩
  · exact ⟨rfl, .inl (len_tree (m := 59) (by simp))⟩
end K84
end
section
set_option Elab.async false
set_option linter.all false
set_option maxRecDepth 100000
set_option maxHeartbeats 4000000
namespace K84
open PySem L2 Ip
/-! ### what is no condition -/
theorem cut_to {xs : List Da} {k : Nat} (h : k ≤ xs.length) : cutD xs none (some (k : Int)) = xs.take k := by
  unfold cutD
  rw [HT.sIx_none, HT.sIx_nat, Nat.min_eq_left h, List.drop_zero, Nat.sub_zero]
theorem cut_from {xs : List Da} {k : Nat} (h : k ≤ xs.length) : cutD xs (some (k : Int)) none = xs.drop k := by
  unfold cutD
  rw [HT.sIx_none, HT.sIx_nat, Nat.min_eq_left h]
  exact List.take_of_length_le (by rw [List.length_drop]; omega)
@[simp] theorem v_slT (ds : List Da) (lo hi : Option Int) : pSl (.tuple ds) lo hi = some (.tuple (cutD ds lo hi)) := rfl
@[simp] theorem v_slL (ds : List Da) (lo hi : Option Int) : pSl (.list ds) lo hi = some (.list (cutD ds lo hi)) := rfl
theorem cut1 {xs : List Da} (h : 1 ≤ xs.length) : cutD xs none (some 1) = xs.take 1 := cut_to (k := 1) h
theorem len_cond {N : Int} {m : Nat} {ds : List Da} (h : ds.length ≠ 2) : Ev (f_is_condition (m + 1)) [.fz (.int N), .fz (.tuple ds)] (.bool false) := by
  intro P Px hp
  show fnOf 2 3 _ _ _ _
  unfold fnOf
  simp
  refine rowof_k rfl ?_
  simp [lenT, h]
  exact hp
theorem in_cond {N : Int} {m : Nat} {w : Str} {v : Da} (hw : w = "all" ∨ w = "some") (hv : noDict v = true) (h : withinB 10 v = false) : Ev (f_is_condition (m + 1)) [.fz (.int N), .fz (.tuple [.str w, v])] (.bool false) := by
  intro P Px hp
  show fnOf 2 3 _ _ _ _
  unfold fnOf
  simp
  refine rowof_k rfl ?_
  rcases hw with rfl | rfl
  all_goals
    simp [and_assoc, lenT, isi_str, eqS, in2]
    refine within_k2 hv ?_
    rw [show withinB _ v = false from h]
    simp
    exact hp
theorem in_base {N : Int} {m : Nat} {w : Str} {v : Da} (hw : w = "unlike" ∨ w = "like") (hv : noDict v = true) (h : withinB 5 v = false) : Ev (f_is_condition (m + 1)) [.fz (.int N), .fz (.tuple [.str w, v])] (.bool false) := by
  intro P Px hp
  show fnOf 2 3 _ _ _ _
  unfold fnOf
  simp
  refine rowof_k rfl ?_
  rcases hw with rfl | rfl
  all_goals
    simp [and_assoc, lenT, isi_str, eqS, in2]
    refine within_k2 hv ?_
    rw [show withinB _ v = false from h]
    simp
    exact hp
theorem any_cond {N : Int} {m : Nat} {v : Da} : Ev (f_is_condition (m + 1)) [.fz (.int N), .fz (.tuple [.str "any", v])] (.bool false) := by
  intro P Px hp
  show fnOf 2 3 _ _ _ _
  unfold fnOf
  simp
  refine rowof_k rfl ?_
  simp [and_assoc, lenT, isi_str, eqS, in2]
  exact hp
theorem at_nat {ds : List Da} {k : Nat} (h : k < ds.length) : atI ds (k : Int) = some ds[k] := Ip.atI_nat (List.getElem?_eq_getElem h)
theorem mulT {xs : List Da} {k : Int} (h : xs ≠ [] ∧ 1 ≤ k ∧ k ≤ 1000 ∧ xs.length ≤ 1000) : pMul (.tuple xs) (.int k) = some (.tuple (List.replicate k.toNat xs).flatten) := by
  unfold pMul
  simp only
  rw [if_pos h]
theorem put_mem {ds : List Da} {k : Nat} {x e : Da} (h : e ∈ ds.take k ++ [x] ++ ds.drop (k + 1)) : e = x ∨ e ∈ ds := by
  rcases List.mem_append.mp h with h | h
  · rcases List.mem_append.mp h with h | h
    · exact .inr (List.mem_of_mem_take h)
    · exact .inl (List.mem_singleton.mp h)
  · exact .inr (List.mem_of_mem_drop h)
theorem put_len {ds : List Da} {k : Nat} {x : Da} (h : k < ds.length) : (ds.take k ++ [x] ++ ds.drop (k + 1)).length = ds.length := by
  simp; omega
open Classical in
theorem put_all {ds : List Da} {k : Nat} {x : Da} : (ds.take k ++ [x] ++ ds.drop (k + 1)).all (fun e => !decide (e = x)) = false := by
  rw [List.all_eq_false]
  exact ⟨x, by simp, by simp⟩
open Classical in
theorem spoilt_k {N : Int} (h0 : 0 < N) (hn : N ≤ 10) : ∀ (n m k q : Nat) (d : Da), n < m → n < k → CondD N 17 n q d → ∀ (cs : List Int) (b : Int) (P : Da → List Sl → Prop) (Px : Ex → List Sl → Prop), DL cs b →
    (∀ d', noDict d' = true → Ev (f_is_condition m) [.fz (.int N), .fz d'] (.bool false) → ∀ cs' b', DL cs' b' → P d' [.dl cs' b', .fz (.int N), .fz d]) → f__law_spoilt k [.dl cs b, .fz (.int N), .fz d] P Px
  | 0, _, _, _, _, _, _, h => h.elim
  | n + 1, 0, _, _, _, hm, _, _ => by omega
  | n + 1, m + 1, 0, _, _, _, hk, _ => by omega
  | n + 1, m + 1, k + 1, q, d, hm, hk, hc => by
    intro cs b P Px hd h
    show fnOf 3 3 _ _ _ _
    unfold fnOf
    have pad : ∀ (es : List Da) (t : Nat), 2 ≤ es.length → es.length < t → t ≤ 11 → ∃ r : List Da, r.length = t - es.length ∧ pMul (.tuple (es.take 1)) (.int ((t : Int) - (es.length : Int))) = some (.tuple r) := fun es t h1 h2 h3 => by
      cases es with
      | nil => simp at h1
      | cons x xs =>
        refine ⟨List.replicate (t - (x :: xs).length) x, by simp, ?_⟩
        have e : (t : Int) - ((x :: xs).length : Int) = ((t - (x :: xs).length : Nat) : Int) := by omega
        rw [e]
        rw [show (x :: xs).take 1 = [x] from rfl, mulT ⟨by simp, by omega, by omega, by simp⟩, Int.toNat_natCast]
        congr 2
        generalize t - (x :: xs).length = k
        induction k with
        | zero => rfl
        | succ k ih => rw [List.replicate_succ, List.flatten_cons, ih]; rfl
    rcases hc with ⟨w, es, hw, he, h1, h2, rfl⟩ | ⟨e, he, rfl⟩ | ⟨w, es, r, hw, he, h1, h2, rfl, _⟩
    · have len11 : ∀ r : List Da, r.length = 6 - es.length → withinB 5 (.tuple (es ++ r)) = false := fun r hr => by
        unfold withinB lenT
        simp only [List.length_append]
        rw [decide_eq_false (by omega : ¬ ((es.length + r.length : Nat) : Int) ≤ 5), Bool.and_false]
      have hw2 := hw
      rcases hw with rfl | rfl
      all_goals
        rw [sim_sSeq]
        simp [-sim_sSeq, and_assoc]
        rw [sim_sSeq]
        simp [-sim_sSeq, and_assoc, eqS]
        rw [sim_sSeq]
        simp [-sim_sSeq, and_assoc]
        refine any_k hd (by omega) (by omega) fun k1 cs1 b1 a1 a2 hd1 => ?_
        simp [-sim_sSeq, and_assoc]
        refine of_k hd1 (by simp) (by simp) fun v hv cs2 b2 hd2 => ?_
        obtain ⟨t, rfl, ht⟩ : ∃ t : Nat, v = .int t ∧ t < es.length := by
          simp at hv
          rcases hv with rfl | rfl | rfl
          · exact ⟨0, rfl, by omega⟩
          · exact ⟨es.length - 1, by congr 1; omega, by omega⟩
          · exact ⟨k1.toNat, by congr 1; omega, by omega⟩
        simp [-sim_sSeq, and_assoc]
        rw [sim_sSeq]
        simp [-sim_sSeq, and_assoc, eqS, in2l]
        rw [sim_sSeq]
        simp [-sim_sSeq, and_assoc]
        refine any_k hd2 (by decide) (by decide) fun k3 cs3 b3 c1 c2 hd3 => ?_
        simp [-sim_sSeq, and_assoc]
        by_cases hk3 : 0 < k3
        · have hk4 : ¬ k3 ≤ 0 := by omega
          simp [-sim_sSeq, hk3, hk4, cut_to (Nat.le_of_lt ht)]
          refine bad_k hd3 h0 hn fun x hx cs4 b4 hd4 => ?_
          have cf := cut_from (xs := es) (k := t + 1) ht
          have e1 : ((t + 1 : Nat) : Int) = (t : Int) + 1 := by omega
          rw [e1] at cf
          have a1 : pAdd (.tuple (es.take t)) (.tuple [x]) = some (.tuple (es.take t ++ [x])) := by
            rw [v_addT, if_pos]
            simp; omega
          have a2 : pAdd (.tuple (es.take t ++ [x])) (.tuple (es.drop (t + 1))) = some (.tuple (es.take t ++ [x] ++ es.drop (t + 1))) := by
            rw [v_addT, if_pos]
            simp; omega
          simp [cf, a1, a2]
          refine h _ rfl ?_ _ _ hd4
          have := base_cond (N := N) (m := m) hw2 (es := es.take t ++ [x] ++ es.drop (t + 1)) (by rw [put_len ht]; exact h1) (by rw [put_len ht]; exact h2) (fun e => !decide (e = x)) fun e he' => by
            by_cases hx1 : e = x
            · subst hx1
              rcases hx.2 with k | ⟨k, y, k2, k3⟩
              · exact ⟨false, k, .inl ⟨rfl, by simp⟩⟩
              · exact ⟨true, k, .inr ⟨rfl, y, k2, by simp [k3]⟩⟩
            · have he2 := (put_mem he').resolve_left hx1
              obtain ⟨y, hy, k⟩ := deg_ok 17 60 e (by omega) (he e he2)
              exact ⟨true, tree_ok 17 60 e (by omega) (he e he2), .inr ⟨rfl, y, k, by simp [hx1, hy]⟩⟩
          rw [put_all] at this
          simpa using this
        · have hk4 : k3 ≤ 0 := by omega
          obtain ⟨r, hr, er⟩ := pad es 6 h1 (by omega) (by omega)
          have er : pMul (.tuple (es.take 1)) (.int (6 - (es.length : Int))) = some (.tuple r) := er
          have a1 : pAdd (.tuple es) (.tuple r) = some (.tuple (es ++ r)) := by
            rw [v_addT, if_pos]
            omega
          simp [-sim_sSeq, hk3, hk4, cut1 (show 1 ≤ es.length by omega), er, a1]
          refine of_k hd3 (by simp) (by simp) fun d' hd' cs4 b4 hd4 => ?_
          simp
          simp only [List.mem_cons, List.not_mem_nil, or_false] at hd'
          rcases hd' with rfl | rfl | rfl | rfl
          · exact h _ rfl (in_base hw2 rfl (len11 r hr)) _ _ hd4
          · exact h _ rfl (in_base hw2 rfl (by simp [withinB, lenT]; omega)) _ _ hd4
          · exact h _ rfl (in_base hw2 rfl rfl) _ _ hd4
          · exact h _ rfl (len_cond (by simp)) _ _ hd4
    · rw [sim_sSeq]
      simp [-sim_sSeq, and_assoc]
      rw [sim_sSeq]
      simp [-sim_sSeq, and_assoc, eqS]
      refine spoilt_k h0 hn n m k q e (by omega) (by omega) he _ _ _ _ hd fun d' hn' hd' cs' b' hl => ?_
      simp
      exact h _ rfl (not_cond hd') _ _ hl
    · have len11 : ∀ r : List Da, r.length = 11 - es.length → withinB 10 (.tuple (es ++ r)) = false := fun r hr => by
        unfold withinB lenT
        simp only [List.length_append]
        rw [decide_eq_false (by omega : ¬ ((es.length + r.length : Nat) : Int) ≤ 10), Bool.and_false]
      have hw2 := hw
      rcases hw with rfl | rfl
      all_goals
        rw [sim_sSeq]
        simp [-sim_sSeq, and_assoc]
        rw [sim_sSeq]
        simp [-sim_sSeq, and_assoc, eqS]
        rw [sim_sSeq]
        simp [-sim_sSeq, and_assoc]
        refine any_k hd (by omega) (by omega) fun k1 cs1 b1 a1 a2 hd1 => ?_
        simp [-sim_sSeq, and_assoc]
        refine of_k hd1 (by simp) (by simp) fun v hv cs2 b2 hd2 => ?_
        obtain ⟨t, rfl, ht⟩ : ∃ t : Nat, v = .int t ∧ t < es.length := by
          simp at hv
          rcases hv with rfl | rfl | rfl
          · exact ⟨0, rfl, by omega⟩
          · exact ⟨es.length - 1, by congr 1; omega, by omega⟩
          · exact ⟨k1.toNat, by congr 1; omega, by omega⟩
        simp [-sim_sSeq, and_assoc]
        rw [sim_sSeq]
        simp [-sim_sSeq, and_assoc, eqS, in2l]
        rw [sim_sSeq]
        simp [-sim_sSeq, and_assoc]
        refine any_k hd2 (by decide) (by decide) fun k3 cs3 b3 c1 c2 hd3 => ?_
        simp [-sim_sSeq, and_assoc]
        by_cases hk3 : 0 < k3
        · have hk4 : ¬ k3 ≤ 0 := by omega
          simp [-sim_sSeq, hk3, hk4, cut_to (Nat.le_of_lt ht), at_nat ht]
          refine spoilt_k h0 hn n m k r es[t] (by omega) (by omega) (he _ (List.getElem_mem ht)) _ _ _ _ hd3 fun x xn hx cs4 b4 hd4 => ?_
          have cf := cut_from (xs := es) (k := t + 1) ht
          have e1 : ((t + 1 : Nat) : Int) = (t : Int) + 1 := by omega
          rw [e1] at cf
          have a1 : pAdd (.tuple (es.take t)) (.tuple [x]) = some (.tuple (es.take t ++ [x])) := by
            rw [v_addT, if_pos]
            simp; omega
          have a2 : pAdd (.tuple (es.take t ++ [x])) (.tuple (es.drop (t + 1))) = some (.tuple (es.take t ++ [x] ++ es.drop (t + 1))) := by
            rw [v_addT, if_pos]
            simp; omega
          simp [cf, a1, a2]
          refine h _ rfl ?_ _ _ hd4
          have := rows_cond (N := N) (m := m) hw2 (es := es.take t ++ [x] ++ es.drop (t + 1)) (by rw [put_len ht]; exact h1) (by rw [put_len ht]; exact h2) (fun e => !decide (e = x)) fun e he' => by
            by_cases hx1 : e = x
            · subst hx1
              simpa using hx
            · have he2 := (put_mem he').resolve_left hx1
              simpa [hx1] using cond_ok n m r e (by omega) (he e he2)
          rw [put_all] at this
          simpa using this
        · have hk4 : k3 ≤ 0 := by omega
          obtain ⟨rr, hr, er⟩ := pad es 11 h1 (by omega) (by omega)
          have er : pMul (.tuple (es.take 1)) (.int (11 - (es.length : Int))) = some (.tuple rr) := er
          have a1 : pAdd (.tuple es) (.tuple rr) = some (.tuple (es ++ rr)) := by
            rw [v_addT, if_pos]
            omega
          simp [-sim_sSeq, hk3, hk4, cut1 (show 1 ≤ es.length by omega), er, a1]
          refine of_k hd3 (by simp) (by simp) fun d' hd' cs4 b4 hd4 => ?_
          simp
          simp only [List.mem_cons, List.not_mem_nil, or_false] at hd'
          rcases hd' with rfl | rfl | rfl | rfl | rfl
          · exact h _ rfl (in_cond hw2 rfl (len11 rr hr)) _ _ hd4
          · exact h _ rfl (in_cond hw2 rfl (by simp [withinB, lenT]; omega)) _ _ hd4
          · exact h _ rfl (in_cond hw2 rfl rfl) _ _ hd4
          · exact h _ rfl (len_cond (by simp)) _ _ hd4
          · exact h _ rfl any_cond _ _ hd4
end K84
end
section
set_option Elab.async false
set_option linter.all false
set_option maxRecDepth 100000
set_option maxHeartbeats 4000000
namespace K84
open PySem L2 Ip
section
variable {p N : Int} {c : List Int}
/-- how often an element stood ahead of its place -/
def ahead (vs : List Int) : Da → Da
  | .tuple [.int i, .int x] => .int ((vs.take i.toNat).count x : Nat)
  | _ => .none
theorem ahead_map (vs : List Int) : ∀ (xs acc : List Int), vs = acc ++ xs → (enumF acc.length (xs.map PyData.int)).map (ahead vs) = (cntL acc xs).map PyData.int
  | [], acc, h => rfl
  | x :: xs, acc, h => by
    show ahead vs (.tuple [.int (acc.length : Int), .int x]) :: (enumF (acc.length + 1) (xs.map PyData.int)).map (ahead vs) = .int (acc.count x : Int) :: (cntL (acc ++ [x]) xs).map PyData.int
    have ih := ahead_map vs xs (acc ++ [x]) (by rw [h]; simp)
    rw [List.length_append, List.length_singleton] at ih
    rw [ih]
    congr 1
    show PyData.int ((vs.take (acc.length : Int).toNat).count x : Nat) = _
    rw [Int.toNat_natCast, h, List.take_left]
theorem enum_get {vs : List Int} {d : Da} (h : d ∈ enumF 0 (vs.map PyData.int)) : ∃ (i : Nat) (x : Int), i < vs.length ∧ d = .tuple [.int (i : Int), .int x] := by
  obtain ⟨i, hi⟩ := List.mem_iff_getElem?.mp h
  obtain ⟨e, h1, h2⟩ := enumF_get hi
  rw [List.getElem?_map] at h1
  cases hz : vs[i]? with
  | none => rw [hz] at h1; cases h1
  | some x =>
    rw [hz] at h1
    cases h1
    rw [Nat.zero_add] at h2
    exact ⟨i, x, (List.getElem?_eq_some_iff.mp hz).1, h2⟩
theorem enum_len : ∀ (ds : List Da) (k : Nat), (enumF k ds).length = ds.length
  | [], _ => rfl
  | d :: ds, k => by
    show (enumF (k + 1) ds).length + 1 = _
    rw [enum_len ds (k + 1)]; rfl
theorem base_lholds (hp0 : 0 ≤ p) {m : Nat} {w : Str} (hw : w = "unlike" ∨ w = "like") {es : List Da} {g : Da → Int} (h2 : 2 ≤ es.length) (h5 : es.length ≤ 5) (h : ∀ e ∈ es, Ev (f__law_sum_worth 60) [.fz e, ch c] (.int (g e))) :
    Ev (f__law_holds (m + 1)) [.fz (.int p), .fz (.tuple [.str w, .tuple es]), ch c] (.bool (decide ((srtd (es.map fun e => elem p (g e))).length = if w = "like" then 1 else es.length))) := by
  intro P Px hp
  show fnOf 3 6 _ _ _ _
  unfold fnOf
  obtain ⟨vs, hv⟩ : ∃ vs, vs = es.map fun e => elem p (g e) := ⟨_, rfl⟩
  have hl : vs.length = es.length := by rw [hv, List.length_map]
  rw [← hv] at hp
  have hm : pMul (.int (es.length : Int)) (.int ((es.length : Int) - 1)) = some (.int ((es.length : Int) * ((es.length : Int) - 1))) := mulOk (m := 31) _ _ (by omega) (by omega) (by decide) (by decide)
  have tri : triT 0 vs.length = (es.length : Int) * ((es.length : Int) - 1) / 2 := by
    rw [hl]
    have : es.length = 2 ∨ es.length = 3 ∨ es.length = 4 ∨ es.length = 5 := by omega
    rcases this with e | e | e | e <;> rw [e] <;> rfl
  have ne : vs ≠ [] := fun e => by rw [e] at hl; simp at hl; omega
  have pu := plain_unlike vs
  have pl := plain_like ne
  rw [tri] at pl
  have bu : ((cntL [] vs).sum == 0) = decide ((srtd vs).length = es.length) := by rw [Bool.eq_iff_iff, beq_iff_eq, decide_eq_true_iff, pu, hl]
  have bl : ((cntL [] vs).sum == (es.length : Int) * ((es.length : Int) - 1) / 2) = decide ((srtd vs).length = 1) := by rw [Bool.eq_iff_iff, beq_iff_eq, decide_eq_true_iff, pl]
  rcases hw with rfl | rfl
  all_goals
    simp at hp
    rw [sim_sSeq]
    simp [-sim_sSeq, and_assoc, eqS]
    rw [sim_sSeq]
    simp [-sim_sSeq, and_assoc, eqS, in2l]
    rw [sim_sSeq]
    simp [-sim_sSeq, and_assoc]
    refine lc_map (fun e => .int (elem p (g e))) es (by omega) ?_ ?_
    · intro e he S hS
      simp
      refine h e he _ _ ?_
      simp
      refine element2_k hp0 _ _ ?_
      simp
      exact hS _ (by simp)
    · rw [map_int, ← hv, sim_sSeq]
      simp [-sim_sSeq, and_assoc]
      refine lc_map (ahead vs) _ (by rw [enum_len, List.length_map]; omega) ?_ ?_
      · intro d hd S hS
        obtain ⟨i, x, hi, rfl⟩ := enum_get hd
        have cu : cutD (vs.map PyData.int) none (some (i : Int)) = (vs.take i).map PyData.int := by
          rw [cut_to (by rw [List.length_map]; omega), List.map_take]
        simp [and_assoc, cu, pCount]
        have e1 : intsD ((vs.map PyData.int).take i) = some (vs.take i) := by rw [← List.map_take]; exact Ip.intsD_map _
        have e2 : ahead vs (.tuple [.int (i : Int), .int x]) = .int ((vs.take i).count x : Nat) := by
          show PyData.int ((vs.take (i : Int).toNat).count x : Nat) = _
          rw [Int.toNat_natCast]
        rw [e2] at hS
        exact ⟨_, ⟨_, e1, rfl⟩, hS _ (by simp)⟩
      · have am := ahead_map vs vs [] rfl
        rw [List.length_nil] at am
        rw [am]
        have so : onInts (fun ns => some (.int ns.sum)) (.list ((cntL [] vs).map PyData.int)) = some (.int (cntL [] vs).sum) := by
          show (intsD _).bind _ = _
          rw [Ip.intsD_map]; rfl
        simp [and_assoc, so, eqS, hl, hm, divOk _ _ (show (0 : Int) < 2 by decide) (by decide)]
        first
          | (rw [bu]; exact hp)
          | (rw [bl]; exact hp)
/-- where a condition holds: the law's word and the program's are one -/
theorem holds_ok (hp : 0 ≤ p) (hp1 : p ≠ 1) (h101 : p ≤ 101) (hc : ChOk p N c) : ∃ wv : Da → Int, ∀ (n m q : Nat) (d : Da), n < m → CondD N 17 n q d →
    Ev (f__law_holds m) [.fz (.int p), .fz d, ch c] (.bool (HV wv n d)) ∧ Ev (f_holds m) [.fz (.int p), .fz d, ch c] (.bool (HV wv n d)) := by
  have ex : ∃ g : Da → Int, ∀ e, SumD N 17 e → ∀ m, 17 < m → Worth p c m e (g e) :=
    ⟨fun e => open Classical in if z : SumD N 17 e then Classical.choose (worth_ok hp hp1 h101 hc 17 e z) else 0, fun e z => by
      simp only
      rw [dif_pos z]
      exact Classical.choose_spec (worth_ok hp hp1 h101 hc 17 e z)⟩
  obtain ⟨g, hg⟩ := ex
  refine ⟨fun e => elem p (g e), ?_⟩
  intro n
  induction n with
  | zero => exact fun _ _ _ _ h => h.elim
  | succ n ih =>
    intro m q d hm h
    obtain ⟨m, rfl⟩ : ∃ j, m = j + 1 := ⟨m - 1, by omega⟩
    rcases h with ⟨w, es, hw, he, h1, h2, rfl⟩ | ⟨e, he, rfl⟩ | ⟨w, es, r, hw, he, h1, h2, rfl, _⟩
    · have l1 := base_lholds (p := p) (c := c) hp (m := m) hw h1 h2 fun e h => (hg e (he e h) 60 (by omega)).1
      have l2 := base_holds (p := p) (c := c) (m := m) hw h2 fun e h => (hg e (he e h) 60 (by omega)).2
      rcases hw with rfl | rfl
      · rw [hv_unlike]
        rw [if_neg (by decide +kernel)] at l1 l2
        exact ⟨l1, l2⟩
      · rw [hv_like]
        rw [if_pos rfl] at l1 l2
        exact ⟨l1, l2⟩
    · obtain ⟨l1, l2⟩ := ih m q e (by omega) he
      rw [hv_not]
      exact ⟨not_lholds l1, not_holds l2⟩
    · have hh := fun e h => ih m r e (by omega) (he e h)
      rcases hw with rfl | rfl
      · rw [hv_all]
        exact ⟨all_lholds h2 fun e h => (hh e h).1, all_holds h2 fun e h => (hh e h).2⟩
      · rw [hv_some]
        exact ⟨some_lholds (fun z => by rw [z] at h1; simp at h1) h2 fun e h => (hh e h).1, some_holds h2 fun e h => (hh e h).2⟩
end
end K84
end
section
set_option Elab.async false
set_option linter.all false
set_option maxRecDepth 100000
set_option maxHeartbeats 4000000
namespace K84
open PySem L2 Ip
/-! ### the straight form, in plain words -/
def prs (lim : Nat) : List Da → List Da
  | [] => []
  | x :: r => ((r.take lim).map fun y => .tuple [x, y]) ++ prs lim r
def mk (w : Str) (pr : Da) : Da := .tuple [.str w, pr]
def join (w : Str) : List Da → Da
  | [x] => x
  | l => .tuple [.str w, .tuple l]
def oth (w : Str) : Str := if w = "all" then "some" else if w = "some" then "all" else if w = "like" then "unlike" else "like"
def tw (t : Bool) (w : Str) : Str := if t then oth w else w
def lim (w : Str) : Nat := if w = "like" then 1 else 10
def St : Nat → Bool → Da → Da
  | 0, _, d => d
  | n + 1, t, d => if wd d = "not" then St n (!t) (sub1 d) else if wd d = "all" ∨ wd d = "some" then .tuple [.str (tw t (wd d)), .tuple ((rows d).map (St n t))]
      else join (tw t "all") ((prs (lim (wd d)) (rows d)).map (mk (tw t (wd d))))
def Pd : Nat → Da → Da
  | 0, d => d
  | n + 1, d => if wd d = "not" then mk "not" (Pd n (sub1 d)) else if wd d = "all" ∨ wd d = "some" then .tuple [.str (wd d), .tuple ((rows d).map (Pd n))]
      else join "all" ((prs (lim (wd d)) (rows d)).map (mk (wd d)))
theorem wd_mk (w : Str) (e : Da) : wd (.tuple [.str w, e]) = w := rfl
section
variable {n : Nat} {t : Bool} {e : Da} {es : List Da} {w : Str}
theorem st_not : St (n + 1) t (.tuple [.str "not", e]) = St n (!t) e := by
  show (if ("not" : Str) = "not" then _ else _) = _
  rw [if_pos rfl]; rfl
theorem st_row (hw : w = "all" ∨ w = "some") : St (n + 1) t (.tuple [.str w, .tuple es]) = .tuple [.str (tw t w), .tuple (es.map (St n t))] := by
  show (if w = "not" then _ else if w = "all" ∨ w = "some" then _ else _) = _
  rw [if_neg (by rcases hw with rfl | rfl <;> decide +kernel), if_pos hw]; rfl
theorem st_base (hw : w = "unlike" ∨ w = "like") : St (n + 1) t (.tuple [.str w, .tuple es]) = join (tw t "all") ((prs (lim w) es).map (mk (tw t w))) := by
  show (if w = "not" then _ else if w = "all" ∨ w = "some" then _ else _) = _
  rw [if_neg (by rcases hw with rfl | rfl <;> decide +kernel), if_neg (by rcases hw with rfl | rfl <;> decide +kernel)]; rfl
theorem pd_not : Pd (n + 1) (.tuple [.str "not", e]) = .tuple [.str "not", Pd n e] := by
  show (if ("not" : Str) = "not" then _ else _) = _
  rw [if_pos rfl]; rfl
theorem pd_row (hw : w = "all" ∨ w = "some") : Pd (n + 1) (.tuple [.str w, .tuple es]) = .tuple [.str w, .tuple (es.map (Pd n))] := by
  show (if w = "not" then _ else if w = "all" ∨ w = "some" then _ else _) = _
  rw [if_neg (by rcases hw with rfl | rfl <;> decide +kernel), if_pos hw]; rfl
theorem pd_base (hw : w = "unlike" ∨ w = "like") : Pd (n + 1) (.tuple [.str w, .tuple es]) = join "all" ((prs (lim w) es).map (mk w)) := by
  show (if w = "not" then _ else if w = "all" ∨ w = "some" then _ else _) = _
  rw [if_neg (by rcases hw with rfl | rfl <;> decide +kernel), if_neg (by rcases hw with rfl | rfl <;> decide +kernel)]; rfl
end
/-- the pairs that one place brings -/
def prF (lim : Nat) (es : List Da) : Da → List Da
  | .tuple [.int i, x] => ((es.drop (i.toNat + 1)).take lim).map fun y => .tuple [x, y]
  | _ => []
theorem prs_enum (lim : Nat) (es : List Da) : ∀ (xs acc : List Da), es = acc ++ xs → (enumF acc.length xs).flatMap (prF lim es) = prs lim xs
  | [], acc, h => rfl
  | x :: xs, acc, h => by
    have ih := prs_enum lim es xs (acc ++ [x]) (by rw [h]; simp)
    rw [List.length_append, List.length_singleton] at ih
    show (PyData.tuple [.int (acc.length : Int), x] :: enumF (acc.length + 1) xs).flatMap (prF lim es) = _
    rw [List.flatMap_cons, ih]
    show (((es.drop ((acc.length : Int).toNat + 1)).take lim).map fun y => PyData.tuple [x, y]) ++ prs lim xs = _
    rw [Int.toNat_natCast, h]
    have : (acc ++ x :: xs).drop (acc.length + 1) = xs := by
      rw [← List.drop_drop, List.drop_left]; rfl
    rw [this]; rfl
def nx (es : List Da) : Da → Da
  | .tuple [.int i, x] => .tuple [x, es.getD (i.toNat + 1) .none]
  | _ => .none
theorem prs_like (es : List Da) : ∀ (xs acc : List Da), es = acc ++ xs → (enumF acc.length (xs.take (xs.length - 1))).map (nx es) = prs 1 xs
  | [], acc, h => rfl
  | [x], acc, h => rfl
  | x :: y :: r, acc, h => by
    have ih := prs_like es (y :: r) (acc ++ [x]) (by rw [h]; simp)
    rw [List.length_append, List.length_singleton] at ih
    have e1 : (x :: y :: r).take ((x :: y :: r).length - 1) = x :: (y :: r).take ((y :: r).length - 1) := rfl
    rw [e1]
    show nx es (.tuple [.int (acc.length : Int), x]) :: (enumF (acc.length + 1) _).map (nx es) = _
    rw [ih]
    show _ = (PyData.tuple [x, y]) :: prs 1 (y :: r)
    congr 1
    show PyData.tuple [x, es.getD ((acc.length : Int).toNat + 1) .none] = _
    rw [Int.toNat_natCast, h]
    have : (acc ++ x :: y :: r).getD (acc.length + 1) PyData.none = y := by
      rw [List.getD_eq_getElem?_getD, List.getElem?_append_right (by omega)]
      rw [show acc.length + 1 - acc.length = 1 by omega]; rfl
    rw [this]
/-! ### the program's pairs -/
theorem cut_last {xs : List Da} (h : 1 ≤ xs.length) : cutD xs none (some (-1)) = xs.take (xs.length - 1) := by
  unfold cutD
  rw [HT.sIx_none]
  have e : HT.sIx xs.length xs.length (some (-1)) = xs.length - 1 := by
    show (if (-1 : Int) < 0 then ((-1 : Int) + (xs.length : Int)).toNat else min (-1 : Int).toNat xs.length) = _
    rw [if_pos (by decide)]; omega
  rw [e, List.drop_zero, Nat.sub_zero]
theorem enum_get2 {es : List Da} {d : Da} {k : Nat} (h : d ∈ enumF k es) : ∃ (i : Nat) (x : Da), es[i]? = some x ∧ d = .tuple [.int ((k + i : Nat) : Int), x] := by
  obtain ⟨i, hi⟩ := List.mem_iff_getElem?.mp h
  obtain ⟨e, h1, h2⟩ := enumF_get hi
  exact ⟨i, e, h1, h2⟩
theorem lc2_det {G : WG} {T1 : WT (List Da)} {G1 : WG} {Tt1 : WT Bool} {A : WT Da} {vs vs1 : List Nat} {P : List Da → En → Prop} {ρ : En} (f : Da → List Da) : ∀ (ds acc : List Da), (acc ++ ds.flatMap f).length ≤ 100000 →
    (∀ d ∈ ds, ∀ (acc : List Da) (K : List Da → En → Prop), (acc ++ f d).length ≤ 100000 → (∀ ρ4, backE ρ ρ4 vs = ρ → K (acc ++ f d) ρ4) → G d (wipeE ρ vs) (fun ρ2 => T1 ρ2 (fun es ρ4 => lcL G1 Tt1 A vs1 K (fun _ _ => False) acc es ρ4) (fun _ _ => False))) →
    P (acc ++ ds.flatMap f) ρ → lc2L G tYesD T1 G1 Tt1 A vs vs1 P acc ds ρ
  | [], acc, hl, hs, hp => by
    rw [List.flatMap_nil, List.append_nil] at hp
    exact hp
  | d :: ds, acc, hl, hs, hp => by
    rw [List.flatMap_cons, ← List.append_assoc] at hl hp
    unfold lc2L
    have := hs d List.mem_cons_self acc (fun acc' ρ5 => lc2L G tYesD T1 G1 Tt1 A vs vs1 P acc' ds (backE ρ ρ5 vs)) (by rw [List.length_append] at hl; omega) (fun ρ4 e4 => by
      rw [e4]
      exact lc2_det f ds _ hl (fun e he => hs e (List.mem_cons_of_mem _ he)) hp)
    have key : ∀ ρ2, tYesD ρ2 (fun b ρ3 => (b = true ∧ T1 ρ3 (fun es ρ4 => lcL G1 Tt1 A vs1 (fun acc' ρ5 => lc2L G tYesD T1 G1 Tt1 A vs vs1 P acc' ds (backE ρ ρ5 vs)) (fun _ _ => False) acc es ρ4) (fun _ _ => False)) ∨
      (b = false ∧ lc2L G tYesD T1 G1 Tt1 A vs vs1 P acc ds (backE ρ ρ3 vs))) (fun _ _ => False) = T1 ρ2 (fun es ρ4 => lcL G1 Tt1 A vs1 (fun acc' ρ5 => lc2L G tYesD T1 G1 Tt1 A vs vs1 P acc' ds (backE ρ ρ5 vs)) (fun _ _ => False) acc es ρ4) (fun _ _ => False) := fun ρ2 => by
      unfold tYesD
      simp
    simp only [key]
    exact this
theorem prs_len (l : Nat) : ∀ es : List Da, (prs l es).length ≤ es.length * es.length
  | [] => Nat.zero_le _
  | x :: r => by
    show (((r.take l).map fun y => PyData.tuple [x, y]) ++ prs l r).length ≤ _
    have ih := prs_len l r
    rw [List.length_append, List.length_map, List.length_cons, List.length_take]
    have : (r.length + 1) * (r.length + 1) = r.length * r.length + r.length + r.length + 1 := by rw [Nat.add_mul, Nat.mul_add]; omega
    omega
theorem pairs_ok {w : Str} (hw : w = "unlike" ∨ w = "like") {es : List Da} (h1 : 1 ≤ es.length) (h5 : es.length ≤ 5) : Ev f_pairs_of [.fz (.str w), .fz (.tuple es)] (.list (prs (lim w) es)) := by
  intro P Px hp
  unfold f_pairs_of fnOf
  rcases hw with rfl | rfl
  · rw [show lim "unlike" = 10 from if_neg (by decide +kernel)] at hp
    have pe := prs_enum 10 es es [] rfl
    rw [List.length_nil] at pe
    have pl := prs_len 10 es
    have sq : es.length * es.length ≤ 5 * 5 := Nat.mul_le_mul h5 h5
    rw [sim_sSeq]
    simp [-sim_sSeq, and_assoc, eqS]
    refine lc2_det (prF 10 es) _ _ (by rw [pe]; simp; omega) ?_ (by rw [pe]; simpa using hp)
    intro d hd acc K hl hK
    obtain ⟨i, x, hx, rfl⟩ := enum_get2 hd
    have hi := (List.getElem?_eq_some_iff.mp hx).1
    have cf := cut_from (xs := es) (k := i + 1) hi
    have e1 : ((i + 1 : Nat) : Int) = (i : Int) + 1 := by omega
    rw [e1] at cf
    simp [and_assoc, cf]
    have pf : prF 10 es (.tuple [.int ((0 + i : Nat) : Int), x]) = (es.drop (i + 1)).map fun y => .tuple [x, y] := by
      show (((es.drop (((0 + i : Nat) : Int).toNat + 1)).take 10).map fun y => PyData.tuple [x, y]) = _
      rw [Int.toNat_natCast, Nat.zero_add, List.take_of_length_le (by rw [List.length_drop]; omega)]
    rw [pf] at hl hK
    refine lc_det (fun y => some (.tuple [x, y])) _ _ (by rw [List.length_append, List.length_map] at hl; exact hl) ?_ ?_
    · intro y hy S1 S0 k1 k0
      simp
      exact k1 _ rfl _ (by simp)
    · rw [List.filterMap_eq_map']
      exact hK _ (by simp)
  · rw [show lim "like" = 1 from if_pos rfl] at hp
    have pe := prs_like es es [] rfl
    rw [List.length_nil] at pe
    rw [sim_sSeq]
    simp [-sim_sSeq, and_assoc, eqS, cut_last h1]
    refine lc_map (nx es) _ (by rw [enum_len, List.length_take]; omega) ?_ (by rw [pe]; simpa using hp)
    intro d hd S hS
    obtain ⟨i, x, hx, rfl⟩ := enum_get2 hd
    have hi := (List.getElem?_eq_some_iff.mp hx).1
    rw [List.length_take] at hi
    have hi' : i + 1 < es.length := by omega
    have e1 : atI es ((i : Int) + 1) = some es[i + 1] := at_nat hi'
    have pf : nx es (.tuple [.int ((0 + i : Nat) : Int), x]) = .tuple [x, es[i + 1]] := by
      show PyData.tuple [x, es.getD (((0 + i : Nat) : Int).toNat + 1) .none] = _
      rw [Int.toNat_natCast, Nat.zero_add, List.getD_eq_getElem?_getD, List.getElem?_eq_getElem hi']; rfl
    rw [pf] at hS
    simp [and_assoc, e1]
    exact hS _ (by simp)
end K84
end
section
set_option Elab.async false
set_option linter.all false
set_option maxRecDepth 100000
set_option maxHeartbeats 4000000
namespace K84
open PySem L2 Ip
theorem join_one (w : Str) (x : Da) : join w [x] = x := rfl
theorem join_not {w : Str} {l : List Da} (h : l.length ≠ 1) : join w l = .tuple [.str w, .tuple l] := by
  match l, h with
  | [], _ => rfl
  | [x], h => exact absurd rfl h
  | x :: y :: r, _ => rfl
theorem oth_all : oth "all" = "some" := if_pos rfl
theorem oth_some : oth "some" = "all" := by unfold oth; rw [if_neg (by decide +kernel), if_pos rfl]
theorem oth_like : oth "like" = "unlike" := by unfold oth; rw [if_neg (by decide +kernel), if_neg (by decide +kernel), if_pos rfl]
theorem oth_unlike : oth "unlike" = "like" := by unfold oth; rw [if_neg (by decide +kernel), if_neg (by decide +kernel), if_neg (by decide +kernel)]
def is4 (w : Str) : Prop := w = "all" ∨ w = "some" ∨ w = "like" ∨ w = "unlike"
theorem kd_of {x y : Str} (h : t_OTHER.lookup x = some y) : pKd t_OTHER (.str x) = some (.str y) := by
  unfold pKd
  simp only [h, Option.map_some]
theorem kd_oth {w : Str} (h : is4 w) : pKd t_OTHER (.str w) = some (.str (oth w)) := by
  rcases h with rfl | rfl | rfl | rfl
  · rw [oth_all]; exact kd_of (by decide +kernel)
  · rw [oth_some]; exact kd_of (by decide +kernel)
  · rw [oth_like]; exact kd_of (by decide +kernel)
  · rw [oth_unlike]; exact kd_of (by decide +kernel)
theorem straight_not {m : Nat} {t : Bool} {e r : Da} (h : Ev (f_straight_of m) [.fz e, .fz (.bool (!t))] r) : Ev (f_straight_of (m + 1)) [.fz (.tuple [.str "not", e]), .fz (.bool t)] r := by
  intro P Px hp
  show fnOf 2 6 _ _ _ _
  unfold fnOf
  rw [sim_sSeq]
  simp [-sim_sSeq, and_assoc]
  rw [sim_sSeq]
  simp [-sim_sSeq, and_assoc, eqS]
  cases t <;> (simp; refine h _ _ ?_; simp; exact hp)
theorem straight_row {m : Nat} {t : Bool} {w : Str} (hw : w = "all" ∨ w = "some") {es : List Da} {g : Da → Da} (h10 : es.length ≤ 10) (h : ∀ e ∈ es, Ev (f_straight_of m) [.fz e, .fz (.bool t)] (g e)) :
    Ev (f_straight_of (m + 1)) [.fz (.tuple [.str w, .tuple es]), .fz (.bool t)] (.tuple [.str (tw t w), .tuple (es.map g)]) := by
  intro P Px hp
  show fnOf 2 6 _ _ _ _
  unfold fnOf
  have kd := kd_oth (w := w) (hw.elim .inl fun z => .inr (.inl z))
  have e4 : (if t = true then oth w else w) = tw t w := rfl
  rcases hw with rfl | rfl
  all_goals
    rw [sim_sSeq]
    simp [-sim_sSeq, and_assoc]
    rw [sim_sSeq]
    simp [-sim_sSeq, and_assoc, eqS]
    cases t
    all_goals
      rw [sim_sSeq]
      simp [-sim_sSeq, and_assoc, kd]
      rw [sim_sSeq]
      simp [-sim_sSeq, and_assoc, in2]
      refine lc_map g es (by omega) ?_ ?_
      · intro e he S hS
        simp
        refine h e he _ _ ?_
        simp
        exact hS _ (by simp)
      · simp
        exact hp
theorem straight_base {m : Nat} {t : Bool} {w : Str} (hw : w = "unlike" ∨ w = "like") {es : List Da} (h1 : 1 ≤ es.length) (h5 : es.length ≤ 5) :
    Ev (f_straight_of (m + 1)) [.fz (.tuple [.str w, .tuple es]), .fz (.bool t)] (join (tw t "all") ((prs (lim w) es).map (mk (tw t w)))) := by
  intro P Px hp
  show fnOf 2 6 _ _ _ _
  unfold fnOf
  have kd := kd_oth (w := w) (hw.elim (fun z => .inr (.inr (.inr z))) fun z => .inr (.inr (.inl z)))
  have po := pairs_ok hw h1 h5
  have pl := prs_len (lim w) es
  have sq : es.length * es.length ≤ 5 * 5 := Nat.mul_le_mul h5 h5
  obtain ⟨l, hl⟩ : ∃ l, l = (prs (lim w) es).map (mk (tw t w)) := ⟨_, rfl⟩
  obtain ⟨v, hv⟩ : ∃ v, v = tw t w := ⟨_, rfl⟩
  rw [← hl] at hp
  rcases hw with rfl | rfl
  all_goals
    rw [sim_sSeq]
    simp [-sim_sSeq, and_assoc]
    rw [sim_sSeq]
    simp [-sim_sSeq, and_assoc, eqS]
    cases t
    all_goals
      rw [sim_sSeq]
      simp [-sim_sSeq, and_assoc, kd]
      rw [sim_sSeq]
      simp [-sim_sSeq, and_assoc, in2]
      rw [sim_sSeq]
      simp [-sim_sSeq, and_assoc]
      refine po _ _ ?_
      simp [-sim_sSeq, and_assoc]
      refine lc_map (mk v) _ (by omega) ?_ ?_
      · intro e he S hS
        rw [hv] at hS
        simp
        exact hS _ (by simp)
      · rw [hv, ← hl]
        rw [sim_sSeq]
        by_cases z : l.length = 1
        · obtain ⟨x, rfl⟩ := List.length_eq_one_iff.mp z
          simp [-sim_sSeq, and_assoc]
          exact hp
        · have z' : ((l.length : Int) == 1) = false := beq_false_of_ne (by omega)
          rw [join_not z] at hp
          simp [-sim_sSeq, and_assoc, z']
          exact hp
theorem straight_ok {N : Int} : ∀ (n m q : Nat) (t : Bool) (d : Da), n < m → CondD N 17 n q d → Ev (f_straight_of m) [.fz d, .fz (.bool t)] (St n t d)
  | 0, _, _, _, _, _, h => h.elim
  | n + 1, 0, _, _, _, hm, _ => by omega
  | n + 1, m + 1, q, t, d, hm, h => by
    rcases h with ⟨w, es, hw, he, h1, h2, rfl⟩ | ⟨e, he, rfl⟩ | ⟨w, es, r, hw, he, h1, h2, rfl, _⟩
    · rw [st_base hw]
      exact straight_base hw (by omega) h2
    · rw [st_not]
      exact straight_not (straight_ok n m q (!t) e (by omega) he)
    · rw [st_row hw]
      exact straight_row hw h2 fun e h => straight_ok n m r t e (by omega) (he e h)
end K84
end
section
set_option Elab.async false
set_option linter.all false
set_option maxRecDepth 100000
set_option maxHeartbeats 4000000
namespace K84
open PySem L2 Ip
theorem paired_not {m : Nat} {e r : Da} (h : Ev (f__law_paired m) [.fz e] r) : Ev (f__law_paired (m + 1)) [.fz (.tuple [.str "not", e])] (.tuple [.str "not", r]) := by
  intro P Px hp
  show fnOf 1 6 _ _ _ _
  unfold fnOf
  rw [sim_sSeq]
  simp [-sim_sSeq, and_assoc]
  rw [sim_sSeq]
  simp [-sim_sSeq, and_assoc, eqS]
  refine h _ _ ?_
  simp
  exact hp
theorem paired_row {m : Nat} {w : Str} (hw : w = "all" ∨ w = "some") {es : List Da} {g : Da → Da} (h10 : es.length ≤ 10) (h : ∀ e ∈ es, Ev (f__law_paired m) [.fz e] (g e)) :
    Ev (f__law_paired (m + 1)) [.fz (.tuple [.str w, .tuple es])] (.tuple [.str w, .tuple (es.map g)]) := by
  intro P Px hp
  show fnOf 1 6 _ _ _ _
  unfold fnOf
  rcases hw with rfl | rfl
  all_goals
    rw [sim_sSeq]
    simp [-sim_sSeq, and_assoc]
    rw [sim_sSeq]
    simp [-sim_sSeq, and_assoc, eqS]
    rw [sim_sSeq]
    simp [-sim_sSeq, and_assoc, in2l]
    refine lc_map g es (by omega) ?_ ?_
    · intro e he S hS
      simp
      refine h e he _ _ ?_
      simp
      exact hS _ (by simp)
    · simp
      exact hp
theorem enum_at {es : List Da} {i : Nat} (h : i < es.length) : ∀ k, (enumF k es)[i]? = some (.tuple [.int ((k + i : Nat) : Int), es[i]]) := by
  induction es generalizing i with
  | nil => simp at h
  | cons x xs ih =>
    intro k
    cases i with
    | zero => rfl
    | succ i =>
      show (PyData.tuple [.int (k : Int), x] :: enumF (k + 1) xs)[i + 1]? = _
      rw [List.getElem?_cons_succ, ih (by simpa using h) (k + 1), List.getElem_cons_succ]
      rw [show k + 1 + i = k + (i + 1) by omega]
def upTo (w : Str) (es : List Da) (i : Nat) : List Da := (((enumF 0 es).take i).flatMap (prF (lim w) es)).map (mk w)
theorem upTo_next {w : Str} {es : List Da} {i : Nat} (h : i < es.length) : upTo w es (i + 1) = upTo w es i ++ ((es.drop (i + 1)).take (lim w)).map fun y => mk w (.tuple [es[i], y]) := by
  unfold upTo
  rw [List.take_succ, enum_at h 0, List.flatMap_append, List.map_append]
  congr 1
  show (List.flatMap (prF (lim w) es) [_]).map (mk w) = _
  rw [List.flatMap_cons, List.flatMap_nil, List.append_nil]
  show (((es.drop (((0 + i : Nat) : Int).toNat + 1)).take (lim w)).map fun y => PyData.tuple [es[i], y]).map (mk w) = _
  rw [Int.toNat_natCast, Nat.zero_add, List.map_map]; rfl
theorem upTo_all {w : Str} {es : List Da} : upTo w es es.length = (prs (lim w) es).map (mk w) := by
  unfold upTo
  have := prs_enum (lim w) es es [] rfl
  rw [List.length_nil] at this
  rw [List.take_of_length_le (by rw [enum_len]; omega), this]
theorem upTo_len {w : Str} {es : List Da} : ∀ {i : Nat}, i ≤ es.length → (upTo w es i).length ≤ i * es.length
  | 0, _ => Nat.zero_le _
  | i + 1, h => by
    rw [upTo_next h, List.length_append, List.length_map, List.length_take, List.length_drop, Nat.succ_mul]
    have := upTo_len (w := w) (es := es) (i := i) (by omega)
    omega
theorem inner {w : Str} {es : List Da} {i : Nat} (h5 : es.length ≤ 5) (hi : i < es.length) {c : Nat} (hc : c ≤ es.length - (i + 1)) {e : Ed} {x y : Sl}
    (he : ∀ z, e.nx [x, .fz (.str w), .fz (.tuple es), .ol (upTo w es i ++ ((es.drop (i + 1)).take c).map fun y => mk w (.tuple [es[i], y])), .fz (.int (i : Int)), z, .un]) :
    forL (gN 5) (sApp 3 (tTupD (tA (tE (tV 1)) (tA (tE (tTupD (tA (tE (tB2 pIx (tLu 2) (tLu 4))) (tA (tE (tB2 pIx (tLu 2) (tLu 5))) tA0)))) tA0)))) e (rng ((i : Int) + 1) c)
      [x, .fz (.str w), .fz (.tuple es), .ol (upTo w es i), .fz (.int (i : Int)), y, .un] := by
  have ul := upTo_len (w := w) (es := es) (i := i) (by omega)
  have sq : i * es.length ≤ 5 * 5 := Nat.mul_le_mul (by omega) h5
  refine for_inv _ _ (fun j ρ => j ≤ c ∧ ∃ z : Sl, ρ = [x, .fz (.str w), .fz (.tuple es), .ol (upTo w es i ++ ((es.drop (i + 1)).take j).map fun y => mk w (.tuple [es[i], y])), .fz (.int (i : Int)), z, .un]) ⟨by omega, y, ?_⟩ ?_ ?_
  · simp
  · rintro j d ρ hj ⟨_, z, rfl⟩ M hM
    obtain ⟨hj', rfl⟩ := rng_get hj
    have hij : i + 1 + j < es.length := by omega
    have e1 : atI es (i : Int) = some es[i] := at_nat hi
    have e2 : atI es ((i : Int) + 1 + (j : Int)) = some es[i + 1 + j] := at_nat hij
    simp [and_assoc, e1, e2]
    refine ⟨by omega, hM _ ⟨by omega, .fz (.int ((i : Int) + 1 + (j : Int))), ?_⟩⟩
    rw [List.take_succ, List.getElem?_drop, List.getElem?_eq_getElem hij, List.map_append]
    simp [mk]
  · rintro ρ ⟨_, z, rfl⟩
    rw [rng_len]
    exact he z
theorem paired_base {m : Nat} {w : Str} (hw : w = "unlike" ∨ w = "like") {es : List Da} (h1 : 1 ≤ es.length) (h5 : es.length ≤ 5) :
    Ev (f__law_paired (m + 1)) [.fz (.tuple [.str w, .tuple es])] (join "all" ((prs (lim w) es).map (mk w))) := by
  intro P Px hp
  show fnOf 1 6 _ _ _ _
  unfold fnOf
  have hlim : lim "unlike" = 10 := if_neg (by decide +kernel)
  have hlim2 : lim "like" = 1 := if_pos rfl
  rcases hw with rfl | rfl
  · rw [sim_sSeq]
    simp [-sim_sSeq, and_assoc]
    rw [sim_sSeq]
    simp [-sim_sSeq, and_assoc, eqS]
    rw [sim_sSeq]
    simp [-sim_sSeq, and_assoc, in2l]
    rw [sim_sSeq]
    simp [-sim_sSeq, and_assoc]
    rw [sim_sSeq]
    simp [-sim_sSeq, and_assoc]
    refine ⟨by omega, ?_⟩
    refine for_inv _ _ (fun i ρ => i ≤ es.length ∧ ∃ x y : Sl, ρ = [.fz (.tuple [.str "unlike", .tuple es]), .fz (.str "unlike"), .fz (.tuple es), .ol (upTo "unlike" es i), x, y, .un]) ⟨by omega, _, _, rfl⟩ ?_ ?_
    · rintro i d ρ hi ⟨_, x, y, rfl⟩ M hM
      obtain ⟨hi', rfl⟩ := rng_get hi
      simp [and_assoc, eqS]
      refine ⟨by omega, by omega, by omega, ?_⟩
      rw [show ((es.length : Int) - ((i : Int) + 1)).toNat = es.length - (i + 1) by omega]
      refine inner h5 hi' (Nat.le_refl _) fun z => ?_
      refine hM _ ⟨by omega, .fz (.int (i : Int)), z, ?_⟩
      rw [upTo_next hi', hlim, List.take_of_length_le (by rw [List.length_drop]; omega), List.take_of_length_le (by rw [List.length_drop]; omega)]
    · rintro ρ ⟨_, x, y, rfl⟩
      rw [rng_len, upTo_all]
      obtain ⟨l, hl⟩ : ∃ l, l = (prs (lim "unlike") es).map (mk "unlike") := ⟨_, rfl⟩
      rw [← hl] at hp ⊢
      by_cases z : l.length = 1
      · obtain ⟨x, rfl⟩ := List.length_eq_one_iff.mp z
        simp [and_assoc]
        exact hp
      · have z' : ((l.length : Int) == 1) = false := beq_false_of_ne (by omega)
        rw [join_not z] at hp
        simp [and_assoc, z']
        exact hp
  · rw [sim_sSeq]
    simp [-sim_sSeq, and_assoc]
    rw [sim_sSeq]
    simp [-sim_sSeq, and_assoc, eqS]
    rw [sim_sSeq]
    simp [-sim_sSeq, and_assoc, in2l]
    rw [sim_sSeq]
    simp [-sim_sSeq, and_assoc]
    rw [sim_sSeq]
    simp [-sim_sSeq, and_assoc]
    refine ⟨by omega, ?_⟩
    refine for_inv _ _ (fun i ρ => i ≤ es.length ∧ ∃ x y : Sl, ρ = [.fz (.tuple [.str "like", .tuple es]), .fz (.str "like"), .fz (.tuple es), .ol (upTo "like" es i), x, y, .un]) ⟨by omega, _, _, rfl⟩ ?_ ?_
    · rintro i d ρ hi ⟨_, x, y, rfl⟩ M hM
      obtain ⟨hi', rfl⟩ := rng_get hi
      simp [and_assoc, eqS, pInt0]
      have hm : (if (i : Int) + 2 < (es.length : Int) then (i : Int) + 2 else (es.length : Int)) = ((i + 1 + min 1 (es.length - (i + 1)) : Nat) : Int) := by
        by_cases z : (i : Int) + 2 < (es.length : Int)
        · rw [if_pos z]; omega
        · rw [if_neg z]; omega
      rw [hm]
      refine ⟨by omega, by omega, by omega, by omega, ?_⟩
      rw [show (((i + 1 + min 1 (es.length - (i + 1)) : Nat) : Int) - ((i : Int) + 1)).toNat = min 1 (es.length - (i + 1)) by omega]
      refine inner h5 hi' (Nat.min_le_right _ _) fun z => ?_
      refine hM _ ⟨by omega, .fz (.int (i : Int)), z, ?_⟩
      rw [upTo_next hi', hlim2]
      rw [← List.length_drop (l := es) (i := i + 1), ← List.take_eq_take_min]
    · rintro ρ ⟨_, x, y, rfl⟩
      rw [rng_len, upTo_all]
      obtain ⟨l, hl⟩ : ∃ l, l = (prs (lim "like") es).map (mk "like") := ⟨_, rfl⟩
      rw [← hl] at hp ⊢
      by_cases z : l.length = 1
      · obtain ⟨x, rfl⟩ := List.length_eq_one_iff.mp z
        simp [and_assoc]
        exact hp
      · have z' : ((l.length : Int) == 1) = false := beq_false_of_ne (by omega)
        rw [join_not z] at hp
        simp [and_assoc, z']
        exact hp
theorem paired_ok {N : Int} : ∀ (n m q : Nat) (d : Da), n < m → CondD N 17 n q d → Ev (f__law_paired m) [.fz d] (Pd n d)
  | 0, _, _, _, _, h => h.elim
  | n + 1, 0, _, _, hm, _ => by omega
  | n + 1, m + 1, q, d, hm, h => by
    rcases h with ⟨w, es, hw, he, h1, h2, rfl⟩ | ⟨e, he, rfl⟩ | ⟨w, es, r, hw, he, h1, h2, rfl, _⟩
    · rw [pd_base hw]
      exact paired_base hw (by omega) h2
    · rw [pd_not]
      exact paired_not (paired_ok n m q e (by omega) he)
    · rw [pd_row hw]
      exact paired_row hw h2 fun e h => paired_ok n m r e (by omega) (he e h)
/-! ### inward -/
theorem look_oth {w : Str} (h : is4 w) : lookK (strD [("all", "some"), ("some", "all"), ("like", "unlike"), ("unlike", "like")]) (.inr w) = some (.str (oth w)) := by
  have e : ∀ (k : Key) (kv : Key × Da) (l : List (Key × Da)), lookK (kv :: l) k = if kv.1 = k then some kv.2 else lookK l k := fun k kv l => by
    unfold lookK
    rw [List.find?_cons]
    by_cases z : kv.1 = k
    · rw [decide_eq_true z, if_pos z]; rfl
    · rw [decide_eq_false z, if_neg z]
  have ne : ∀ x y : Str, (x == y) = false → ¬ ((.inr x : Key) = .inr y) := fun x y h z => by
    cases z
    rw [beq_self_eq_true] at h
    cases h
  show lookK [((.inr "all" : Key), PyData.str "some"), (.inr "some", .str "all"), (.inr "like", .str "unlike"), (.inr "unlike", .str "like")] _ = _
  rcases h with rfl | rfl | rfl | rfl
  · rw [oth_all, e, if_pos rfl]
  · rw [oth_some, e, if_neg (ne _ _ (by simp)), e, if_pos rfl]
  · rw [oth_like, e, if_neg (ne _ _ (by simp)), e, if_neg (ne _ _ (by simp)), e, if_pos rfl]
  · rw [oth_unlike, e, if_neg (ne _ _ (by simp)), e, if_neg (ne _ _ (by simp)), e, if_neg (ne _ _ (by simp)), e, if_pos rfl]
theorem kOf_str (w : Str) : kOf (.str w) = some (.inr w) := rfl
theorem inward_not {m : Nat} {t : Bool} {e r : Da} (h : Ev (f__law_inward m) [.fz e, .fz (.bool (!t))] r) : Ev (f__law_inward (m + 1)) [.fz (.tuple [.str "not", e]), .fz (.bool t)] r := by
  intro P Px hp
  show fnOf 2 4 _ _ _ _
  unfold fnOf
  rw [sim_sSeq]
  simp [-sim_sSeq, and_assoc]
  rw [sim_sSeq]
  simp [-sim_sSeq, and_assoc, eqS]
  cases t <;> (simp; refine h _ _ ?_; simp; exact hp)
theorem inward_pair {m : Nat} {t : Bool} {w : Str} (hw : w = "unlike" ∨ w = "like") {pr : Da} : Ev (f__law_inward (m + 1)) [.fz (.tuple [.str w, pr]), .fz (.bool t)] (.tuple [.str (tw t w), pr]) := by
  intro P Px hp
  show fnOf 2 4 _ _ _ _
  unfold fnOf
  have lo := look_oth (w := w) (hw.elim (fun z => .inr (.inr (.inr z))) fun z => .inr (.inr (.inl z)))
  rcases hw with rfl | rfl
  all_goals
    rw [sim_sSeq]
    simp [-sim_sSeq, and_assoc]
    rw [sim_sSeq]
    simp [-sim_sSeq, and_assoc, eqS]
    rw [sim_sSeq]
    simp [-sim_sSeq, and_assoc]
    rw [sim_sSeq]
    cases t
  · simp [-sim_sSeq, and_assoc, in2l]
    exact hp
  · rw [oth_unlike] at lo
    have hp : P (.tuple [.str (oth "unlike"), pr]) _ := hp
    rw [oth_unlike] at hp
    simp [-sim_sSeq, and_assoc, in2l, kOf_str, lo]
    exact hp
  · simp [-sim_sSeq, and_assoc, in2l]
    exact hp
  · rw [oth_like] at lo
    have hp : P (.tuple [.str (oth "like"), pr]) _ := hp
    rw [oth_like] at hp
    simp [-sim_sSeq, and_assoc, in2l, kOf_str, lo]
    exact hp
theorem lc_map2 {ι : Type} {G : WG} {A : WT Da} {vs : List Nat} {P : List Da → En → Prop} {Px : Ex → En → Prop} {ρ : En} (f g : ι → Da) : ∀ (xs : List ι) (acc : List Da), acc.length + xs.length ≤ 100000 →
    (∀ x ∈ xs, ∀ S : Da → En → Prop, (∀ ρ4, backE ρ ρ4 vs = ρ → S (g x) ρ4) → G (f x) (wipeE ρ vs) (fun ρ2 => A ρ2 S noX)) → P (acc ++ xs.map g) ρ → lcL G tYesD A vs P Px acc (xs.map f) ρ
  | [], acc, hl, hs, hp => by
    rw [List.map_nil, List.append_nil] at hp
    exact hp
  | x :: xs, acc, hl, hs, hp => by
    rw [List.length_cons] at hl
    have step := hs x List.mem_cons_self (fun y ρ4 => acc.length < 100000 ∧ lcL G tYesD A vs P Px (acc ++ [y]) (xs.map f) (backE ρ ρ4 vs)) (fun ρ4 e4 => ⟨by omega, by
      rw [e4]
      refine lc_map2 f g xs _ (by rw [List.length_append, List.length_singleton]; omega) (fun y hy => hs y (List.mem_cons_of_mem _ hy)) ?_
      rw [List.append_assoc]
      exact hp⟩)
    rw [List.map_cons]
    unfold lcL
    have key : ∀ ρ2, (A ρ2 (fun y ρ4 => acc.length < 100000 ∧ lcL G tYesD A vs P Px (acc ++ [y]) (xs.map f) (backE ρ ρ4 vs)) noX) = tYesD ρ2 (fun b ρ3 => (b = true ∧ A ρ3 (fun y ρ4 => acc.length < 100000 ∧ lcL G tYesD A vs P Px (acc ++ [y]) (xs.map f) (backE ρ ρ4 vs)) (fun _ _ => False)) ∨
      (b = false ∧ lcL G tYesD A vs P Px acc (xs.map f) (backE ρ ρ3 vs))) (fun _ _ => False) := fun ρ2 => by
      unfold tYesD
      simp
    simp only [← key]
    exact step
theorem inward_row {m : Nat} {t : Bool} {w : Str} (hw : w = "all" ∨ w = "some") {xs : List Da} {f g : Da → Da} (h10 : xs.length ≤ 25) (h : ∀ x ∈ xs, Ev (f__law_inward m) [.fz (f x), .fz (.bool t)] (g x)) :
    Ev (f__law_inward (m + 1)) [.fz (.tuple [.str w, .tuple (xs.map f)]), .fz (.bool t)] (.tuple [.str (tw t w), .tuple (xs.map g)]) := by
  intro P Px hp
  show fnOf 2 4 _ _ _ _
  unfold fnOf
  have lo := look_oth (w := w) (hw.elim .inl fun z => .inr (.inl z))
  have main : ∀ (v : Str) (l : List Sl) (dd : Sl), l = [.fz (.tuple [.str w, .tuple (xs.map f)]), .fz (.bool t), .fz (.str v), .fz (.tuple (xs.map f)), dd, .un] → ∀ Q : List Da → En → Prop, Q (xs.map g) l → lcL (gN 5) tYesD (tCal (f__law_inward m) [] 2 (tA (tE (tV 5)) (tA (tE (tV 1)) tA0))) [5] Q (fun _ _ => False) [] (xs.map f) l := fun v l dd hl Q hQ => by
    subst hl
    refine lc_map2 f g xs [] (by simp; omega) ?_ (by simpa using hQ)
    intro e he S hS
    simp
    refine h e he _ _ ?_
    simp
    exact hS _ (by simp)
  rcases hw with rfl | rfl
  all_goals
    rw [sim_sSeq]
    simp [-sim_sSeq, and_assoc]
    rw [sim_sSeq]
    simp [-sim_sSeq, and_assoc, eqS]
    rw [sim_sSeq]
    simp [-sim_sSeq, and_assoc]
    rw [sim_sSeq]
    cases t
  · simp [-sim_sSeq, and_assoc, in2l]
    refine main "all" _ _ rfl _ ?_
    simp
    exact hp
  · rw [oth_all] at lo
    have hp : P (.tuple [.str (oth "all"), .tuple (xs.map g)]) _ := hp
    rw [oth_all] at hp
    simp [-sim_sSeq, and_assoc, in2l, kOf_str, lo]
    refine main "some" _ _ rfl _ ?_
    simp
    exact hp
  · simp [-sim_sSeq, and_assoc, in2l]
    refine main "some" _ _ rfl _ ?_
    simp
    exact hp
  · rw [oth_some] at lo
    have hp : P (.tuple [.str (oth "some"), .tuple (xs.map g)]) _ := hp
    rw [oth_some] at hp
    simp [-sim_sSeq, and_assoc, in2l, kOf_str, lo]
    refine main "all" _ _ rfl _ ?_
    simp
    exact hp
theorem inward_ok {N : Int} : ∀ (n m q : Nat) (t : Bool) (d : Da), n + 1 < m → CondD N 17 n q d → Ev (f__law_inward m) [.fz (Pd n d), .fz (.bool t)] (St n t d)
  | 0, _, _, _, _, _, h => h.elim
  | n + 1, 0, _, _, _, hm, _ => by omega
  | n + 1, m + 1, q, t, d, hm, h => by
    rcases h with ⟨w, es, hw, he, h1, h2, rfl⟩ | ⟨e, he, rfl⟩ | ⟨w, es, r, hw, he, h1, h2, rfl, _⟩
    · rw [st_base hw, pd_base hw]
      obtain ⟨m, rfl⟩ : ∃ j, m = j + 1 := ⟨m - 1, by omega⟩
      have pl := prs_len (lim w) es
      have sq : es.length * es.length ≤ 5 * 5 := Nat.mul_le_mul h2 h2
      by_cases z : (prs (lim w) es).length = 1
      · obtain ⟨x, e⟩ := List.length_eq_one_iff.mp z
        rw [e]
        exact inward_pair hw
      · rw [join_not (by rw [List.length_map]; exact z), join_not (by rw [List.length_map]; exact z)]
        have := inward_row (m := m + 1) (t := t) (.inl rfl : ("all" : Str) = "all" ∨ _) (xs := prs (lim w) es) (f := mk w) (g := mk (tw t w)) (by omega) fun pr _ => inward_pair hw
        exact this
    · rw [st_not, pd_not]
      exact inward_not (inward_ok n m q (!t) e (by omega) he)
    · rw [st_row hw, pd_row hw]
      exact inward_row hw (by omega) fun x hx => inward_ok n m r t x (by omega) (he x hx)
end K84
end
section
set_option Elab.async false
set_option linter.all false
set_option maxRecDepth 100000
set_option maxHeartbeats 4000000
namespace K84
open PySem L2 Ip
/-! ### pairs, and what they tell -/
def tr : Nat → Nat
  | 0 => 0
  | n + 1 => n + tr n
theorem prs_tr (l : Nat) : ∀ es : List Da, (prs l es).length ≤ tr es.length
  | [] => Nat.le_refl _
  | x :: r => by
    show (((r.take l).map fun y => PyData.tuple [x, y]) ++ prs l r).length ≤ r.length + tr r.length
    have ih := prs_tr l r
    rw [List.length_append, List.length_map, List.length_take]
    omega
theorem tr_le {n : Nat} (h : n ≤ 5) : tr n ≤ 10 := by
  have : n = 0 ∨ n = 1 ∨ n = 2 ∨ n = 3 ∨ n = 4 ∨ n = 5 := by omega
  rcases this with rfl | rfl | rfl | rfl | rfl | rfl <;> decide
theorem prs_pos {l : Nat} (hl : 1 ≤ l) {es : List Da} (h : 2 ≤ es.length) : 1 ≤ (prs l es).length := by
  match es, h with
  | x :: y :: r, _ =>
    show 1 ≤ ((((y :: r).take l).map fun z => PyData.tuple [x, z]) ++ prs l (y :: r)).length
    rw [List.length_append, List.length_map, List.length_take, List.length_cons]
    omega
theorem prs_mem {l : Nat} : ∀ {es : List Da} {pr : Da}, pr ∈ prs l es → ∃ a b, a ∈ es ∧ b ∈ es ∧ pr = .tuple [a, b]
  | [], pr, h => by cases h
  | x :: r, pr, h => by
    have h : pr ∈ ((r.take l).map fun y => PyData.tuple [x, y]) ++ prs l r := h
    rcases List.mem_append.mp h with h | h
    · obtain ⟨y, hy, rfl⟩ := List.mem_map.mp h
      exact ⟨x, y, List.mem_cons_self, List.mem_cons_of_mem _ (List.mem_of_mem_take hy), rfl⟩
    · obtain ⟨a, b, ha, hb, e⟩ := prs_mem h
      exact ⟨a, b, List.mem_cons_of_mem _ ha, List.mem_cons_of_mem _ hb, e⟩
theorem lim_pos (w : Str) : 1 ≤ lim w := by unfold lim; split <;> decide
section
variable {wv : Da → Int} {k : Nat}
theorem srtd2 (x y : Int) : (srtd [x, y]).length = if x = y then 1 else 2 := by
  rw [srtd_cons, srtd_cons]
  by_cases h : x = y
  · simp [h, srtd]
  · simp [h, srtd]
theorem hv_like2 (a b : Da) : HV wv (k + 1) (mk "like" (.tuple [a, b])) = decide (wv a = wv b) := by
  show HV wv (k + 1) (.tuple [.str "like", .tuple [a, b]]) = _
  rw [hv_like]
  show decide ((srtd [wv a, wv b]).length = 1) = _
  rw [srtd2]
  by_cases h : wv a = wv b <;> simp [h]
theorem hv_unlike2 (a b : Da) : HV wv (k + 1) (mk "unlike" (.tuple [a, b])) = !decide (wv a = wv b) := by
  show HV wv (k + 1) (.tuple [.str "unlike", .tuple [a, b]]) = _
  rw [hv_unlike]
  show decide ((srtd [wv a, wv b]).length = 2) = _
  rw [srtd2]
  by_cases h : wv a = wv b <;> simp [h]
theorem hv_oth {w : Str} (hw : w = "unlike" ∨ w = "like") (a b : Da) : HV wv (k + 1) (mk (oth w) (.tuple [a, b])) = !HV wv (k + 1) (mk w (.tuple [a, b])) := by
  rcases hw with rfl | rfl
  · rw [oth_unlike, hv_like2, hv_unlike2, Bool.not_not]
  · rw [oth_like, hv_like2, hv_unlike2]
theorem likes : ∀ es : List Da, ((prs 1 es).all fun pr => HV wv (k + 1) (mk "like" pr)) = true ↔ ∀ a ∈ es, ∀ b ∈ es, wv b = wv a
  | [] => by simp [prs]
  | [x] => by simp [prs]
  | x :: y :: r => by
    have ih := likes (y :: r)
    show ((PyData.tuple [x, y] :: prs 1 (y :: r)).all _) = true ↔ _
    rw [List.all_cons, Bool.and_eq_true, ih, hv_like2, decide_eq_true_iff]
    constructor
    · rintro ⟨h1, h2⟩ a ha b hb
      have hy : ∀ z ∈ x :: y :: r, wv z = wv y := fun z hz => by
        rcases List.mem_cons.mp hz with rfl | hz
        · exact h1
        · exact h2 y List.mem_cons_self z hz
      rw [hy a ha, hy b hb]
    · intro h
      exact ⟨h y (by simp) x (by simp), fun a ha b hb => h a (List.mem_cons_of_mem _ ha) b (List.mem_cons_of_mem _ hb)⟩
theorem unlikes : ∀ es : List Da, es.length ≤ 11 → (((prs 10 es).all fun pr => HV wv (k + 1) (mk "unlike" pr)) = true ↔ (es.map wv).Nodup)
  | [], _ => by simp [prs]
  | x :: r, h => by
    rw [List.length_cons] at h
    have ih := unlikes r (by omega)
    show ((((r.take 10).map fun y => PyData.tuple [x, y]) ++ prs 10 r).all _) = true ↔ _
    rw [List.take_of_length_le (by omega), List.all_append, Bool.and_eq_true, ih, List.map_cons, List.nodup_cons, List.all_map, List.all_eq_true]
    constructor
    · rintro ⟨h1, h2⟩
      refine ⟨fun z => ?_, h2⟩
      obtain ⟨y, hy, e⟩ := List.mem_map.mp z
      have := h1 y hy
      simp only [Function.comp] at this
      rw [hv_unlike2, e] at this
      simp at this
    · rintro ⟨h1, h2⟩
      refine ⟨fun y hy => ?_, h2⟩
      simp only [Function.comp]
      rw [hv_unlike2]
      have : ¬ wv x = wv y := fun e => h1 (by rw [e]; exact List.mem_map_of_mem hy)
      simp [this]
theorem pairs_sem {w : Str} (hw : w = "unlike" ∨ w = "like") {es : List Da} (h1 : 2 ≤ es.length) (h5 : es.length ≤ 5) : ((prs (lim w) es).all fun pr => HV wv (k + 1) (mk w pr)) = HV wv (k + 1) (.tuple [.str w, .tuple es]) := by
  rcases hw with rfl | rfl
  · rw [show lim "unlike" = 10 from if_neg (by decide +kernel), hv_unlike, Bool.eq_iff_iff, unlikes es (by omega), decide_eq_true_iff, ← srtd_nod, List.length_map]
  · rw [show lim "like" = 1 from if_pos rfl, hv_like, Bool.eq_iff_iff, likes es, decide_eq_true_iff, srtd_one (fun z => by
      have := congrArg List.length z
      rw [List.length_map, List.length_nil] at this
      omega)]
    constructor
    · intro h a ha b hb
      obtain ⟨x, hx, rfl⟩ := List.mem_map.mp ha
      obtain ⟨y, hy, rfl⟩ := List.mem_map.mp hb
      exact h x hx y hy
    · intro h a ha b hb
      exact h _ (List.mem_map_of_mem ha) _ (List.mem_map_of_mem hb)
theorem join_all {l : List Da} (h : ∀ x ∈ l, HV wv (k + 1) x = HV wv k x) : HV wv (k + 1) (join "all" l) = l.all (HV wv k) := by
  by_cases z : l.length = 1
  · obtain ⟨x, rfl⟩ := List.length_eq_one_iff.mp z
    rw [join_one, h x List.mem_cons_self, List.all_cons, List.all_nil, Bool.and_true]
  · rw [join_not z, hv_all]
theorem join_some {l : List Da} (h : ∀ x ∈ l, HV wv (k + 1) x = HV wv k x) : HV wv (k + 1) (join "some" l) = l.any (HV wv k) := by
  by_cases z : l.length = 1
  · obtain ⟨x, rfl⟩ := List.length_eq_one_iff.mp z
    rw [join_one, h x List.mem_cons_self, List.any_cons, List.any_nil, Bool.or_false]
  · rw [join_not z, hv_some]
end
/-! ### the straight form is a condition -/
theorem tw4 {t : Bool} {w : Str} (hw : w = "unlike" ∨ w = "like") : tw t w = "unlike" ∨ tw t w = "like" := by
  cases t
  · exact hw
  · rcases hw with rfl | rfl
    · exact .inr oth_unlike
    · exact .inl oth_like
theorem tw2 {t : Bool} {w : Str} (hw : w = "all" ∨ w = "some") : tw t w = "all" ∨ tw t w = "some" := by
  cases t
  · exact hw
  · rcases hw with rfl | rfl
    · exact .inr oth_all
    · exact .inl oth_some
theorem pair_cond {N : Int} {m n q : Nat} {w : Str} (hw : w = "unlike" ∨ w = "like") {es : List Da} (he : ∀ e ∈ es, SumD N m e) {l : Nat} {x : Da} (hx : x ∈ (prs l es).map (mk w)) : CondD N m (n + 1) q x := by
  obtain ⟨pr, hpr, rfl⟩ := List.mem_map.mp hx
  obtain ⟨a, b, ha, hb, rfl⟩ := prs_mem hpr
  refine .inl ⟨w, [a, b], hw, fun e h => ?_, by simp, by simp, rfl⟩
  rcases List.mem_cons.mp h with rfl | h
  · exact he _ ha
  · rw [List.mem_singleton] at h; subst h; exact he _ hb
theorem st_cond {N : Int} {m : Nat} : ∀ (n q : Nat) (t : Bool) (d : Da), CondD N m n q d → CondD N m (n + 1) (q + 1) (St n t d)
  | 0, _, _, _, h => h.elim
  | n + 1, q, t, d, h => by
    rcases h with ⟨w, es, hw, he, h1, h2, rfl⟩ | ⟨e, he, rfl⟩ | ⟨w, es, r, hw, he, h1, h2, rfl, hr⟩
    · rw [st_base hw]
      have mem := fun {n q} {x} => pair_cond (N := N) (m := m) (n := n) (q := q) (tw4 (t := t) hw) he (l := lim w) (x := x)
      have lp := prs_pos (lim_pos w) h1
      have lt := Nat.le_trans (prs_tr (lim w) es) (tr_le h2)
      by_cases z : ((prs (lim w) es).map (mk (tw t w))).length = 1
      · obtain ⟨x, e⟩ := List.length_eq_one_iff.mp z
        rw [e, join_one]
        exact mem (by rw [e]; exact List.mem_cons_self)
      · rw [join_not z]
        rw [List.length_map] at z
        refine .inr (.inr ⟨tw t "all", _, 0, tw2 (.inl rfl), fun e he => mem he, ?_, ?_, rfl, by omega⟩)
        · rw [List.length_map]; omega
        · rw [List.length_map]; omega
    · rw [st_not]
      exact (st_cond n q (!t) e he).mono (by omega) (Nat.le_refl _)
    · rw [st_row hw]
      refine .inr (.inr ⟨tw t w, _, r + 1, tw2 hw, fun e h => ?_, by rw [List.length_map]; exact h1, by rw [List.length_map]; exact h2, rfl, by omega⟩)
      obtain ⟨x, hx, rfl⟩ := List.mem_map.mp h
      exact st_cond n r t x (he x hx)
theorem st_sem {N : Int} {wv : Da → Int} {m : Nat} : ∀ (n q : Nat) (t : Bool) (d : Da), CondD N m n q d → HV wv (n + 1) (St n t d) = (HV wv n d != t)
  | 0, _, _, _, h => h.elim
  | n + 1, q, t, d, h => by
    rcases h with ⟨w, es, hw, he, h1, h2, rfl⟩ | ⟨e, he, rfl⟩ | ⟨w, es, r, hw, he, h1, h2, rfl, hr⟩
    · rw [st_base hw, ← pairs_sem hw h1 h2]
      have mem := fun {q} {x} => pair_cond (N := N) (m := m) (n := n) (q := q) (tw4 (t := t) hw) he (l := lim w) (x := x)
      have up : ∀ x ∈ (prs (lim w) es).map (mk (tw t w)), HV wv (n + 1 + 1) x = HV wv (n + 1) x := fun x hx => hv_up (by omega) (mem (q := 0) hx)
      cases t
      · show HV wv (n + 1 + 1) (join "all" _) = _
        rw [join_all up, List.all_map, Bool.bne_false]; rfl
      · show HV wv (n + 1 + 1) (join (oth "all") _) = _
        rw [oth_all, join_some up, List.any_map]
        show List.any (prs (lim w) es) (fun pr => HV wv (n + 1) (mk (oth w) pr)) = _
        have : ∀ pr ∈ prs (lim w) es, HV wv (n + 1) (mk (oth w) pr) = !HV wv (n + 1) (mk w pr) := fun pr hpr => by
          obtain ⟨a, b, _, _, rfl⟩ := prs_mem hpr
          exact hv_oth hw a b
        rw [any_congr this, Bool.bne_true, List.not_all_eq_any_not]
    · rw [st_not, hv_up (by omega) (st_cond n q (!t) e he), st_sem n q (!t) e he, hv_not]
      cases HV wv n e <;> cases t <;> rfl
    · have ih := fun x hx => st_sem (wv := wv) n r t x (he x hx)
      rw [st_row hw]
      rcases hw with rfl | rfl <;> cases t
      · show HV wv (n + 1 + 1) (.tuple [.str "all", _]) = _
        rw [hv_all, hv_all, List.all_map, Bool.bne_false]
        exact all_congr fun x hx => by rw [Function.comp, ih x hx, Bool.bne_false]
      · show HV wv (n + 1 + 1) (.tuple [.str (oth "all"), _]) = _
        rw [oth_all, hv_some, hv_all, List.any_map, Bool.bne_true, List.not_all_eq_any_not]
        exact any_congr fun x hx => by rw [Function.comp, ih x hx, Bool.bne_true]
      · show HV wv (n + 1 + 1) (.tuple [.str "some", _]) = _
        rw [hv_some, hv_some, List.any_map, Bool.bne_false]
        exact any_congr fun x hx => by rw [Function.comp, ih x hx, Bool.bne_false]
      · show HV wv (n + 1 + 1) (.tuple [.str (oth "some"), _]) = _
        rw [oth_some, hv_some, hv_all, List.all_map, Bool.bne_true, List.not_any_eq_all_not]
        exact all_congr fun x hx => by rw [Function.comp, ih x hx, Bool.bne_true]
/-! ### its shape -/
theorem lay_all : ∀ {xs : List Da}, (∀ x ∈ xs, x.canLay0 = true) → PyData.canLayAll0 xs = true
  | [], _ => by simp [PyData.canLayAll0]
  | x :: xs, h => by
    simp only [PyData.canLayAll0, Bool.and_eq_true]
    exact ⟨h x List.mem_cons_self, lay_all fun y hy => h y (List.mem_cons_of_mem _ hy)⟩
theorem dep_all {b : Nat} : ∀ {xs : List Da}, (∀ x ∈ xs, x.depth ≤ b) → PyData.depthAll xs ≤ b
  | [], _ => by simp [PyData.depthAll]
  | x :: xs, h => by
    simp only [PyData.depthAll]
    exact Nat.max_le.mpr ⟨h x List.mem_cons_self, dep_all fun y hy => h y (List.mem_cons_of_mem _ hy)⟩
structure Shp (b : Nat) (d : Da) : Prop where
  lay : d.canLay0 = true
  dep : d.depth ≤ b
theorem Shp.mono {b c : Nat} {d : Da} (h : Shp b d) (hb : b ≤ c) : Shp c d := ⟨h.lay, Nat.le_trans h.dep hb⟩
theorem shp_tup {b : Nat} {xs : List Da} (h : ∀ x ∈ xs, Shp b x) : Shp (b + 1) (.tuple xs) := by
  constructor
  · unfold PyData.canLay0
    exact lay_all fun x hx => (h x hx).lay
  · unfold PyData.depth
    exact Nat.succ_le_succ (dep_all fun x hx => (h x hx).dep)
theorem shp_int {b : Nat} (i : Int) : Shp b (.int i) := ⟨by unfold PyData.canLay0; rfl, by unfold PyData.depth; omega⟩
theorem shp_str {b : Nat} {w : Str} (h : PyData.strOk w = true) : Shp b (.str w) := ⟨by unfold PyData.canLay0; exact h, by unfold PyData.depth; omega⟩
theorem shp_mk {b : Nat} {w : Str} {e : Da} (hw : PyData.strOk w = true) (h : Shp b e) : Shp (b + 1) (.tuple [.str w, e]) := shp_tup fun x hx => by
  rcases List.mem_cons.mp hx with rfl | hx
  · exact shp_str hw
  · rw [List.mem_singleton] at hx; subst hx; exact h
theorem shp_leafI {d : Da} (h : LeafI d) : Shp 1 d := by
  obtain ⟨k, rfl, _⟩ := h
  exact shp_mk (by simp) (shp_int k)
theorem shp_leafO {N : Int} {d : Da} (h : LeafO N d) : Shp 1 d := by
  obtain ⟨k, rfl, _⟩ := h
  exact shp_mk (by simp) (shp_int k)
theorem shp_sum {N : Int} : ∀ {n : Nat} {d : Da}, SumD N n d → Shp (2 * n + 1) d
  | 0, _, h => h.elim
  | n + 1, _, h => by
    rcases h with h | h | ⟨e, he, rfl⟩ | ⟨es, he, h1, h2, rfl⟩ | ⟨os, is, ho, hi, h4, h1, h2, rfl⟩
    · exact (shp_leafI h).mono (by omega)
    · exact (shp_leafO h).mono (by omega)
    · exact (shp_mk (by simp) (shp_sum he)).mono (by omega)
    · exact (shp_mk (by simp) (shp_tup fun e h => shp_sum (he e h))).mono (by omega)
    · refine (shp_mk (by simp) (shp_tup fun e h => ?_)).mono (by omega : 1 + 1 + 1 ≤ _)
      rcases List.mem_append.mp h with h | h
      · exact shp_leafO (ho e h)
      · exact shp_leafI (hi e h)
theorem ok_tw {t : Bool} {w : Str} (h : is4 w) : PyData.strOk (tw t w) = true := by
  cases t
  · show PyData.strOk w = true
    rcases h with rfl | rfl | rfl | rfl <;> simp
  · show PyData.strOk (oth w) = true
    rcases h with rfl | rfl | rfl | rfl
    · rw [oth_all]; simp
    · rw [oth_some]; simp
    · rw [oth_like]; simp
    · rw [oth_unlike]; simp
theorem shp_st {N : Int} : ∀ (n q : Nat) (t : Bool) (d : Da), CondD N 17 n q d → Shp (2 * q + 40) (St n t d)
  | 0, _, _, _, h => h.elim
  | n + 1, q, t, d, h => by
    rcases h with ⟨w, es, hw, he, h1, h2, rfl⟩ | ⟨e, he, rfl⟩ | ⟨w, es, r, hw, he, h1, h2, rfl, hr⟩
    · rw [st_base hw]
      have each : ∀ x ∈ (prs (lim w) es).map (mk (tw t w)), Shp 37 x := fun x hx => by
        obtain ⟨pr, hpr, rfl⟩ := List.mem_map.mp hx
        obtain ⟨a, b, ha, hb, rfl⟩ := prs_mem hpr
        refine shp_mk (ok_tw (hw.elim (fun z => .inr (.inr (.inr z))) fun z => .inr (.inr (.inl z)))) (shp_tup (b := 35) fun e h => ?_)
        rcases List.mem_cons.mp h with rfl | h
        · exact shp_sum (he _ ha)
        · rw [List.mem_singleton] at h; subst h; exact shp_sum (he _ hb)
      by_cases z : ((prs (lim w) es).map (mk (tw t w))).length = 1
      · obtain ⟨x, e⟩ := List.length_eq_one_iff.mp z
        rw [e, join_one]
        exact (each x (by rw [e]; exact List.mem_cons_self)).mono (by omega)
      · rw [join_not z]
        exact (shp_mk (ok_tw (.inl rfl)) (shp_tup each)).mono (by omega)
    · rw [st_not]
      exact shp_st n q (!t) e he
    · rw [st_row hw]
      refine (shp_mk (b := 2 * r + 41) (ok_tw (hw.elim .inl fun z => .inr (.inl z))) (shp_tup fun e h => ?_)).mono (by omega)
      obtain ⟨x, hx, rfl⟩ := List.mem_map.mp h
      exact shp_st n r t x (he x hx)
theorem ne_same {b : Nat} {d : Da} (h : Shp b d) (hb : b ≤ 64) : pNe d d = some (.bool false) := by
  have s : SeqAt.shaped d = true := by
    unfold SeqAt.shaped
    rw [h.lay, decide_eq_true (Nat.le_trans h.dep hb)]; rfl
  unfold pNe
  rw [if_pos ⟨s, s⟩, SeqAt.eqv_refl d h.lay]; rfl
end K84
end
section
set_option Elab.async false
set_option linter.all false
set_option maxRecDepth 100000
set_option maxHeartbeats 4000000
namespace K84
open PySem L2 Ip
/-! ### all choices -/
def tupI (c : List Int) : Da := .tuple (c.map PyData.int)
def rowsD (ls : List (List Int)) : Da := .tuple (ls.map tupI)
def chF (found : List (List Int)) (row : List Int) : List (List Int) := found.flatMap fun c => row.map fun x => c ++ [x]
def chs (ls : List (List Int)) : List (List Int) := ls.foldl chF [[]]
theorem chF_len (row : List Int) : ∀ found : List (List Int), (chF found row).length = found.length * row.length
  | [] => by simp [chF]
  | c :: cs => by
    have ih := chF_len row cs
    unfold chF at ih ⊢
    rw [List.flatMap_cons, List.length_append, List.length_map, ih, List.length_cons, Nat.succ_mul, Nat.add_comm]
theorem chF_cons (c : List Int) (cs : List (List Int)) (row : List Int) : chF (c :: cs) row = (row.map fun x => c ++ [x]) ++ chF cs row := by
  unfold chF; rw [List.flatMap_cons]
def Bd (ls : List (List Int)) : Prop := ∀ i, ((ls.take i).foldl chF [[]]).length ≤ 12
theorem mem_chF {c : List Int} {found : List (List Int)} {row : List Int} (h : c ∈ chF found row) : ∃ a x, a ∈ found ∧ x ∈ row ∧ c = a ++ [x] := by
  obtain ⟨a, ha, h⟩ := List.mem_flatMap.mp h
  obtain ⟨x, hx, rfl⟩ := List.mem_map.mp h
  exact ⟨a, x, ha, hx, rfl⟩
theorem mem_chs {Y : Int → Prop} : ∀ (ls : List (List Int)) (acc : List (List Int)) (k : Nat), (∀ a ∈ acc, a.length = k ∧ ∀ x ∈ a, Y x) → (∀ r ∈ ls, ∀ x ∈ r, Y x) → ∀ c ∈ ls.foldl chF acc, c.length = k + ls.length ∧ ∀ x ∈ c, Y x
  | [], acc, k, ha, _, c, hc => ha c hc
  | r :: rs, acc, k, ha, hr, c, hc => by
    have := mem_chs rs (chF acc r) (k + 1) (fun a h => by
      obtain ⟨b, x, hb, hx, rfl⟩ := mem_chF h
      refine ⟨by rw [List.length_append, (ha b hb).1]; rfl, fun y hy => ?_⟩
      rcases List.mem_append.mp hy with hy | hy
      · exact (ha b hb).2 y hy
      · rw [List.mem_singleton] at hy; subst hy
        exact hr r List.mem_cons_self _ hx) (fun s hs => hr s (List.mem_cons_of_mem _ hs)) c hc
    rw [List.length_cons]
    exact ⟨by omega, this.2⟩
theorem v_tupI (c : List Int) : tupI c = .tuple (c.map PyData.int) := rfl
theorem addOne (c : List Int) (x : Int) (h : c.length ≤ 1000) : pAdd (tupI c) (.tuple [.int x]) = some (tupI (c ++ [x])) := by
  unfold tupI
  rw [v_addT, if_pos (by rw [List.length_map, List.length_singleton]; omega), List.map_append]; rfl
theorem take_fold {ls : List (List Int)} {i : Nat} {r : List Int} (h : ls[i]? = some r) : (ls.take (i + 1)).foldl chF [[]] = chF ((ls.take i).foldl chF [[]]) r := by
  rw [List.take_succ, h, List.foldl_append]; rfl
theorem take_len {ls : List (List Int)} {i : Nat} : ∀ c ∈ (ls.take i).foldl chF [[]], c.length ≤ ls.length := fun c hc => by
  have := (mem_chs (Y := fun _ => True) (ls.take i) [[]] 0 (fun a ha => by rw [List.mem_singleton] at ha; subst ha; exact ⟨rfl, fun _ _ => trivial⟩) (fun _ _ _ _ => trivial) c hc).1
  rw [List.length_take] at this
  omega
theorem law_choices_k {ls : List (List Int)} (hb : Bd ls) (hl : ls.length ≤ 100) (hr : ∀ r ∈ ls, r.length ≤ 100) : Ev f__law_choices [.fz (rowsD ls)] (.list ((chs ls).map tupI)) := by
  intro P Px hp
  unfold f__law_choices fnOf rowsD
  rw [sim_sSeq]
  simp [-sim_sSeq, and_assoc]
  rw [sim_sSeq]
  simp [-sim_sSeq, and_assoc]
  refine for_inv _ _ (fun i ρ => ∃ x y z : Sl, keepS (some z) = z ∧ ρ = [.fz (rowsD ls), .fz (.list (((ls.take i).foldl chF [[]]).map tupI)), x, y, z, .un]) ⟨.un, .un, .un, rfl, rfl⟩ ?_ ?_
  · rintro i d ρ hi ⟨x, y, z, hz, rfl⟩ M hM
    rw [List.getElem?_map] at hi
    cases hr' : ls[i]? with
    | none => rw [hr'] at hi; cases hi
    | some r =>
      rw [hr'] at hi
      cases hi
      have bi := hb i
      have ti := take_len (ls := ls) (i := i)
      have rl := hr r (List.mem_of_getElem? hr')
      obtain ⟨found, hf⟩ : ∃ f, f = (ls.take i).foldl chF [[]] := ⟨_, rfl⟩
      rw [← hf] at bi ti ⊢
      simp [-sim_sSeq, and_assoc]
      rw [sim_sSeq]
      simp [-sim_sSeq, and_assoc]
      rw [sim_sSeq]
      simp [-sim_sSeq, and_assoc]
      refine for_inv _ _ (fun j ρ => ∃ z : Sl, keepS (some z) = z ∧ ρ = [.fz (rowsD ls), .fz (.list (found.map tupI)), .fz (tupI r), .fz (.list ((chF (found.take j) r).map tupI)), z, .un]) ⟨z, hz, rfl⟩ ?_ ?_
      · rintro j d ρ hj ⟨z, hz, rfl⟩ K hK
        rw [List.getElem?_map] at hj
        cases hc : found[j]? with
        | none => rw [hc] at hj; cases hj
        | some c =>
          rw [hc] at hj
          cases hj
          have cl := ti c (List.mem_of_getElem? hc)
          simp [and_assoc]
          rw [show tupI r = .tuple (r.map PyData.int) from rfl]
          simp [and_assoc]
          refine lc_map2 PyData.int (fun x => tupI (c ++ [x])) r [] (by simp; omega) ?_ ?_
          · intro x hx S hS
            simp [addOne c x (by omega)]
            exact hS _ (by simp)
          · have hlen : (chF (found.take j) r).length + r.length ≤ 100000 := by
              rw [chF_len, List.length_take]
              have : min j found.length * r.length ≤ 12 * 100 := Nat.mul_le_mul (by omega) rl
              omega
            have e : pAdd (.list ((chF (found.take j) r).map tupI)) (.list ([] ++ r.map fun x => tupI (c ++ [x]))) = some (.list ((chF (found.take (j + 1)) r).map tupI)) := by
              rw [v_addL, if_pos (by simpa using hlen)]
              congr 2
              rw [List.take_succ, hc]
              unfold chF
              rw [List.flatMap_append, List.map_append]
              simp
            simp at e
            simp [e]
            exact hK _ ⟨_, rfl, rfl⟩
      · rintro ρ ⟨z, hz, rfl⟩
        simp
        refine hM _ ⟨.fz (tupI r), .fz (.list ((chF found r).map tupI)), z, hz, ?_⟩
        rw [take_fold hr', ← hf]
  · rintro ρ ⟨x, y, z, hz, rfl⟩
    rw [List.length_map, List.take_length]
    simp
    exact hp
def plen : List (List Int) → Nat
  | [] => 1
  | r :: rs => r.length * plen rs
theorem fold_len : ∀ (ls acc : List (List Int)), (ls.foldl chF acc).length = acc.length * plen ls
  | [], acc => by
    show acc.length = acc.length * 1
    rw [Nat.mul_one]
  | r :: rs, acc => by
    show (rs.foldl chF (chF acc r)).length = acc.length * (r.length * plen rs)
    rw [fold_len rs, chF_len, Nat.mul_assoc]
/-- how many choices there are -/
theorem count_k (ls : List (List Int)) (hb : ∀ i, plen (ls.take i) ≤ 30000) (hr : ∀ r ∈ ls, r.length ≤ 100) : Ev f_choice_count [.fz (rowsD ls)] (.int (plen ls)) := by
  intro P Px hp
  unfold f_choice_count fnOf rowsD
  rw [sim_sSeq]
  simp [-sim_sSeq, and_assoc]
  rw [sim_sSeq]
  simp [-sim_sSeq, and_assoc]
  have next : ∀ (ls : List (List Int)) (i : Nat) (r : List Int), ls[i]? = some r → plen (ls.take (i + 1)) = plen (ls.take i) * r.length := by
    intro ls
    induction ls with
    | nil => intro i r h; simp at h
    | cons s ls ih =>
      intro i r h
      cases i with
      | zero => simp at h; subst h; show s.length * 1 = 1 * s.length; omega
      | succ i =>
        show s.length * plen (ls.take (i + 1)) = s.length * plen (ls.take i) * r.length
        rw [ih i r (by simpa using h), Nat.mul_assoc]
  refine for_inv _ _ (fun i ρ => ∃ x : Sl, ρ = [.fz (rowsD ls), .fz (.int (plen (ls.take i))), x]) ⟨.un, rfl⟩ ?_ ?_
  · rintro i d ρ hi ⟨x, rfl⟩ M hM
    rw [List.getElem?_map] at hi
    cases hr' : ls[i]? with
    | none => rw [hr'] at hi; cases hi
    | some r =>
      rw [hr'] at hi
      cases hi
      have b1 := hb i
      have b2 := hr r (List.mem_of_getElem? hr')
      have e1 : pMul (.int (plen (ls.take i))) (.int (r.length : Int)) = some (.int ((plen (ls.take i) : Int) * (r.length : Int))) := mulOk (m := 31) _ _ (by omega) (by omega) (by decide) (by decide)
      simp [and_assoc, v_tupI, e1]
      refine hM _ ⟨.fz (tupI r), ?_⟩
      rw [next ls i r hr', Int.natCast_mul]
      rfl
  · rintro ρ ⟨x, rfl⟩
    rw [List.length_map, List.take_length]
    simp
    exact hp
theorem bd_plen {ls : List (List Int)} (hb : Bd ls) (i : Nat) : plen (ls.take i) ≤ 12 := by
  have := hb i
  rw [fold_len] at this
  simpa using this
theorem frz_app : ∀ (xs : List Da) (d : Da), frzL (xs.map Ar.v ++ [.v d]) = some (xs ++ [d])
  | [], d => rfl
  | x :: xs, d => by
    rw [List.map_cons, List.cons_append, v_frzL1, frz_app xs d]; rfl
theorem choices_k {ls : List (List Int)} (hb : Bd ls) (hl : ls.length ≤ 100) (hr : ∀ r ∈ ls, r.length ≤ 100) : Ev f_choices [.fz (rowsD ls)] (.tuple ((chs ls).map tupI)) := by
  intro P Px hp
  unfold f_choices fnOfX
  have ck := count_k ls (fun i => by have := bd_plen hb i; omega) hr
  have cb := bd_plen hb ls.length
  rw [List.take_length] at cb
  rw [sim_sSeq]
  simp [-sim_sSeq, and_assoc]
  refine ck _ _ ?_
  have nb : ¬ ((20000 : Int) < (plen ls : Int)) := by omega
  simp [-sim_sSeq, and_assoc]
  refine .inl ⟨by show (plen ls : Int) ≤ 20000; omega, ?_⟩
  rw [sim_sSeq]
  simp [-sim_sSeq, and_assoc]
  rw [sim_sSeq, show rowsD ls = .tuple (ls.map tupI) from rfl]
  simp [-sim_sSeq, and_assoc]
  refine for_inv _ _ (fun i ρ => ∃ x y z : Sl, keepS (some y) = y ∧ keepS (some z) = z ∧ ρ = [.fz (rowsD ls), .fz (.list (((ls.take i).foldl chF [[]]).map tupI)), x, y, z]) ⟨.un, .un, .un, rfl, rfl, rfl⟩ ?_ ?_
  · rintro i d ρ hi ⟨x, y, z, hy, hz, rfl⟩ M hM
    rw [List.getElem?_map] at hi
    cases hr' : ls[i]? with
    | none => rw [hr'] at hi; cases hi
    | some r =>
      rw [hr'] at hi
      cases hi
      have bi := hb i
      have ti := take_len (ls := ls) (i := i)
      have rl := hr r (List.mem_of_getElem? hr')
      have bn := hb (i + 1)
      rw [take_fold hr'] at bn
      obtain ⟨found, hf⟩ : ∃ f, f = (ls.take i).foldl chF [[]] := ⟨_, rfl⟩
      rw [← hf] at bi ti bn ⊢
      simp [and_assoc]
      have fm : (found.map tupI).flatMap (fun d => match d with | .tuple cs => r.map fun x => .tuple (cs ++ [.int x]) | _ => []) = (chF found r).map tupI := by
        clear bi ti bn hf
        induction found with
        | nil => rfl
        | cons c cs ih =>
          rw [List.map_cons, List.flatMap_cons, ih, chF_cons, List.map_append, List.map_map]
          congr 1
          refine List.map_congr_left fun x _ => ?_
          show PyData.tuple (c.map PyData.int ++ [.int x]) = tupI (c ++ [x])
          unfold tupI
          rw [List.map_append]; rfl
      refine lc2_det (fun d => match d with | .tuple cs => r.map fun x => .tuple (cs ++ [.int x]) | _ => []) _ _ (by rw [fm]; simp; omega) ?_ ?_
      · intro d hd acc K hl hK
        obtain ⟨c, hc, rfl⟩ := List.mem_map.mp hd
        have cl := ti c hc
        simp [and_assoc, show tupI r = .tuple (r.map PyData.int) from rfl]
        refine lc_map2 PyData.int (fun x => .tuple (c.map PyData.int ++ [.int x])) r acc (by
          have : (acc ++ r.map fun x => PyData.tuple (c.map PyData.int ++ [.int x])).length ≤ 100000 := hl
          rw [List.length_append, List.length_map] at this
          exact this) ?_ ?_
        · intro x hx S hS
          simp [and_assoc, show tupI c = .tuple (c.map PyData.int) from rfl]
          exact ⟨c.map PyData.int ++ [.int x], by rw [← List.map_map]; exact frz_app _ _, by simp; omega, hS _ (by simp [tupI])⟩
        · exact hK _ (by simp [hy, hz]; rfl)
      · rw [List.nil_append, fm]
        simp
        refine hM _ ⟨.fz (tupI r), y, z, hy, hz, ?_⟩
        rw [take_fold hr', ← hf]
  · rintro ρ ⟨x, y, z, hy, hz, rfl⟩
    rw [List.length_map, List.take_length]
    simp
    exact hp
end K84
end
section
set_option Elab.async false
set_option linter.all false
set_option maxRecDepth 100000
set_option maxHeartbeats 4000000
namespace K84
open PySem L2 Ip
theorem lc_flt2 {ι : Type} {G : WG} {Tt : WT Bool} {A : WT Da} {vs : List Nat} {P : List Da → En → Prop} {Px : Ex → En → Prop} {ρ : En} (f : ι → Da) (g : ι → Bool) : ∀ (xs : List ι) (acc : List Da), acc.length + xs.length ≤ 100000 →
    (∀ x ∈ xs, ∀ (S1 : Da → En → Prop) (S0 : En → Prop), (g x = true → ∀ ρ4, backE ρ ρ4 vs = ρ → S1 (f x) ρ4) → (g x = false → ∀ ρ3, backE ρ ρ3 vs = ρ → S0 ρ3) →
      G (f x) (wipeE ρ vs) (fun ρ2 => Tt ρ2 (fun b ρ3 => (b = true ∧ A ρ3 S1 noX) ∨ (b = false ∧ S0 ρ3)) noX)) → P (acc ++ (xs.filter g).map f) ρ → lcL G Tt A vs P Px acc (xs.map f) ρ
  | [], acc, hl, hs, hp => by
    rw [List.filter_nil, List.map_nil, List.append_nil] at hp
    exact hp
  | x :: xs, acc, hl, hs, hp => by
    rw [List.length_cons] at hl
    rw [List.map_cons]
    unfold lcL
    refine hs x List.mem_cons_self _ _ (fun hg ρ4 e4 => ⟨by omega, ?_⟩) (fun hg ρ3 e3 => ?_)
    · rw [e4]
      refine lc_flt2 f g xs _ (by rw [List.length_append, List.length_singleton]; omega) (fun y hy => hs y (List.mem_cons_of_mem _ hy)) ?_
      rw [List.filter_cons_of_pos hg, List.map_cons] at hp
      rw [List.append_assoc]
      exact hp
    · rw [e3]
      refine lc_flt2 f g xs _ (by omega) (fun y hy => hs y (List.mem_cons_of_mem _ hy)) ?_
      rw [List.filter_cons_of_neg (by rw [hg]; exact Bool.false_ne_true)] at hp
      exact hp
theorem held_k {p : Int} {cond : Da} {ls : List (List Int)} (hb : Bd ls) (hl : ls.length ≤ 100) (hr : ∀ r ∈ ls, r.length ≤ 100) (g : List Int → Bool) (hg : ∀ c ∈ chs ls, Ev (f_holds 60) [.fz (.int p), .fz cond, ch c] (.bool (g c))) :
    Ev f_held [.fz (.int p), .fz (rowsD ls), .fz cond] (.tuple (((chs ls).filter g).map tupI)) := by
  intro P Px hp
  unfold f_held fnOfX
  simp [and_assoc]
  refine choices_k hb hl hr _ _ ?_
  simp
  have cl : (chs ls).length ≤ 12 := by
    have := hb ls.length
    rw [List.take_length] at this
    exact this
  refine lc_flt2 tupI g (chs ls) [] (by simp; omega) ?_ ?_
  · intro c hc S1 S0 k1 k0
    simp
    refine hg c hc _ _ ?_
    simp
    cases e : g c with
    | true => simp; exact k1 e _ (by simp)
    | false => simp; exact k0 e _ (by simp)
  · simp
    exact hp
/-! ### too many choices -/
def rgI (k : Int) : List Int := (List.range k.toNat).map fun i : Nat => (0 : Int) + (i : Int)
theorem rgI_len (k : Int) : (rgI k).length = k.toNat := by unfold rgI; rw [List.length_map, List.length_range]
theorem plen_perm {a b : List (List Int)} (h : a.Perm b) : plen a = plen b := by
  induction h with
  | nil => rfl
  | cons x _ ih => show x.length * _ = x.length * _; rw [ih]
  | swap x y l => show y.length * (x.length * plen l) = x.length * (y.length * plen l); rw [Nat.mul_left_comm]
  | trans _ _ h1 h2 => rw [h1, h2]
theorem plen_app (a b : List (List Int)) : plen (a ++ b) = plen a * plen b := by
  induction a with
  | nil => show _ = 1 * plen b; rw [Nat.one_mul]; rfl
  | cons x xs ih => show x.length * plen (xs ++ b) = x.length * plen xs * plen b; rw [ih, Nat.mul_assoc]
theorem held_wide {p : Int} {cond : Da} {ls : List (List Int)} (h0 : plen ls = 20160) (hr : ∀ r ∈ ls, r.length ≤ 100) {P : Da → List Sl → Prop} {Px : Ex → List Sl → Prop} (hp : Px ⟨0, .int 20160⟩ [.fz (.int p), .fz (rowsD ls), .fz cond]) :
    f_held [.fz (.int p), .fz (rowsD ls), .fz cond] P Px := by
  unfold f_held fnOfX
  simp [and_assoc]
  unfold f_choices fnOfX
  have ck := count_k ls (fun i => by
    have e := plen_app (ls.take i) (ls.drop i)
    rw [List.take_append_drop, h0] at e
    have : plen (ls.drop i) ≠ 0 := fun z => by rw [z] at e; omega
    have h2 : plen (ls.take i) * 1 ≤ plen (ls.take i) * plen (ls.drop i) := Nat.mul_le_mul_left _ (by omega)
    omega) hr
  rw [h0] at ck
  rw [sim_sSeq]
  simp [-sim_sSeq, and_assoc]
  refine ck _ _ ?_
  simp [-sim_sSeq, and_assoc]
  refine .inr ⟨by show (20000 : Int) < 20160; decide, ?_⟩
  refine ck _ _ ?_
  simp
  exact hp
end K84
end
section
set_option Elab.async false
set_option linter.all false
set_option maxRecDepth 100000
set_option maxHeartbeats 4000000
namespace K84
open PySem L2 Ip PySem.Spec PyProof.Rows
theorem exB {α : Type} {l : List α} {R : α → Bool → Prop} (h : ∀ e ∈ l, ∃ x, R e x) : ∃ g : α → Bool, ∀ e ∈ l, R e (g e) :=
  ⟨fun e => open Classical in if z : e ∈ l then Classical.choose (h e z) else false, fun e he => by
    simp only
    rw [dif_pos he]
    exact Classical.choose_spec (h e he)⟩
theorem bd_of : ∀ (ls : List (List Int)) (fs : List Int) (acc : List (List Int)), ls.length = fs.length → (∀ (i : Nat) r s, ls[i]? = some r → fs[i]? = some s → (r.length : Int) ≤ s) → (∀ x ∈ fs, 1 ≤ x) → (acc.length : Int) * prodI fs ≤ 12 → ∀ i, ((ls.take i).foldl chF acc).length ≤ 12
  | ls, fs, acc, hl, hr, hf, hp, 0 => by
    rw [List.take_zero]
    have p1 := prod_pos hf
    have : (acc.length : Int) * 1 ≤ (acc.length : Int) * prodI fs := Int.mul_le_mul_of_nonneg_left p1 (by omega)
    show acc.length ≤ 12
    omega
  | [], fs, acc, hl, hr, hf, hp, i + 1 => by
    rw [List.take_nil]
    have p1 := prod_pos hf
    have : (acc.length : Int) * 1 ≤ (acc.length : Int) * prodI fs := Int.mul_le_mul_of_nonneg_left p1 (by omega)
    show acc.length ≤ 12
    omega
  | r :: rs, [], acc, hl, hr, hf, hp, i + 1 => by simp at hl
  | r :: rs, s :: ss, acc, hl, hr, hf, hp, i + 1 => by
    refine bd_of rs ss (chF acc r) (by simpa using hl) (fun j r' s' h1 h2 => hr (j + 1) r' s' (by simpa using h1) (by simpa using h2)) (fun x hx => hf x (List.mem_cons_of_mem _ hx)) ?_ i
    rw [chF_len]
    have h0 := hr 0 r s rfl rfl
    have p1 := prod_pos (l := ss) fun x hx => hf x (List.mem_cons_of_mem _ hx)
    calc (((acc.length * r.length : Nat)) : Int) * prodI ss = (acc.length : Int) * ((r.length : Int) * prodI ss) := by rw [Int.natCast_mul, Int.mul_assoc]
      _ ≤ (acc.length : Int) * (s * prodI ss) := Int.mul_le_mul_of_nonneg_left (Int.mul_le_mul_of_nonneg_right h0 (by omega)) (by omega)
      _ ≤ 12 := hp
theorem rows_of {Y : Nat → List Int → Prop} : ∀ {ys : List Da}, (∀ (i : Nat) y, ys[i]? = some y → ∃ ns : List Int, y = tupI ns ∧ Y i ns) → ∃ ls : List (List Int), ys = ls.map tupI ∧ ∀ (i : Nat) r, ls[i]? = some r → Y i r
  | [], h => ⟨[], rfl, fun i r hr => by simp at hr⟩
  | y :: ys, h => by
    obtain ⟨ns, rfl, hy⟩ := h 0 y rfl
    obtain ⟨ls, rfl, hl⟩ := rows_of (Y := fun i => Y (i + 1)) fun i z hz => h (i + 1) z (by simpa using hz)
    refine ⟨ns :: ls, rfl, fun i r hr => ?_⟩
    cases i with
    | zero => simp at hr; subst hr; exact hy
    | succ i => exact hl i r (by simpa using hr)
theorem ne_bool (b : Bool) : pNe (.str (boolText b)) (.str (boolText b)) = some (.bool false) := ne_same (b := 1) (shp_str (by cases b <;> decide +kernel)) (by decide)
theorem ne_due (l : List (List Int)) : pNe (.tuple (l.map tupI)) (.tuple (l.map tupI)) = some (.bool false) := ne_same (b := 2) (shp_tup (b := 1) fun x hx => by
  obtain ⟨c, _, rfl⟩ := List.mem_map.mp hx
  exact shp_tup (b := 0) fun x hx => by
    obtain ⟨i, _, rfl⟩ := List.mem_map.mp hx
    exact shp_int i) (by decide)
theorem math_ok (cs : List Int) (b : Int) (h1 : cs.length ≤ 63) (h2 : b.natAbs < 2 ^ 31) : S_law (.un :: .dl cs b :: List.replicate 11 .un) edLaw := by
  have hd : DL cs b := ⟨h1, h2⟩
  unfold S_law
  rw [sim_sSeq]
  simp [-sim_sSeq, and_assoc]
  refine of_k hd (by simp) (by simp) fun pd hp cs1 b1 hd1 => ?_
  obtain ⟨p, rfl, p0, p1, p101⟩ : ∃ p : Int, pd = .int p ∧ 0 ≤ p ∧ p ≠ 1 ∧ p ≤ 101 := by
    simp at hp
    rcases hp with rfl | rfl | rfl | rfl | rfl <;> exact ⟨_, rfl, by decide, by decide, by decide⟩
  clear hp
  simp [-sim_sSeq, and_assoc]
  refine any_k hd1 (by decide) (by decide) fun k1 cs2 b2 a1 a2 hd2 => ?_
  simp [-sim_sSeq, and_assoc]
  refine of_k hd2 (by simp) (by simp) fun nd hn cs3 b3 hd3 => ?_
  obtain ⟨N, rfl, n0, n10⟩ : ∃ N : Nat, nd = .int (N : Int) ∧ 0 < (N : Int) ∧ (N : Int) ≤ 10 := by
    simp at hn
    rcases hn with rfl | rfl
    · exact ⟨10, rfl, by decide, by decide⟩
    · exact ⟨(1 + k1).toNat, by congr 1; omega, by omega, by omega⟩
  clear hn
  simp [-sim_sSeq, and_assoc]
  rw [sim_sSeq]
  simp [-sim_sSeq, and_assoc]
  refine cond_k n0 n10 3 8 (by decide) _ _ _ _ hd3 fun d hc cs4 b4 hd4 => ?_
  simp [-sim_sSeq, and_assoc]
  rw [sim_sSeq]
  simp [-sim_sSeq, and_assoc]
  refine cond_ok 25 60 3 d (by decide) hc _ _ ?_
  simp [-sim_sSeq, and_assoc]
  refine spoilt_k n0 n10 25 60 60 3 d (by decide) (by decide) hc _ _ _ _ hd4 fun d' _ hb' cs5 b5 hd5 => ?_
  simp [-sim_sSeq, and_assoc]
  rw [show pick [1, 0] [Ar.v d', Ar.v (.int (N : Int))] = [Ar.v (.int (N : Int)), Ar.v d'] from rfl]
  simp [-sim_sSeq, and_assoc]
  refine hb' _ _ ?_
  simp [-sim_sSeq, and_assoc]
  rw [sim_sSeq]
  simp [-sim_sSeq, and_assoc]
  rw [show pick [0] [Ar.v d] = [Ar.v d] from rfl]
  simp [-sim_sSeq, and_assoc]
  have so := straight_ok 25 60 3 false d (by decide) hc
  have st : Ev f_straight [.fz d] (St 25 false d) := by
    intro P Px h
    unfold f_straight fnOf
    simp
    refine so _ _ ?_
    simp
    exact h
  have sc := st_cond 25 3 false d hc
  have shs := shp_st 25 3 false d hc
  obtain ⟨told, ht⟩ : ∃ t, t = St 25 false d := ⟨_, rfl⟩
  have pk := paired_ok 25 60 3 d (by decide) hc
  have iw := inward_ok 25 60 3 false d (by decide) hc
  have ss := fun wv => st_sem (wv := wv) 25 3 false d hc
  rw [← ht] at st sc shs iw ss
  refine st _ _ ?_
  simp [-sim_sSeq, and_assoc]
  rw [sim_sSeq]
  simp [-sim_sSeq, and_assoc]
  refine pk _ _ ?_
  simp [-sim_sSeq, and_assoc]
  refine iw _ _ ?_
  simp [-sim_sSeq, and_assoc, ne_same shs (by decide)]
  rw [sim_sSeq]
  simp [-sim_sSeq, and_assoc]
  refine sizes_k hd5 (by omega) fun fs fl f1 fp cs6 b6 hd6 => ?_
  simp [-sim_sSeq, and_assoc]
  have f12 : ∀ (i : Nat) s, fs[i]? = some s → 1 ≤ s ∧ s ≤ 12 := fun i s hs => by
    have hm := List.mem_of_getElem? hs
    refine ⟨f1 s hm, ?_⟩
    have : ∀ l : List Int, (∀ x ∈ l, 1 ≤ x) → s ∈ l → s ≤ prodI l := by
      intro l
      induction l with
      | nil => intro _ h; cases h
      | cons x xs ih =>
        intro hx hs
        have px := prod_pos (l := xs) fun y hy => hx y (List.mem_cons_of_mem _ hy)
        have x1 := hx x List.mem_cons_self
        show s ≤ x * prodI xs
        rcases List.mem_cons.mp hs with rfl | hs
        · calc s = s * 1 := by rw [Int.mul_one]
            _ ≤ s * prodI xs := Int.mul_le_mul_of_nonneg_left px (by omega)
        · calc s ≤ prodI xs := ih (fun y hy => hx y (List.mem_cons_of_mem _ hy)) hs
            _ = 1 * prodI xs := by rw [Int.one_mul]
            _ ≤ x * prodI xs := Int.mul_le_mul_of_nonneg_right x1 (by omega)
    have := this fs f1 hm
    omega
  refine lc_inv (fun ρ => ∃ (cs : List Int) (b : Int), DL cs b ∧ ρ = [.un, .dl cs b, .fz (.int p), .fz (.int (N : Int)), .fz d, .fz told, .un, .un, .un, .un, .un, .un, .un]) _ _ _ (fun i y => ∃ ns : List Int, y = tupI ns ∧ ∃ s : Nat, fs[i]? = some (s : Int) ∧ RowOk p s ns) ⟨cs6, b6, hd6, rfl⟩ ?_ ?_ ?_
  · simp; omega
  · rintro i y ρ hi ⟨cs, b, hd, rfl⟩ R hR
    rw [List.getElem?_map] at hi
    cases hz : fs[i]? with
    | none => rw [hz] at hi; cases hi
    | some s =>
      rw [hz] at hi
      cases hi
      obtain ⟨s1, s12⟩ := f12 i s hz
      obtain ⟨s, rfl⟩ : ∃ m : Nat, s = m := ⟨s.toNat, by omega⟩
      simp
      refine of_k hd (by simp) (by simp) fun v hv cs' b' hd' => ?_
      simp
      simp at hv
      by_cases hp : p = 0 ∧ v = .int 30
      · obtain ⟨rfl, rfl⟩ := hp
        refine row_great hd' (by omega) fun ns hns cs2 b2 hd2 => ?_
        simp
        exact hR _ _ ⟨ns, rfl, s, hz, hns⟩ ⟨cs2, b2, hd2, by simp⟩
      · obtain ⟨dg, rfl, hdg⟩ : ∃ dg : Int, v = .int dg ∧ ¬ (p = 0 ∧ 1 < dg) := by
          rcases hv with rfl | rfl
          · exact ⟨1, rfl, by omega⟩
          · exact ⟨30, rfl, fun z => hp ⟨z.1, rfl⟩⟩
        refine row_small hd' (by omega) p0 p101 hdg fun ns hns cs2 b2 hd2 => ?_
        simp
        exact hR _ _ ⟨ns, rfl, s, hz, hns⟩ ⟨cs2, b2, hd2, by simp⟩
  rintro ys ρ ⟨cs7, b7, hd7, rfl⟩ yl hY
  obtain ⟨ls, rfl, hls⟩ := rows_of hY
  clear hY
  rw [List.length_map, List.length_map] at yl
  have hbd : Bd ls := bd_of ls fs [[]] yl (fun i r s h1 h2 => by
    obtain ⟨s', e, ro⟩ := hls i r h1
    rw [e] at h2
    cases h2
    have := ro.len
    omega) f1 (by simpa using fp)
  have hlen : ∀ r ∈ ls, r.length ≤ 100 := fun r hr => by
    obtain ⟨i, hi⟩ := List.mem_iff_getElem?.mp hr
    obtain ⟨s, e, ro⟩ := hls i r hi
    have := f12 i _ e
    have := ro.len
    omega
  have hch : ∀ c ∈ chs ls, ChOk p (N : Int) c := fun c hc => by
    have := mem_chs (Y := fun x => x.natAbs < 10 ^ 30 ∧ (p ≠ 0 → 0 ≤ x ∧ x < p)) ls [[]] 0 (fun a ha => by rw [List.mem_singleton] at ha; subst ha; exact ⟨rfl, fun x hx => by cases hx⟩) (fun r hr x hx => by
      obtain ⟨i, hi⟩ := List.mem_iff_getElem?.mp hr
      obtain ⟨s, e, ro⟩ := hls i r hi
      exact ⟨ro.big x hx, fun z => ro.fld z x hx⟩) c hc
    exact ⟨by omega, fun x hx => (this.2 x hx).1, fun z x hx => (this.2 x hx).2 z⟩
  obtain ⟨g, hg⟩ := exB (l := chs ls) (R := fun c x => Ev (f__law_holds 60) [.fz (.int p), .fz d, ch c] (.bool x) ∧ Ev (f_holds 60) [.fz (.int p), .fz d, ch c] (.bool x) ∧ Ev (f_holds 60) [.fz (.int p), .fz told, ch c] (.bool x)) fun c hc' => by
    obtain ⟨wv, hw⟩ := holds_ok p0 p1 p101 (hch c hc')
    obtain ⟨l1, l2⟩ := hw 25 60 3 d (by decide) hc
    have l3 := (hw 26 60 4 told (by decide) sc).2
    rw [ss wv, Bool.bne_false] at l3
    exact ⟨_, l1, l2, l3⟩
  rw [List.nil_append]
  simp [-sim_sSeq, and_assoc]
  rw [show (PyData.tuple (ls.map tupI)) = rowsD ls from rfl]
  have ckl := law_choices_k hbd (by omega) hlen
  have hk1 := held_k (p := p) (cond := d) hbd (by omega) hlen g fun c hc => (hg c hc).2.1
  have hk2 := held_k (p := p) (cond := told) hbd (by omega) hlen g fun c hc => (hg c hc).2.2
  rw [sim_sSeq]
  simp [-sim_sSeq, and_assoc]
  rw [sim_sSeq]
  simp [-sim_sSeq, and_assoc]
  refine ckl _ _ ?_
  simp [-sim_sSeq, and_assoc]
  refine for_inv _ _ (fun i ρ => ∃ x y : Sl, ρ = [.un, .dl cs7 b7, .fz (.int p), .fz (.int (N : Int)), .fz d, .fz told, .fz (rowsD ls), .ol ((((chs ls).take i).filter g).map tupI), x, y, .un, .un, .un]) ⟨.un, .un, rfl⟩ ?_ ?_
  · rintro i y ρ hi ⟨x, y, rfl⟩ M hM
    rw [List.getElem?_map] at hi
    cases hz : (chs ls)[i]? with
    | none => rw [hz] at hi; cases hi
    | some c =>
      rw [hz] at hi
      cases hi
      obtain ⟨l1, l2, l3⟩ := hg c (List.mem_of_getElem? hz)
      simp [-sim_sSeq, and_assoc]
      rw [sim_sSeq]
      simp [-sim_sSeq, and_assoc]
      refine l1 _ _ ?_
      simp [-sim_sSeq, and_assoc]
      have cl : (chs ls).length ≤ 12 := by
        have := hbd ls.length
        rw [List.take_length] at this
        exact this
      have nxt : ((chs ls).take (i + 1)).filter g = ((chs ls).take i).filter g ++ (if g c then [c] else []) := by
        rw [List.take_succ, hz, List.filter_append]
        congr 1
        cases e : g c <;> simp [e]
      have fle : (((chs ls).take i).filter g).length ≤ 12 := by
        have := List.length_filter_le g ((chs ls).take i)
        rw [List.length_take] at this
        omega
      have hpick : pick [0, 2, 1] [Ar.v (.int p), Ar.v (tupI c), Ar.v told] = [Ar.v (.int p), Ar.v told, Ar.v (tupI c)] := rfl
      have fin : ∀ due : List Da, due = (((chs ls).take (i + 1)).filter g).map tupI → M [.un, .dl cs7 b7, .fz (.int p), .fz (.int (N : Int)), .fz d, .fz told, .fz (rowsD ls), .ol due, .fz (tupI c), .fz (.bool (g c)), .un, .un, .un] := fun due e => by
        subst e
        exact hM _ ⟨_, _, rfl⟩
      have nb := ne_bool (g c)
      obtain ⟨gc, hgc⟩ : ∃ b, b = g c := ⟨_, rfl⟩
      rw [← hgc] at l2 l3 nxt fin nb ⊢
      have step : ∀ due : List Da, due = (((chs ls).take (i + 1)).filter g).map tupI → ∀ e : Ed, e.nx = M → (sIf
      (tbAnd (tTst (tB2 pLt (tE (tCb (Ip.f1 pLen) (tA (tLu 7) tA0))) (tE (tK (PyData.int 3)))))
        (tbOr
          (tTst
            (tB2 pNe
              (tE
                (tCb (Ip.f1 pRepr)
                  (tA (tE (tCal (f_holds 60) [] 3 (tA (tE (tV 2)) (tA (tE (tV 4)) (tA (tE (tV 8)) tA0))))) tA0)))
              (tE (tCb (Ip.f1 pRepr) (tA (tLu 9) tA0)))))
          (tTst
            (tB2 pNe
              (tE
                (tCb (Ip.f1 pRepr)
                  (tA (tE (tCalK (f_holds 60) [] 3 [0, 2, 1] (tA (tE (tV 2)) (tA (tE (tV 8)) (tA (tE (tV 5)) tA0)))))
                    tA0)))
              (tE (tCb (Ip.f1 pRepr) (tA (tLu 9) tA0)))))))
      (sRet (tK (PyData.bool false))) sNext) [.un, .dl cs7 b7, .fz (.int p), .fz (.int (N : Int)), .fz d, .fz told, .fz (rowsD ls), .ol due, .fz (tupI c), .fz (.bool gc), .un, .un, .un] e := fun due hdue e he => by
        subst he
        simp [and_assoc]
        by_cases h3 : (due.length : Int) < 3
        · refine .inr ⟨h3, ?_⟩
          refine l2 _ _ ?_
          simp [nb, hpick]
          refine l3 _ _ ?_
          simp [nb]
          exact fin _ hdue
        · exact .inl ⟨by omega, fin _ hdue⟩
      rw [sim_sSeq]
      cases gc with
      | true =>
        simp [-sim_sSeq, -sim_sIf, and_assoc]
        rw [sim_sIf]
        simp [-sim_sSeq, -sim_sIf, and_assoc]
        refine ⟨by omega, step _ ?_ _ rfl⟩
        rw [nxt]; simp
      | false =>
        rw [sim_sIf]
        simp [-sim_sSeq, -sim_sIf, and_assoc]
        refine step _ ?_ _ rfl
        rw [nxt]; simp
  · rintro ρ ⟨x, y, rfl⟩
    rw [List.length_map, List.take_length]
    have nd := ne_due ((chs ls).filter g)
    have hpick : pick [2, 1, 0] [Ar.v told, Ar.v (rowsD ls), Ar.v (.int p)] = [Ar.v (.int p), Ar.v (rowsD ls), Ar.v told] := rfl
    dsimp only
    rw [sim_sSeq]
    simp [-sim_sSeq, and_assoc]
    refine hk1 _ _ ?_
    simp [-sim_sSeq, and_assoc, nd, hpick]
    refine hk2 _ _ ?_
    simp [-sim_sSeq, and_assoc, nd]
    rw [sim_sSeq]
    simp [-sim_sSeq, and_assoc]
    have e5 : [PyData.int 12, .int 12, .int 10, .int 7, .int 2] = ([12, 12, 10, 7, 2] : List Int).map PyData.int := rfl
    rw [e5]
    refine mixed_k hd7 (by decide) fun ms hms cs8 b8 hd8 => ?_
    simp [-sim_sSeq, and_assoc]
    refine lc_map2 PyData.int (fun k => tupI (rgI k)) ms [] (by have := hms.length_eq; simp at this; simp; omega) ?_ ?_
    · intro k hk S hS
      have hk := hms.mem_iff.mp hk
      simp at hk
      simp
      refine ⟨by omega, by omega, ?_⟩
      have e : tupI (rgI k) = .tuple (rng 0 k.toNat) := by
        unfold tupI rgI
        rw [← rng_ints]
      rw [e] at hS
      exact hS _ (by simp)
    · simp [-sim_sSeq, and_assoc]
      rw [show (PyData.tuple (ms.map fun k => tupI (rgI k))) = rowsD (ms.map rgI) by unfold rowsD; rw [List.map_map]; rfl]
      refine held_wide ?_ (fun r hr => ?_) ?_
      · rw [plen_perm (hms.map rgI)]
        show (rgI 12).length * ((rgI 12).length * ((rgI 10).length * ((rgI 7).length * ((rgI 2).length * 1)))) = 20160
        simp only [rgI_len]
        decide
      · obtain ⟨k, hk, rfl⟩ := List.mem_map.mp hr
        have hk := hms.mem_iff.mp hk
        simp at hk
        rw [rgI_len]
        omega
      · simp
        exact fun _ _ => rfl
end K84
end
set_option Elab.async false
set_option linter.all false
set_option maxRecDepth 100000
set_option maxHeartbeats 4000000
namespace K84
open PySem L2 Ip PySem.Spec PyProof.Rows
abbrev sI_Refused : Stmt := clsStmt (topS 9) 0
theorem all_mk {w : World} {K : PySem.W.Frag} {h : Heap} {mg : Str → Option Value} {fa : Addr} (X : K.In h) (G : h.Ns mainGlobals mg) (hfa : mg "law" = some (.ref fa))
    {f1 f2 f3 f4 f6 f12 f13 f20 f21 f22 f23 f24 f25 f26 f27 f28 f29 f31 f32 f33 f34 f35 f36 f37 f38 f39 f40 f41 f42 f43 f44 f45 f46 f47 f48 f49 : Addr}
    {od1 an1 od2 an2 od3 an3 od4 an4 od6 an6 od12 an12 od13 an13 od20 an20 od21 an21 od22 an22 od23 an23 od24 an24 od25 an25 od26 an26 od27 an27 od28 an28 od29 an29 od31 an31 od32 an32 od33 an33 od34 an34 od35 an35 od36 an36 od37 an37 od38 an38 od39 an39 od40 an40 od41 an41 od42 an42 od43 an43 od44 an44 od45 an45 od46 an46 od47 an47 od48 an48 od49 an49 : Option Addr}
    {sl1 sl2 sl3 sl4 sl6 sl12 sl13 sl20 sl21 sl22 sl23 sl24 sl25 sl26 sl27 sl28 sl29 sl31 sl32 sl33 sl34 sl35 sl36 sl37 sl38 sl39 sl40 sl41 sl42 sl43 sl44 sl45 sl46 sl47 sl48 sl49 : Array (Option Value)}
    {oc1 kV1 dc1 pm1 cd1 ct1 oc2 kV2 dc2 pm2 cd2 ct2 oc3 kV3 dc3 pm3 cd3 ct3 oc4 kV4 dc4 pm4 cd4 ct4 oc6 kV6 dc6 pm6 cd6 ct6 oc12 kV12 dc12 pm12 cd12 ct12 oc13 kV13 dc13 pm13 cd13 ct13 oc20 kV20 dc20 pm20 cd20 ct20 oc21 kV21 dc21 pm21 cd21 ct21 oc22 kV22 dc22 pm22 cd22 ct22 oc23 kV23 dc23 pm23 cd23 ct23 oc24 kV24 dc24 pm24 cd24 ct24 oc25 kV25 dc25 pm25 cd25 ct25 oc26 kV26 dc26 pm26 cd26 ct26 oc27 kV27 dc27 pm27 cd27 ct27 oc28 kV28 dc28 pm28 cd28 ct28 oc29 kV29 dc29 pm29 cd29 ct29 oc31 kV31 dc31 pm31 cd31 ct31 oc32 kV32 dc32 pm32 cd32 ct32 oc33 kV33 dc33 pm33 cd33 ct33 oc34 kV34 dc34 pm34 cd34 ct34 oc35 kV35 dc35 pm35 cd35 ct35 oc36 kV36 dc36 pm36 cd36 ct36 oc37 kV37 dc37 pm37 cd37 ct37 oc38 kV38 dc38 pm38 cd38 ct38 oc39 kV39 dc39 pm39 cd39 ct39 oc40 kV40 dc40 pm40 cd40 ct40 oc41 kV41 dc41 pm41 cd41 ct41 oc42 kV42 dc42 pm42 cd42 ct42 oc43 kV43 dc43 pm43 cd43 ct43 oc44 kV44 dc44 pm44 cd44 ct44 oc45 kV45 dc45 pm45 cd45 ct45 oc46 kV46 dc46 pm46 cd46 ct46 oc47 kV47 dc47 pm47 cd47 ct47 oc48 kV48 dc48 pm48 cd48 ct48 oc49 kV49 dc49 pm49 cd49 ct49 : Value}
    {tk11 : Tok}
    {tk16 : Tok}
    {tk15 : Tok}
    {tk18 : Tok}
    {tk17 : Tok}
    {f19 : Addr} {es19 : Array DictEntry} {en19 : Nat} {tk19_0 tk19_1 tk19_2 tk19_3 : Tok}
    {f9 f1009 cc9 cda9 N9 : Addr} {oc9 kV9 dc9 pm9 ct9 ccl9 cl9 : Value} {od9 an9 cdd9 cld9 dd9 : Option Addr} {sl9 ccs9 csl9 : Array (Option Value)} {vs9 : Array Value} {cdt9 : ClassData}
    {nm9 qn9 : Str} {bs9 bm9 sb9 : List Value} {sn9 : List Str} {ab9 : Bool} {col9 : Option Bool} {u0_9 u1_9 u2_9 u3_9 u5_9 : Option Value}
    (a1 : PySem.W.nsIn K mainGlobals "is_integer" = some (some (.ref f1))) (l1 : K.lookup f1 = some ⟨oc1, od1, .func (PySem.W.fnOf "is_integer" "is_integer" (defArgs s_is_integer) (defBody s_is_integer) (defScope s_is_integer) .none kV1 dc1 pm1 an1 cd1 ct1), sl1⟩) (c1 : PySem.W.codeIn K cd1 "is_integer" = true) (k1 : PySem.W.keepIn K (.ref f1) = true)
    (a2 : PySem.W.nsIn K mainGlobals "is_number" = some (some (.ref f2))) (l2 : K.lookup f2 = some ⟨oc2, od2, .func (PySem.W.fnOf "is_number" "is_number" (defArgs s_is_number) (defBody s_is_number) (defScope s_is_number) .none kV2 dc2 pm2 an2 cd2 ct2), sl2⟩) (c2 : PySem.W.codeIn K cd2 "is_number" = true) (k2 : PySem.W.keepIn K (.ref f2) = true)
    (a3 : PySem.W.nsIn K mainGlobals "is_index" = some (some (.ref f3))) (l3 : K.lookup f3 = some ⟨oc3, od3, .func (PySem.W.fnOf "is_index" "is_index" (defArgs s_is_index) (defBody s_is_index) (defScope s_is_index) .none kV3 dc3 pm3 an3 cd3 ct3), sl3⟩) (c3 : PySem.W.codeIn K cd3 "is_index" = true) (k3 : PySem.W.keepIn K (.ref f3) = true)
    (a4 : PySem.W.nsIn K mainGlobals "is_row_of" = some (some (.ref f4))) (l4 : K.lookup f4 = some ⟨oc4, od4, .func (PySem.W.fnOf "is_row_of" "is_row_of" (defArgs s_is_row_of) (defBody s_is_row_of) (defScope s_is_row_of) .none kV4 dc4 pm4 an4 cd4 ct4), sl4⟩) (c4 : PySem.W.codeIn K cd4 "is_row_of" = true) (k4 : PySem.W.keepIn K (.ref f4) = true)
    (a6 : PySem.W.nsIn K mainGlobals "element" = some (some (.ref f6))) (l6 : K.lookup f6 = some ⟨oc6, od6, .func (PySem.W.fnOf "element" "element" (defArgs s_element) (defBody s_element) (defScope s_element) .none kV6 dc6 pm6 an6 cd6 ct6), sl6⟩) (c6 : PySem.W.codeIn K cd6 "element" = true) (k6 : PySem.W.keepIn K (.ref f6) = true)
    (a12 : PySem.W.nsIn K mainGlobals "choice_count" = some (some (.ref f12))) (l12 : K.lookup f12 = some ⟨oc12, od12, .func (PySem.W.fnOf "choice_count" "choice_count" (defArgs s_choice_count) (defBody s_choice_count) (defScope s_choice_count) .none kV12 dc12 pm12 an12 cd12 ct12), sl12⟩) (c12 : PySem.W.codeIn K cd12 "choice_count" = true) (k12 : PySem.W.keepIn K (.ref f12) = true)
    (a13 : PySem.W.nsIn K mainGlobals "choices" = some (some (.ref f13))) (l13 : K.lookup f13 = some ⟨oc13, od13, .func (PySem.W.fnOf "choices" "choices" (defArgs s_choices) (defBody s_choices) (defScope s_choices) .none kV13 dc13 pm13 an13 cd13 ct13), sl13⟩) (c13 : PySem.W.codeIn K cd13 "choices" = true) (k13 : PySem.W.keepIn K (.ref f13) = true)
    (a20 : PySem.W.nsIn K mainGlobals "is_row_within" = some (some (.ref f20))) (l20 : K.lookup f20 = some ⟨oc20, od20, .func (PySem.W.fnOf "is_row_within" "is_row_within" (defArgs s_is_row_within) (defBody s_is_row_within) (defScope s_is_row_within) .none kV20 dc20 pm20 an20 cd20 ct20), sl20⟩) (c20 : PySem.W.codeIn K cd20 "is_row_within" = true) (k20 : PySem.W.keepIn K (.ref f20) = true)
    (a21 : PySem.W.nsIn K mainGlobals "is_sum_tree" = some (some (.ref f21))) (l21 : K.lookup f21 = some ⟨oc21, od21, .func (PySem.W.fnOf "is_sum_tree" "is_sum_tree" (defArgs s_is_sum_tree) (defBody s_is_sum_tree) (defScope s_is_sum_tree) .none kV21 dc21 pm21 an21 cd21 ct21), sl21⟩) (c21 : PySem.W.codeIn K cd21 "is_sum_tree" = true) (k21 : PySem.W.keepIn K (.ref f21) = true)
    (a22 : PySem.W.nsIn K mainGlobals "form_degree" = some (some (.ref f22))) (l22 : K.lookup f22 = some ⟨oc22, od22, .func (PySem.W.fnOf "form_degree" "form_degree" (defArgs s_form_degree) (defBody s_form_degree) (defScope s_form_degree) .none kV22 dc22 pm22 an22 cd22 ct22), sl22⟩) (c22 : PySem.W.codeIn K cd22 "form_degree" = true) (k22 : PySem.W.keepIn K (.ref f22) = true)
    (a23 : PySem.W.nsIn K mainGlobals "is_condition" = some (some (.ref f23))) (l23 : K.lookup f23 = some ⟨oc23, od23, .func (PySem.W.fnOf "is_condition" "is_condition" (defArgs s_is_condition) (defBody s_is_condition) (defScope s_is_condition) .none kV23 dc23 pm23 an23 cd23 ct23), sl23⟩) (c23 : PySem.W.codeIn K cd23 "is_condition" = true) (k23 : PySem.W.keepIn K (.ref f23) = true)
    (a24 : PySem.W.nsIn K mainGlobals "sum_worth" = some (some (.ref f24))) (l24 : K.lookup f24 = some ⟨oc24, od24, .func (PySem.W.fnOf "sum_worth" "sum_worth" (defArgs s_sum_worth) (defBody s_sum_worth) (defScope s_sum_worth) .none kV24 dc24 pm24 an24 cd24 ct24), sl24⟩) (c24 : PySem.W.codeIn K cd24 "sum_worth" = true) (k24 : PySem.W.keepIn K (.ref f24) = true)
    (a25 : PySem.W.nsIn K mainGlobals "holds" = some (some (.ref f25))) (l25 : K.lookup f25 = some ⟨oc25, od25, .func (PySem.W.fnOf "holds" "holds" (defArgs s_holds) (defBody s_holds) (defScope s_holds) .none kV25 dc25 pm25 an25 cd25 ct25), sl25⟩) (c25 : PySem.W.codeIn K cd25 "holds" = true) (k25 : PySem.W.keepIn K (.ref f25) = true)
    (a26 : PySem.W.nsIn K mainGlobals "held" = some (some (.ref f26))) (l26 : K.lookup f26 = some ⟨oc26, od26, .func (PySem.W.fnOf "held" "held" (defArgs s_held) (defBody s_held) (defScope s_held) .none kV26 dc26 pm26 an26 cd26 ct26), sl26⟩) (c26 : PySem.W.codeIn K cd26 "held" = true) (k26 : PySem.W.keepIn K (.ref f26) = true)
    (a27 : PySem.W.nsIn K mainGlobals "pairs_of" = some (some (.ref f27))) (l27 : K.lookup f27 = some ⟨oc27, od27, .func (PySem.W.fnOf "pairs_of" "pairs_of" (defArgs s_pairs_of) (defBody s_pairs_of) (defScope s_pairs_of) .none kV27 dc27 pm27 an27 cd27 ct27), sl27⟩) (c27 : PySem.W.codeIn K cd27 "pairs_of" = true) (k27 : PySem.W.keepIn K (.ref f27) = true)
    (a28 : PySem.W.nsIn K mainGlobals "straight_of" = some (some (.ref f28))) (l28 : K.lookup f28 = some ⟨oc28, od28, .func (PySem.W.fnOf "straight_of" "straight_of" (defArgs s_straight_of) (defBody s_straight_of) (defScope s_straight_of) .none kV28 dc28 pm28 an28 cd28 ct28), sl28⟩) (c28 : PySem.W.codeIn K cd28 "straight_of" = true) (k28 : PySem.W.keepIn K (.ref f28) = true)
    (a29 : PySem.W.nsIn K mainGlobals "straight" = some (some (.ref f29))) (l29 : K.lookup f29 = some ⟨oc29, od29, .func (PySem.W.fnOf "straight" "straight" (defArgs s_straight) (defBody s_straight) (defScope s_straight) .none kV29 dc29 pm29 an29 cd29 ct29), sl29⟩) (c29 : PySem.W.codeIn K cd29 "straight" = true) (k29 : PySem.W.keepIn K (.ref f29) = true)
    (a31 : PySem.W.nsIn K mainGlobals "_law_draw" = some (some (.ref f31))) (l31 : K.lookup f31 = some ⟨oc31, od31, .func (PySem.W.fnOf "_law_draw" "_law_draw" (defArgs s__law_draw) (defBody s__law_draw) (defScope s__law_draw) .none kV31 dc31 pm31 an31 cd31 ct31), sl31⟩) (c31 : PySem.W.codeIn K cd31 "_law_draw" = true) (k31 : PySem.W.keepIn K (.ref f31) = true)
    (a32 : PySem.W.nsIn K mainGlobals "_law_any" = some (some (.ref f32))) (l32 : K.lookup f32 = some ⟨oc32, od32, .func (PySem.W.fnOf "_law_any" "_law_any" (defArgs s__law_any) (defBody s__law_any) (defScope s__law_any) .none kV32 dc32 pm32 an32 cd32 ct32), sl32⟩) (c32 : PySem.W.codeIn K cd32 "_law_any" = true) (k32 : PySem.W.keepIn K (.ref f32) = true)
    (a33 : PySem.W.nsIn K mainGlobals "_law_of" = some (some (.ref f33))) (l33 : K.lookup f33 = some ⟨oc33, od33, .func (PySem.W.fnOf "_law_of" "_law_of" (defArgs s__law_of) (defBody s__law_of) (defScope s__law_of) .none kV33 dc33 pm33 an33 cd33 ct33), sl33⟩) (c33 : PySem.W.codeIn K cd33 "_law_of" = true) (k33 : PySem.W.keepIn K (.ref f33) = true)
    (a34 : PySem.W.nsIn K mainGlobals "_law_mixed" = some (some (.ref f34))) (l34 : K.lookup f34 = some ⟨oc34, od34, .func (PySem.W.fnOf "_law_mixed" "_law_mixed" (defArgs s__law_mixed) (defBody s__law_mixed) (defScope s__law_mixed) .none kV34 dc34 pm34 an34 cd34 ct34), sl34⟩) (c34 : PySem.W.codeIn K cd34 "_law_mixed" = true) (k34 : PySem.W.keepIn K (.ref f34) = true)
    (a35 : PySem.W.nsIn K mainGlobals "_law_element" = some (some (.ref f35))) (l35 : K.lookup f35 = some ⟨oc35, od35, .func (PySem.W.fnOf "_law_element" "_law_element" (defArgs s__law_element) (defBody s__law_element) (defScope s__law_element) .none kV35 dc35 pm35 an35 cd35 ct35), sl35⟩) (c35 : PySem.W.codeIn K cd35 "_law_element" = true) (k35 : PySem.W.keepIn K (.ref f35) = true)
    (a36 : PySem.W.nsIn K mainGlobals "_law_great" = some (some (.ref f36))) (l36 : K.lookup f36 = some ⟨oc36, od36, .func (PySem.W.fnOf "_law_great" "_law_great" (defArgs s__law_great) (defBody s__law_great) (defScope s__law_great) .none kV36 dc36 pm36 an36 cd36 ct36), sl36⟩) (c36 : PySem.W.codeIn K cd36 "_law_great" = true) (k36 : PySem.W.keepIn K (.ref f36) = true)
    (a37 : PySem.W.nsIn K mainGlobals "_law_row" = some (some (.ref f37))) (l37 : K.lookup f37 = some ⟨oc37, od37, .func (PySem.W.fnOf "_law_row" "_law_row" (defArgs s__law_row) (defBody s__law_row) (defScope s__law_row) .none kV37 dc37 pm37 an37 cd37 ct37), sl37⟩) (c37 : PySem.W.codeIn K cd37 "_law_row" = true) (k37 : PySem.W.keepIn K (.ref f37) = true)
    (a38 : PySem.W.nsIn K mainGlobals "_law_sizes" = some (some (.ref f38))) (l38 : K.lookup f38 = some ⟨oc38, od38, .func (PySem.W.fnOf "_law_sizes" "_law_sizes" (defArgs s__law_sizes) (defBody s__law_sizes) (defScope s__law_sizes) .none kV38 dc38 pm38 an38 cd38 ct38), sl38⟩) (c38 : PySem.W.codeIn K cd38 "_law_sizes" = true) (k38 : PySem.W.keepIn K (.ref f38) = true)
    (a39 : PySem.W.nsIn K mainGlobals "_law_choices" = some (some (.ref f39))) (l39 : K.lookup f39 = some ⟨oc39, od39, .func (PySem.W.fnOf "_law_choices" "_law_choices" (defArgs s__law_choices) (defBody s__law_choices) (defScope s__law_choices) .none kV39 dc39 pm39 an39 cd39 ct39), sl39⟩) (c39 : PySem.W.codeIn K cd39 "_law_choices" = true) (k39 : PySem.W.keepIn K (.ref f39) = true)
    (a40 : PySem.W.nsIn K mainGlobals "_law_sum_worth" = some (some (.ref f40))) (l40 : K.lookup f40 = some ⟨oc40, od40, .func (PySem.W.fnOf "_law_sum_worth" "_law_sum_worth" (defArgs s__law_sum_worth) (defBody s__law_sum_worth) (defScope s__law_sum_worth) .none kV40 dc40 pm40 an40 cd40 ct40), sl40⟩) (c40 : PySem.W.codeIn K cd40 "_law_sum_worth" = true) (k40 : PySem.W.keepIn K (.ref f40) = true)
    (a41 : PySem.W.nsIn K mainGlobals "_law_holds" = some (some (.ref f41))) (l41 : K.lookup f41 = some ⟨oc41, od41, .func (PySem.W.fnOf "_law_holds" "_law_holds" (defArgs s__law_holds) (defBody s__law_holds) (defScope s__law_holds) .none kV41 dc41 pm41 an41 cd41 ct41), sl41⟩) (c41 : PySem.W.codeIn K cd41 "_law_holds" = true) (k41 : PySem.W.keepIn K (.ref f41) = true)
    (a42 : PySem.W.nsIn K mainGlobals "_law_paired" = some (some (.ref f42))) (l42 : K.lookup f42 = some ⟨oc42, od42, .func (PySem.W.fnOf "_law_paired" "_law_paired" (defArgs s__law_paired) (defBody s__law_paired) (defScope s__law_paired) .none kV42 dc42 pm42 an42 cd42 ct42), sl42⟩) (c42 : PySem.W.codeIn K cd42 "_law_paired" = true) (k42 : PySem.W.keepIn K (.ref f42) = true)
    (a43 : PySem.W.nsIn K mainGlobals "_law_inward" = some (some (.ref f43))) (l43 : K.lookup f43 = some ⟨oc43, od43, .func (PySem.W.fnOf "_law_inward" "_law_inward" (defArgs s__law_inward) (defBody s__law_inward) (defScope s__law_inward) .none kV43 dc43 pm43 an43 cd43 ct43), sl43⟩) (c43 : PySem.W.codeIn K cd43 "_law_inward" = true) (k43 : PySem.W.keepIn K (.ref f43) = true)
    (a44 : PySem.W.nsIn K mainGlobals "_law_leaf" = some (some (.ref f44))) (l44 : K.lookup f44 = some ⟨oc44, od44, .func (PySem.W.fnOf "_law_leaf" "_law_leaf" (defArgs s__law_leaf) (defBody s__law_leaf) (defScope s__law_leaf) .none kV44 dc44 pm44 an44 cd44 ct44), sl44⟩) (c44 : PySem.W.codeIn K cd44 "_law_leaf" = true) (k44 : PySem.W.keepIn K (.ref f44) = true)
    (a45 : PySem.W.nsIn K mainGlobals "_law_sum" = some (some (.ref f45))) (l45 : K.lookup f45 = some ⟨oc45, od45, .func (PySem.W.fnOf "_law_sum" "_law_sum" (defArgs s__law_sum) (defBody s__law_sum) (defScope s__law_sum) .none kV45 dc45 pm45 an45 cd45 ct45), sl45⟩) (c45 : PySem.W.codeIn K cd45 "_law_sum" = true) (k45 : PySem.W.keepIn K (.ref f45) = true)
    (a46 : PySem.W.nsIn K mainGlobals "_law_condition" = some (some (.ref f46))) (l46 : K.lookup f46 = some ⟨oc46, od46, .func (PySem.W.fnOf "_law_condition" "_law_condition" (defArgs s__law_condition) (defBody s__law_condition) (defScope s__law_condition) .none kV46 dc46 pm46 an46 cd46 ct46), sl46⟩) (c46 : PySem.W.codeIn K cd46 "_law_condition" = true) (k46 : PySem.W.keepIn K (.ref f46) = true)
    (a47 : PySem.W.nsIn K mainGlobals "_law_bad_sum" = some (some (.ref f47))) (l47 : K.lookup f47 = some ⟨oc47, od47, .func (PySem.W.fnOf "_law_bad_sum" "_law_bad_sum" (defArgs s__law_bad_sum) (defBody s__law_bad_sum) (defScope s__law_bad_sum) .none kV47 dc47 pm47 an47 cd47 ct47), sl47⟩) (c47 : PySem.W.codeIn K cd47 "_law_bad_sum" = true) (k47 : PySem.W.keepIn K (.ref f47) = true)
    (a48 : PySem.W.nsIn K mainGlobals "_law_spoilt" = some (some (.ref f48))) (l48 : K.lookup f48 = some ⟨oc48, od48, .func (PySem.W.fnOf "_law_spoilt" "_law_spoilt" (defArgs s__law_spoilt) (defBody s__law_spoilt) (defScope s__law_spoilt) .none kV48 dc48 pm48 an48 cd48 ct48), sl48⟩) (c48 : PySem.W.codeIn K cd48 "_law_spoilt" = true) (k48 : PySem.W.keepIn K (.ref f48) = true)
    (a49 : PySem.W.nsIn K mainGlobals "law" = some (some (.ref f49))) (l49 : K.lookup f49 = some ⟨oc49, od49, .func (PySem.W.fnOf "law" "law" (defArgs s_law) (defBody s_law) (defScope s_law) .none kV49 dc49 pm49 an49 cd49 ct49), sl49⟩) (c49 : PySem.W.codeIn K cd49 "law" = true) (k49 : PySem.W.keepIn K (.ref f49) = true)
    (z_abs : PySem.W.nsIn K mainGlobals "abs" = some none)
    (z_all : PySem.W.nsIn K mainGlobals "all" = some none)
    (z_any : PySem.W.nsIn K mainGlobals "any" = some none)
    (z_bool : PySem.W.nsIn K mainGlobals "bool" = some none)
    (z_enumerate : PySem.W.nsIn K mainGlobals "enumerate" = some none)
    (z_int : PySem.W.nsIn K mainGlobals "int" = some none)
    (z_isinstance : PySem.W.nsIn K mainGlobals "isinstance" = some none)
    (z_len : PySem.W.nsIn K mainGlobals "len" = some none)
    (z_list : PySem.W.nsIn K mainGlobals "list" = some none)
    (z_max : PySem.W.nsIn K mainGlobals "max" = some none)
    (z_min : PySem.W.nsIn K mainGlobals "min" = some none)
    (z_range : PySem.W.nsIn K mainGlobals "range" = some none)
    (z_repr : PySem.W.nsIn K mainGlobals "repr" = some none)
    (z_set : PySem.W.nsIn K mainGlobals "set" = some none)
    (z_sorted : PySem.W.nsIn K mainGlobals "sorted" = some none)
    (z_str : PySem.W.nsIn K mainGlobals "str" = some none)
    (z_sum : PySem.W.nsIn K mainGlobals "sum" = some none)
    (z_super : PySem.W.nsIn K mainGlobals "super" = some none)
    (z_tuple : PySem.W.nsIn K mainGlobals "tuple" = some none)
    (q_MOST_CHOICES : PySem.W.nsIn K mainGlobals "MOST_CHOICES" = some (some (.int c_MOST_CHOICES tk11)))
    (q_MOST_FORM : PySem.W.nsIn K mainGlobals "MOST_FORM" = some (some (.int c_MOST_FORM tk16)))
    (q_MOST_NUMBER : PySem.W.nsIn K mainGlobals "MOST_NUMBER" = some (some (.int c_MOST_NUMBER tk15)))
    (q_MOST_PARTS : PySem.W.nsIn K mainGlobals "MOST_PARTS" = some (some (.int c_MOST_PARTS tk18)))
    (q_MOST_SUMS : PySem.W.nsIn K mainGlobals "MOST_SUMS" = some (some (.int c_MOST_SUMS tk17)))
    (q_OTHER : PySem.W.nsIn K mainGlobals "OTHER" = some (some (.ref f19))) (l19 : K.lookup f19 = some ⟨.type "dict", none, .dict es19 en19, #[]⟩) (ks19 : PySem.W.KeysLit w.params es19.toList)
    (e19_0 : PySem.W.nsIn K f19 "all" = some (some (.str "some" tk19_0)))
    (e19_1 : PySem.W.nsIn K f19 "some" = some (some (.str "all" tk19_1)))
    (e19_2 : PySem.W.nsIn K f19 "like" = some (some (.str "unlike" tk19_2)))
    (e19_3 : PySem.W.nsIn K f19 "unlike" = some (some (.str "like" tk19_3)))
    (gc9 : PySem.W.nsIn K mainGlobals "Refused" = some (some (.ref f9)))
    (xl9 : K.lookup f9 = some (excClassObj nm9 qn9 f9 N9 bs9 bm9 true sn9 sb9 ab9 col9 dd9 u0_9 u1_9 u2_9 u3_9 u5_9 "ValueError.__new__"))
    (xs9 : PySem.W.findIn K (.ref f9) "__setattr__" = some (some (.builtin "object.__setattr__")))
    (xe9 : PySem.W.subIn K (.ref f9) (.type "BaseException") = some true)
    (xt9 : PySem.W.typeIn K (.ref f9) = some (.type "type"))
    (xk9 : PySem.W.keepIn K (.ref f9) = true)
    (xi9 : PySem.W.findIn K (.ref f9) "__init__" = some (some (.ref f1009)))
    (xf9 : PySem.W.typeIn K (.ref f1009) = some (.type "function"))
    (xlf9 : K.lookup f1009 = some ⟨oc9, od9, .func (PySem.W.fnX "__init__" "Refused.__init__" (defArgs sI_Refused) (defBody sI_Refused) (defScope sI_Refused) [("__class__", cc9)] .none kV9 dc9 pm9 an9 (.ref cda9) ct9), sl9⟩)
    (xc9 : PySem.W.codeIn K (.ref cda9) "Refused.__init__" = true)
    (xd9 : K.lookup cda9 = some ⟨ccl9, cdd9, .fields vs9, ccs9⟩)
    (xcl9 : K.lookup cc9 = some ⟨cl9, cld9, .cell (some (.ref f9)), csl9⟩)
    (xcd9 : PySem.W.clsIn K f9 = some cdt9)
    (xm9 : PySem.W.mroIn K f9 (.ref f9) = some true)
    (xo9 : PySem.W.nsIn K cStatics "thirdparty.any" = some none)
    (xv9 : PySem.W.subIn K (.ref f9) (.type "ValueError") = some true)
    (xn9 : PySem.W.findIn K (.ref f9) "at" = some none)
    (xg9 : PySem.W.findIn K (.ref f9) "__getattribute__" = some (some (.builtin "BaseException.__getattribute__")))
    (xgg9 : PySem.W.findIn K (.ref f9) "__getattr__" = some none)
    (xh9 : PySem.W.hasDictIn K f9 = true)
    (xr9 : PySem.HandSPX.refsVE bm9 = true)
    (xfile9 : ∃ (file : Str) (tf : Tok), vs9[2]? = some (.str file tf) ∧ ((PySem.Challenge.pw_morelistpicks_k84_whole_conditions_over.main.file : Str) == file) = true)
    (xsup9 : PySem.W.ks_superIn K f9 f9 "__init__" = some (some (.builtin "ValueError.__init__")))
    (xex9 : PySem.W.exmOne K (.ref f9) (.ref f9) = some true)
    : ∃ fd : FuncData, (∀ (s : Shared) (v : Value), BindsTo s fd ⟨[v], []⟩ [("script", v)]) ∧ ∀ base : Heap, K.In base → base.Ns mainGlobals mg → FnOk PySem.Challenge.pw_morelistpicks_k84_whole_conditions_over w K mg base CX0 126 fa fd ["script"] (spLaw K) := by
  have e := (PySem.W.mg_of X G a49).symm.trans hfa
  have e2 : f49 = fa := Value.ref.inj (Option.some.inj e)
  subst e2
  have T : Tx PySem.Challenge.pw_morelistpicks_k84_whole_conditions_over K mg w (fun i => lookA [(1, f1), (2, f2), (3, f3), (4, f4), (6, f6), (12, f12), (13, f13), (20, f20), (21, f21), (22, f22), (23, f23), (24, f24), (25, f25), (26, f26), (27, f27), (28, f28), (29, f29), (31, f31), (32, f32), (33, f33), (34, f34), (35, f35), (36, f36), (37, f37), (38, f38), (39, f39), (40, f40), (41, f41), (42, f42), (43, f43), (44, f44), (45, f45), (46, f46), (47, f47), (48, f48), (49, f49), (19, f19), (9, f9), (1009, f1009)] i) (fun i => lookD (PySem.W.fnOf "is_integer" "is_integer" (defArgs s_is_integer) (defBody s_is_integer) (defScope s_is_integer) .none kV1 dc1 pm1 an1 cd1 ct1) [(1, (PySem.W.fnOf "is_integer" "is_integer" (defArgs s_is_integer) (defBody s_is_integer) (defScope s_is_integer) .none kV1 dc1 pm1 an1 cd1 ct1)), (2, (PySem.W.fnOf "is_number" "is_number" (defArgs s_is_number) (defBody s_is_number) (defScope s_is_number) .none kV2 dc2 pm2 an2 cd2 ct2)), (3, (PySem.W.fnOf "is_index" "is_index" (defArgs s_is_index) (defBody s_is_index) (defScope s_is_index) .none kV3 dc3 pm3 an3 cd3 ct3)), (4, (PySem.W.fnOf "is_row_of" "is_row_of" (defArgs s_is_row_of) (defBody s_is_row_of) (defScope s_is_row_of) .none kV4 dc4 pm4 an4 cd4 ct4)), (6, (PySem.W.fnOf "element" "element" (defArgs s_element) (defBody s_element) (defScope s_element) .none kV6 dc6 pm6 an6 cd6 ct6)), (12, (PySem.W.fnOf "choice_count" "choice_count" (defArgs s_choice_count) (defBody s_choice_count) (defScope s_choice_count) .none kV12 dc12 pm12 an12 cd12 ct12)), (13, (PySem.W.fnOf "choices" "choices" (defArgs s_choices) (defBody s_choices) (defScope s_choices) .none kV13 dc13 pm13 an13 cd13 ct13)), (20, (PySem.W.fnOf "is_row_within" "is_row_within" (defArgs s_is_row_within) (defBody s_is_row_within) (defScope s_is_row_within) .none kV20 dc20 pm20 an20 cd20 ct20)), (21, (PySem.W.fnOf "is_sum_tree" "is_sum_tree" (defArgs s_is_sum_tree) (defBody s_is_sum_tree) (defScope s_is_sum_tree) .none kV21 dc21 pm21 an21 cd21 ct21)), (22, (PySem.W.fnOf "form_degree" "form_degree" (defArgs s_form_degree) (defBody s_form_degree) (defScope s_form_degree) .none kV22 dc22 pm22 an22 cd22 ct22)), (23, (PySem.W.fnOf "is_condition" "is_condition" (defArgs s_is_condition) (defBody s_is_condition) (defScope s_is_condition) .none kV23 dc23 pm23 an23 cd23 ct23)), (24, (PySem.W.fnOf "sum_worth" "sum_worth" (defArgs s_sum_worth) (defBody s_sum_worth) (defScope s_sum_worth) .none kV24 dc24 pm24 an24 cd24 ct24)), (25, (PySem.W.fnOf "holds" "holds" (defArgs s_holds) (defBody s_holds) (defScope s_holds) .none kV25 dc25 pm25 an25 cd25 ct25)), (26, (PySem.W.fnOf "held" "held" (defArgs s_held) (defBody s_held) (defScope s_held) .none kV26 dc26 pm26 an26 cd26 ct26)), (27, (PySem.W.fnOf "pairs_of" "pairs_of" (defArgs s_pairs_of) (defBody s_pairs_of) (defScope s_pairs_of) .none kV27 dc27 pm27 an27 cd27 ct27)), (28, (PySem.W.fnOf "straight_of" "straight_of" (defArgs s_straight_of) (defBody s_straight_of) (defScope s_straight_of) .none kV28 dc28 pm28 an28 cd28 ct28)), (29, (PySem.W.fnOf "straight" "straight" (defArgs s_straight) (defBody s_straight) (defScope s_straight) .none kV29 dc29 pm29 an29 cd29 ct29)), (31, (PySem.W.fnOf "_law_draw" "_law_draw" (defArgs s__law_draw) (defBody s__law_draw) (defScope s__law_draw) .none kV31 dc31 pm31 an31 cd31 ct31)), (32, (PySem.W.fnOf "_law_any" "_law_any" (defArgs s__law_any) (defBody s__law_any) (defScope s__law_any) .none kV32 dc32 pm32 an32 cd32 ct32)), (33, (PySem.W.fnOf "_law_of" "_law_of" (defArgs s__law_of) (defBody s__law_of) (defScope s__law_of) .none kV33 dc33 pm33 an33 cd33 ct33)), (34, (PySem.W.fnOf "_law_mixed" "_law_mixed" (defArgs s__law_mixed) (defBody s__law_mixed) (defScope s__law_mixed) .none kV34 dc34 pm34 an34 cd34 ct34)), (35, (PySem.W.fnOf "_law_element" "_law_element" (defArgs s__law_element) (defBody s__law_element) (defScope s__law_element) .none kV35 dc35 pm35 an35 cd35 ct35)), (36, (PySem.W.fnOf "_law_great" "_law_great" (defArgs s__law_great) (defBody s__law_great) (defScope s__law_great) .none kV36 dc36 pm36 an36 cd36 ct36)), (37, (PySem.W.fnOf "_law_row" "_law_row" (defArgs s__law_row) (defBody s__law_row) (defScope s__law_row) .none kV37 dc37 pm37 an37 cd37 ct37)), (38, (PySem.W.fnOf "_law_sizes" "_law_sizes" (defArgs s__law_sizes) (defBody s__law_sizes) (defScope s__law_sizes) .none kV38 dc38 pm38 an38 cd38 ct38)), (39, (PySem.W.fnOf "_law_choices" "_law_choices" (defArgs s__law_choices) (defBody s__law_choices) (defScope s__law_choices) .none kV39 dc39 pm39 an39 cd39 ct39)), (40, (PySem.W.fnOf "_law_sum_worth" "_law_sum_worth" (defArgs s__law_sum_worth) (defBody s__law_sum_worth) (defScope s__law_sum_worth) .none kV40 dc40 pm40 an40 cd40 ct40)), (41, (PySem.W.fnOf "_law_holds" "_law_holds" (defArgs s__law_holds) (defBody s__law_holds) (defScope s__law_holds) .none kV41 dc41 pm41 an41 cd41 ct41)), (42, (PySem.W.fnOf "_law_paired" "_law_paired" (defArgs s__law_paired) (defBody s__law_paired) (defScope s__law_paired) .none kV42 dc42 pm42 an42 cd42 ct42)), (43, (PySem.W.fnOf "_law_inward" "_law_inward" (defArgs s__law_inward) (defBody s__law_inward) (defScope s__law_inward) .none kV43 dc43 pm43 an43 cd43 ct43)), (44, (PySem.W.fnOf "_law_leaf" "_law_leaf" (defArgs s__law_leaf) (defBody s__law_leaf) (defScope s__law_leaf) .none kV44 dc44 pm44 an44 cd44 ct44)), (45, (PySem.W.fnOf "_law_sum" "_law_sum" (defArgs s__law_sum) (defBody s__law_sum) (defScope s__law_sum) .none kV45 dc45 pm45 an45 cd45 ct45)), (46, (PySem.W.fnOf "_law_condition" "_law_condition" (defArgs s__law_condition) (defBody s__law_condition) (defScope s__law_condition) .none kV46 dc46 pm46 an46 cd46 ct46)), (47, (PySem.W.fnOf "_law_bad_sum" "_law_bad_sum" (defArgs s__law_bad_sum) (defBody s__law_bad_sum) (defScope s__law_bad_sum) .none kV47 dc47 pm47 an47 cd47 ct47)), (48, (PySem.W.fnOf "_law_spoilt" "_law_spoilt" (defArgs s__law_spoilt) (defBody s__law_spoilt) (defScope s__law_spoilt) .none kV48 dc48 pm48 an48 cd48 ct48)), (49, (PySem.W.fnOf "law" "law" (defArgs s_law) (defBody s_law) (defScope s_law) .none kV49 dc49 pm49 an49 cd49 ct49)), (1009, (PySem.W.fnX "__init__" "Refused.__init__" (defArgs sI_Refused) (defBody sI_Refused) (defScope sI_Refused) [("__class__", cc9)] .none kV9 dc9 pm9 an9 (.ref cda9) ct9))] i) := {
    F_is_integer := fun_mk (st := s_is_integer) l1 c1 k1
    g_is_integer := PySem.W.mg_of X G a1
    F_is_number := fun_mk (st := s_is_number) l2 c2 k2
    g_is_number := PySem.W.mg_of X G a2
    F_is_index := fun_mk (st := s_is_index) l3 c3 k3
    g_is_index := PySem.W.mg_of X G a3
    F_is_row_of := fun_mk (st := s_is_row_of) l4 c4 k4
    g_is_row_of := PySem.W.mg_of X G a4
    F_element := fun_mk (st := s_element) l6 c6 k6
    g_element := PySem.W.mg_of X G a6
    F_choice_count := fun_mk (st := s_choice_count) l12 c12 k12
    g_choice_count := PySem.W.mg_of X G a12
    F_choices := fun_mk (st := s_choices) l13 c13 k13
    g_choices := PySem.W.mg_of X G a13
    F_is_row_within := fun_mk (st := s_is_row_within) l20 c20 k20
    g_is_row_within := PySem.W.mg_of X G a20
    F_is_sum_tree := fun_mk (st := s_is_sum_tree) l21 c21 k21
    g_is_sum_tree := PySem.W.mg_of X G a21
    F_form_degree := fun_mk (st := s_form_degree) l22 c22 k22
    g_form_degree := PySem.W.mg_of X G a22
    F_is_condition := fun_mk (st := s_is_condition) l23 c23 k23
    g_is_condition := PySem.W.mg_of X G a23
    F_sum_worth := fun_mk (st := s_sum_worth) l24 c24 k24
    g_sum_worth := PySem.W.mg_of X G a24
    F_holds := fun_mk (st := s_holds) l25 c25 k25
    g_holds := PySem.W.mg_of X G a25
    F_held := fun_mk (st := s_held) l26 c26 k26
    g_held := PySem.W.mg_of X G a26
    F_pairs_of := fun_mk (st := s_pairs_of) l27 c27 k27
    g_pairs_of := PySem.W.mg_of X G a27
    F_straight_of := fun_mk (st := s_straight_of) l28 c28 k28
    g_straight_of := PySem.W.mg_of X G a28
    F_straight := fun_mk (st := s_straight) l29 c29 k29
    g_straight := PySem.W.mg_of X G a29
    F__law_draw := fun_mk (st := s__law_draw) l31 c31 k31
    g__law_draw := PySem.W.mg_of X G a31
    F__law_any := fun_mk (st := s__law_any) l32 c32 k32
    g__law_any := PySem.W.mg_of X G a32
    F__law_of := fun_mk (st := s__law_of) l33 c33 k33
    g__law_of := PySem.W.mg_of X G a33
    F__law_mixed := fun_mk (st := s__law_mixed) l34 c34 k34
    g__law_mixed := PySem.W.mg_of X G a34
    F__law_element := fun_mk (st := s__law_element) l35 c35 k35
    g__law_element := PySem.W.mg_of X G a35
    F__law_great := fun_mk (st := s__law_great) l36 c36 k36
    g__law_great := PySem.W.mg_of X G a36
    F__law_row := fun_mk (st := s__law_row) l37 c37 k37
    g__law_row := PySem.W.mg_of X G a37
    F__law_sizes := fun_mk (st := s__law_sizes) l38 c38 k38
    g__law_sizes := PySem.W.mg_of X G a38
    F__law_choices := fun_mk (st := s__law_choices) l39 c39 k39
    g__law_choices := PySem.W.mg_of X G a39
    F__law_sum_worth := fun_mk (st := s__law_sum_worth) l40 c40 k40
    g__law_sum_worth := PySem.W.mg_of X G a40
    F__law_holds := fun_mk (st := s__law_holds) l41 c41 k41
    g__law_holds := PySem.W.mg_of X G a41
    F__law_paired := fun_mk (st := s__law_paired) l42 c42 k42
    g__law_paired := PySem.W.mg_of X G a42
    F__law_inward := fun_mk (st := s__law_inward) l43 c43 k43
    g__law_inward := PySem.W.mg_of X G a43
    F__law_leaf := fun_mk (st := s__law_leaf) l44 c44 k44
    g__law_leaf := PySem.W.mg_of X G a44
    F__law_sum := fun_mk (st := s__law_sum) l45 c45 k45
    g__law_sum := PySem.W.mg_of X G a45
    F__law_condition := fun_mk (st := s__law_condition) l46 c46 k46
    g__law_condition := PySem.W.mg_of X G a46
    F__law_bad_sum := fun_mk (st := s__law_bad_sum) l47 c47 k47
    g__law_bad_sum := PySem.W.mg_of X G a47
    F__law_spoilt := fun_mk (st := s__law_spoilt) l48 c48 k48
    g__law_spoilt := PySem.W.mg_of X G a48
    F_law := fun_mk (st := s_law) l49 c49 k49
    g_law := PySem.W.mg_of X G a49
    z_abs := PySem.W.mg_none_of X G z_abs
    z_all := PySem.W.mg_none_of X G z_all
    z_any := PySem.W.mg_none_of X G z_any
    z_bool := PySem.W.mg_none_of X G z_bool
    z_enumerate := PySem.W.mg_none_of X G z_enumerate
    z_int := PySem.W.mg_none_of X G z_int
    z_isinstance := PySem.W.mg_none_of X G z_isinstance
    z_len := PySem.W.mg_none_of X G z_len
    z_list := PySem.W.mg_none_of X G z_list
    z_max := PySem.W.mg_none_of X G z_max
    z_min := PySem.W.mg_none_of X G z_min
    z_range := PySem.W.mg_none_of X G z_range
    z_repr := PySem.W.mg_none_of X G z_repr
    z_set := PySem.W.mg_none_of X G z_set
    z_sorted := PySem.W.mg_none_of X G z_sorted
    z_str := PySem.W.mg_none_of X G z_str
    z_sum := PySem.W.mg_none_of X G z_sum
    z_super := PySem.W.mg_none_of X G z_super
    z_tuple := PySem.W.mg_none_of X G z_tuple
    c_MOST_CHOICES := ⟨_, PySem.W.mg_of X G q_MOST_CHOICES, ⟨_, rfl⟩⟩
    c_MOST_FORM := ⟨_, PySem.W.mg_of X G q_MOST_FORM, ⟨_, rfl⟩⟩
    c_MOST_NUMBER := ⟨_, PySem.W.mg_of X G q_MOST_NUMBER, ⟨_, rfl⟩⟩
    c_MOST_PARTS := ⟨_, PySem.W.mg_of X G q_MOST_PARTS, ⟨_, rfl⟩⟩
    c_MOST_SUMS := ⟨_, PySem.W.mg_of X G q_MOST_SUMS, ⟨_, rfl⟩⟩
    c_OTHER := ⟨_, PySem.W.mg_of X G q_OTHER, rfl⟩
    d_OTHER := (kd_cons ⟨_, _, _, l19, ks19, e19_0, ⟨_, rfl⟩⟩ (kd_cons ⟨_, _, _, l19, ks19, e19_1, ⟨_, rfl⟩⟩ (kd_cons ⟨_, _, _, l19, ks19, e19_2, ⟨_, rfl⟩⟩ (kd_cons ⟨_, _, _, l19, ks19, e19_3, ⟨_, rfl⟩⟩ kd_nil))))
    gc_Refused := PySem.W.mg_of X G gc9
    x_Refused := (⟨⟨_, _, _, _, _, _, _, _, _, _, _, _, _, _, _, xl9, xr9⟩, xs9, xe9, xt9, xk9⟩ : OexC K f9)
    i_Refused := xi9
    t_Refused := xf9
    n_Refused := by
      obtain ⟨file, tf, h1, h2⟩ := xfile9
      exact super_init_ok xlf9 (fun env => ⟨_, rfl⟩) xc9 (NdefX.nscope_by (by decide +kernel)) rfl rfl xd9 h1 h2 xcl9 xcd9 xm9 (PySem.W.mg_none_of X G z_super) rfl rfl rfl xo9 xsup9 xv9 (⟨⟨_, _, _, _, _, _, _, _, _, _, _, _, _, _, _, xl9, xr9⟩, xs9, xe9, xt9, xk9⟩ : OexC K f9) xn9 rfl rfl
    bi_Refused := Binds.all fun us hl => match us, hl with | [_, _], _ => rfl
    xf_Refused := ⟨xg9, xgg9, xe9, xh9⟩
    e_Refused := xex9
    na_Refused := xn9
  }
  exact ⟨(PySem.W.fnOf "law" "law" (defArgs s_law) (defBody s_law) (defScope s_law) .none kV49 dc49 pm49 an49 cd49 ct49), fun s v => .of_eq rfl, fun base _ _ => ok_law T draw_ok math_ok⟩
end K84
open PySem PySem.W PyProof.Rows
set_option maxHeartbeats 0 in
theorem PySem.Challenge.cw_morelistpicks_k84_whole_conditions_over_holds : PySem.Challenge.rw_morelistpicks_k84_whole_conditions_over.Holds := by
  w_on; o_law; k_head; (case hw => w_witness2)
  k_fill
  refine L2.walk_of (l := PySem.Challenge.rw_morelistpicks_k84_whole_conditions_over) (n := 63) (k := 126) (x := "script") (CX := fun _ => L2.CX0) (sp := fun w => Ip.spLaw _) rfl (by decide) rfl ⟨rfl, by decide, by decide⟩ (fun w h Y => PySem.W.kIn_of Y) ?F (fun _ _ a ns hl _ hS => ⟨a, ns, rfl, hS, hl, fun _ => rfl⟩) (fun _ _ _ _ _ h => h)
  case F =>
    intro w mg fa h KX G hmg
    refine' K84.all_mk (w := w) KX G hmg ?a1 ?l1 ?c1 ?k1 ?a2 ?l2 ?c2 ?k2 ?a3 ?l3 ?c3 ?k3 ?a4 ?l4 ?c4 ?k4 ?a6 ?l6 ?c6 ?k6 ?a12 ?l12 ?c12 ?k12 ?a13 ?l13 ?c13 ?k13 ?a20 ?l20 ?c20 ?k20 ?a21 ?l21 ?c21 ?k21 ?a22 ?l22 ?c22 ?k22 ?a23 ?l23 ?c23 ?k23 ?a24 ?l24 ?c24 ?k24 ?a25 ?l25 ?c25 ?k25 ?a26 ?l26 ?c26 ?k26 ?a27 ?l27 ?c27 ?k27 ?a28 ?l28 ?c28 ?k28 ?a29 ?l29 ?c29 ?k29 ?a31 ?l31 ?c31 ?k31 ?a32 ?l32 ?c32 ?k32 ?a33 ?l33 ?c33 ?k33 ?a34 ?l34 ?c34 ?k34 ?a35 ?l35 ?c35 ?k35 ?a36 ?l36 ?c36 ?k36 ?a37 ?l37 ?c37 ?k37 ?a38 ?l38 ?c38 ?k38 ?a39 ?l39 ?c39 ?k39 ?a40 ?l40 ?c40 ?k40 ?a41 ?l41 ?c41 ?k41 ?a42 ?l42 ?c42 ?k42 ?a43 ?l43 ?c43 ?k43 ?a44 ?l44 ?c44 ?k44 ?a45 ?l45 ?c45 ?k45 ?a46 ?l46 ?c46 ?k46 ?a47 ?l47 ?c47 ?k47 ?a48 ?l48 ?c48 ?k48 ?a49 ?l49 ?c49 ?k49 ?z_abs ?z_all ?z_any ?z_bool ?z_enumerate ?z_int ?z_isinstance ?z_len ?z_list ?z_max ?z_min ?z_range ?z_repr ?z_set ?z_sorted ?z_str ?z_sum ?z_super ?z_tuple ?q_MOST_CHOICES ?q_MOST_FORM ?q_MOST_NUMBER ?q_MOST_PARTS ?q_MOST_SUMS ?q_OTHER ?l19 ?ks19 ?e19_0 ?e19_1 ?e19_2 ?e19_3 ?gc9 ?xl9 ?xs9 ?xe9 ?xt9 ?xk9 ?xi9 ?xf9 ?xlf9 ?xc9 ?xd9 ?xcl9 ?xcd9 ?xm9 ?xo9 ?xv9 ?xn9 ?xg9 ?xgg9 ?xh9 ?xr9 ?xfile9 ?xsup9 ?xex9
    (case a1 => k_is)
    (case l1 => k_is)
    (case c1 => k_is)
    (case k1 => k_is)
    (case a2 => k_is)
    (case l2 => k_is)
    (case c2 => k_is)
    (case k2 => k_is)
    (case a3 => k_is)
    (case l3 => k_is)
    (case c3 => k_is)
    (case k3 => k_is)
    (case a4 => k_is)
    (case l4 => k_is)
    (case c4 => k_is)
    (case k4 => k_is)
    (case a6 => k_is)
    (case l6 => k_is)
    (case c6 => k_is)
    (case k6 => k_is)
    (case a12 => k_is)
    (case l12 => k_is)
    (case c12 => k_is)
    (case k12 => k_is)
    (case a13 => k_is)
    (case l13 => k_is)
    (case c13 => k_is)
    (case k13 => k_is)
    (case a20 => k_is)
    (case l20 => k_is)
    (case c20 => k_is)
    (case k20 => k_is)
    (case a21 => k_is)
    (case l21 => k_is)
    (case c21 => k_is)
    (case k21 => k_is)
    (case a22 => k_is)
    (case l22 => k_is)
    (case c22 => k_is)
    (case k22 => k_is)
    (case a23 => k_is)
    (case l23 => k_is)
    (case c23 => k_is)
    (case k23 => k_is)
    (case a24 => k_is)
    (case l24 => k_is)
    (case c24 => k_is)
    (case k24 => k_is)
    (case a25 => k_is)
    (case l25 => k_is)
    (case c25 => k_is)
    (case k25 => k_is)
    (case a26 => k_is)
    (case l26 => k_is)
    (case c26 => k_is)
    (case k26 => k_is)
    (case a27 => k_is)
    (case l27 => k_is)
    (case c27 => k_is)
    (case k27 => k_is)
    (case a28 => k_is)
    (case l28 => k_is)
    (case c28 => k_is)
    (case k28 => k_is)
    (case a29 => k_is)
    (case l29 => k_is)
    (case c29 => k_is)
    (case k29 => k_is)
    (case a31 => k_is)
    (case l31 => k_is)
    (case c31 => k_is)
    (case k31 => k_is)
    (case a32 => k_is)
    (case l32 => k_is)
    (case c32 => k_is)
    (case k32 => k_is)
    (case a33 => k_is)
    (case l33 => k_is)
    (case c33 => k_is)
    (case k33 => k_is)
    (case a34 => k_is)
    (case l34 => k_is)
    (case c34 => k_is)
    (case k34 => k_is)
    (case a35 => k_is)
    (case l35 => k_is)
    (case c35 => k_is)
    (case k35 => k_is)
    (case a36 => k_is)
    (case l36 => k_is)
    (case c36 => k_is)
    (case k36 => k_is)
    (case a37 => k_is)
    (case l37 => k_is)
    (case c37 => k_is)
    (case k37 => k_is)
    (case a38 => k_is)
    (case l38 => k_is)
    (case c38 => k_is)
    (case k38 => k_is)
    (case a39 => k_is)
    (case l39 => k_is)
    (case c39 => k_is)
    (case k39 => k_is)
    (case a40 => k_is)
    (case l40 => k_is)
    (case c40 => k_is)
    (case k40 => k_is)
    (case a41 => k_is)
    (case l41 => k_is)
    (case c41 => k_is)
    (case k41 => k_is)
    (case a42 => k_is)
    (case l42 => k_is)
    (case c42 => k_is)
    (case k42 => k_is)
    (case a43 => k_is)
    (case l43 => k_is)
    (case c43 => k_is)
    (case k43 => k_is)
    (case a44 => k_is)
    (case l44 => k_is)
    (case c44 => k_is)
    (case k44 => k_is)
    (case a45 => k_is)
    (case l45 => k_is)
    (case c45 => k_is)
    (case k45 => k_is)
    (case a46 => k_is)
    (case l46 => k_is)
    (case c46 => k_is)
    (case k46 => k_is)
    (case a47 => k_is)
    (case l47 => k_is)
    (case c47 => k_is)
    (case k47 => k_is)
    (case a48 => k_is)
    (case l48 => k_is)
    (case c48 => k_is)
    (case k48 => k_is)
    (case a49 => k_is)
    (case l49 => k_is)
    (case c49 => k_is)
    (case k49 => k_is)
    (case z_abs => k_is)
    (case z_all => k_is)
    (case z_any => k_is)
    (case z_bool => k_is)
    (case z_enumerate => k_is)
    (case z_int => k_is)
    (case z_isinstance => k_is)
    (case z_len => k_is)
    (case z_list => k_is)
    (case z_max => k_is)
    (case z_min => k_is)
    (case z_range => k_is)
    (case z_repr => k_is)
    (case z_set => k_is)
    (case z_sorted => k_is)
    (case z_str => k_is)
    (case z_sum => k_is)
    (case z_super => k_is)
    (case z_tuple => k_is)
    (case q_MOST_CHOICES => k_is)
    (case q_MOST_FORM => k_is)
    (case q_MOST_NUMBER => k_is)
    (case q_MOST_PARTS => k_is)
    (case q_MOST_SUMS => k_is)
    (case q_OTHER => k_is)
    (case l19 => k_is)
    (case ks19 => k_keys)
    (case e19_0 => k_is)
    (case e19_1 => k_is)
    (case e19_2 => k_is)
    (case e19_3 => k_is)
    (case gc9 => k_is)
    (case xl9 => k_is)
    (case xs9 => k_is)
    (case xe9 => k_is)
    (case xt9 => k_is)
    (case xk9 => k_is)
    (case xi9 => k_is)
    (case xf9 => k_is)
    (case xlf9 => k_is)
    (case xc9 => k_is)
    (case xd9 => k_is)
    (case xcl9 => k_is)
    (case xcd9 => k_is)
    (case xm9 => k_is)
    (case xo9 => k_is)
    (case xv9 => k_is)
    (case xn9 => k_is)
    (case xg9 => k_is)
    (case xgg9 => k_is)
    (case xh9 => k_is)
    (case xr9 => first | decide +kernel | rfl)
    (case xfile9 => exact ⟨_, _, rfl, rfl⟩)
    (case xsup9 => ks_is)
    (case xex9 => first | decide +kernel | rfl)
    all_goals exact none
