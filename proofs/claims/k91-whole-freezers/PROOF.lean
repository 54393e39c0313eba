import PyProof.Rows.All
import Wide.All
import OpenK.AllK
import Wide.FinOn
import HandS.ForMost
import HandS.IsInst
import HandS.Wide
import HandS.Style
import HandS.Deep
import HandS.TupAny
import KE.GoesNew
import PySem.Challenge.RW_pantrykept_k91_whole_freezers
set_option Elab.async false
set_option linter.all false
set_option autoImplicit false
set_option maxRecDepth 100000
set_option maxHeartbeats 1000000
/-! Functional denotations over the hand layer: values are data, a def's own lists live in its slots, the law's draws are a state. -/
namespace Dn
open PySem PySem.Spec PyProof.Rows L2

abbrev Frg := PySem.W.Frag
/-- what a slot holds, what an expression gives -/
inductive Sv where
  | dat (d : PyData)
  | own (xs : List PyData)
  | box | cells
  | scr (ns : List Int)
abbrev Sl := List (Option Sv)
/-- the state that the law draws from -/
structure Bx where
  cells : List Int
  regs : List Int
  on : Bool
abbrev Bad := Option (Addr × Addr)

mutual
inductive Rp (K : Frg) (F : Hp) : V → PyData → Prop
  | non : Rp K F .non .none
  | bl (b : Bool) : Rp K F (.bl b) (.bool b)
  | int (i : Int) : Rp K F (.int i) (.int i)
  | str (x : Str) : Rp K F (.str x) (.str x)
  | lst {a : Addr} {xs : List V} {ds : List PyData} : F a = some (.lst xs) → Rps K F xs ds → Rp K F (.ref a) (.list ds)
  | tup {a : Addr} {xs : List V} {ds : List PyData} : SqT K F a xs → Rps K F xs ds → Rp K F (.ref a) (.tuple ds)
inductive Rps (K : Frg) (F : Hp) : List V → List PyData → Prop
  | nil : Rps K F [] []
  | cons {v : V} {vs : List V} {d : PyData} {ds : List PyData} : Rp K F v d → Rps K F vs ds → Rps K F (v :: vs) (d :: ds)
end

def Ext (H H' : Hp) : Prop := ∀ a o, H a = some o → H' a = some o
theorem Ext.refl (H : Hp) : Ext H H := fun _ _ h => h
theorem Ext.trans {H H1 H2 : Hp} (a : Ext H H1) (b : Ext H1 H2) : Ext H H2 := fun x o h => b x o (a x o h)
theorem Ext.new {H : Hp} {p : Addr} {o : HO} (h : H p = none) : Ext H (upd H p o) := fun a u e => by
  rw [upd_ne (ne_of_none e h)]
  exact e
theorem Ext.rd {H H' : Hp} {a : Addr} {u : HO} (e : Ext H H') (h : Rd H a u) : Rd H' a u := by
  rcases h with h | ⟨o, h⟩
  · exact Or.inl (e a _ h)
  · exact Or.inr ⟨o, e a _ h⟩
theorem Ext.sqL {K : Frg} {H H' : Hp} {a : Addr} {xs : List V} (e : Ext H H') (h : SqL K H a xs) : SqL K H' a xs := h.imp (fun z => e.rd z) id
theorem Ext.sqT {K : Frg} {H H' : Hp} {a : Addr} {xs : List V} (e : Ext H H') (h : SqT K H a xs) : SqT K H' a xs := h.imp (fun z => e.rd z) id

mutual
theorem Rp.mono {K : Frg} {F F' : Hp} (e : Ext F F') : ∀ {d : PyData} {v : V}, Rp K F v d → Rp K F' v d
  | .none, _, h => by cases h; exact .non
  | .bool b, _, h => by cases h; exact .bl b
  | .int b, _, h => by cases h; exact .int b
  | .str b, _, h => by cases h; exact .str b
  | .list ds, _, h => by
    cases h with
    | lst h1 h2 => exact .lst (e _ _ h1) (Rps.mono e h2)
  | .tuple ds, _, h => by
    cases h with
    | tup h1 h2 => exact .tup (e.sqT h1) (Rps.mono e h2)
  | .dict _, _, h => by cases h
theorem Rps.mono {K : Frg} {F F' : Hp} (e : Ext F F') : ∀ {ds : List PyData} {vs : List V}, Rps K F vs ds → Rps K F' vs ds
  | [], _, h => by cases h; exact .nil
  | d :: ds, _, h => by
    cases h with
    | cons h1 h2 => exact .cons (Rp.mono e h1) (Rps.mono e h2)
end
mutual
theorem Rp.dp {K : Frg} {F : Hp} : ∀ {d : PyData} {v : V}, Rp K F v d → Dp K F v d
  | .none, _, h => by cases h; exact .non
  | .bool b, _, h => by cases h; exact .bl b
  | .int b, _, h => by cases h; exact .int b
  | .str b, _, h => by cases h; exact .str b
  | .list ds, _, h => by
    cases h with
    | lst h1 h2 => exact .lst (SqL.of h1) (Rps.dp h2)
  | .tuple ds, _, h => by
    cases h with
    | tup h1 h2 => exact .tup h1 (Rps.dp h2)
  | .dict _, _, h => by cases h
theorem Rps.dp {K : Frg} {F : Hp} : ∀ {ds : List PyData} {vs : List V}, Rps K F vs ds → DpAll K F vs ds
  | [], _, h => by cases h; exact .nil
  | d :: ds, _, h => by
    cases h with
    | cons h1 h2 => exact .cons (Rp.dp h1) (Rps.dp h2)
end
section
variable {K : Frg} {F : Hp}
theorem Rps.length : ∀ {vs : List V} {ds : List PyData}, Rps K F vs ds → vs.length = ds.length
  | [], [], _ => rfl
  | _ :: _, _ :: _, h => by
    cases h with
    | cons _ h2 => rw [List.length_cons, List.length_cons, Rps.length h2]
  | [], _ :: _, h => by cases h
  | _ :: _, [], h => by cases h
theorem Rps.get : ∀ {vs : List V} {ds : List PyData} {i : Nat} {d : PyData}, Rps K F vs ds → ds[i]? = some d → ∃ v, vs[i]? = some v ∧ Rp K F v d
  | _ :: _, _ :: _, 0, _, h, e => by
    cases h with
    | cons h1 _ =>
      cases e
      exact ⟨_, rfl, h1⟩
  | _ :: _, _ :: _, i + 1, _, h, e => by
    cases h with
    | cons _ h2 => exact Rps.get (i := i) h2 e
  | [], [], _, _, _, e => by cases e
  | [], _ :: _, _, _, h, _ => by cases h
  | _ :: _, [], _, _, h, _ => by cases h
theorem Rps.get' : ∀ {vs : List V} {ds : List PyData} {i : Nat} {v : V}, Rps K F vs ds → vs[i]? = some v → ∃ d, ds[i]? = some d ∧ Rp K F v d
  | _ :: _, _ :: _, 0, _, h, e => by
    cases h with
    | cons h1 _ =>
      cases e
      exact ⟨_, rfl, h1⟩
  | _ :: _, _ :: _, i + 1, _, h, e => by
    cases h with
    | cons _ h2 => exact Rps.get' (i := i) h2 e
  | [], [], _, _, _, e => by cases e
  | [], _ :: _, _, _, h, _ => by cases h
  | _ :: _, [], _, _, h, _ => by cases h
theorem Rps.append : ∀ {vs us : List V} {ds es : List PyData}, Rps K F vs ds → Rps K F us es → Rps K F (vs ++ us) (ds ++ es)
  | [], _, [], _, _, h => h
  | _ :: _, _, _ :: _, _, h, h' => by
    cases h with
    | cons h1 h2 => exact .cons h1 (Rps.append h2 h')
  | [], _, _ :: _, _, h, _ => by cases h
  | _ :: _, _, [], _, h, _ => by cases h
theorem Rps.drop : ∀ (n : Nat) {vs : List V} {ds : List PyData}, Rps K F vs ds → Rps K F (vs.drop n) (ds.drop n)
  | 0, _, _, h => h
  | _ + 1, [], [], _ => .nil
  | n + 1, _ :: _, _ :: _, h => by
    cases h with
    | cons _ h2 => exact Rps.drop n h2
  | _ + 1, [], _ :: _, h => by cases h
  | _ + 1, _ :: _, [], h => by cases h
theorem Rps.take : ∀ (n : Nat) {vs : List V} {ds : List PyData}, Rps K F vs ds → Rps K F (vs.take n) (ds.take n)
  | 0, _, _, _ => .nil
  | _ + 1, [], [], _ => .nil
  | n + 1, _ :: _, _ :: _, h => by
    cases h with
    | cons h1 h2 => exact .cons h1 (Rps.take n h2)
  | _ + 1, [], _ :: _, h => by cases h
  | _ + 1, _ :: _, [], h => by cases h
theorem Rps.one {v : V} {d : PyData} (h : Rp K F v d) : Rps K F [v] [d] := .cons h .nil
theorem Rps.set {v : V} {d : PyData} (h : Rp K F v d) : ∀ (n : Nat) {vs : List V} {ds : List PyData}, Rps K F vs ds → Rps K F (vs.set n v) (ds.set n d)
  | _, [], [], _ => .nil
  | 0, _ :: _, _ :: _, h' => by
    cases h' with
    | cons _ h2 => exact .cons h h2
  | n + 1, _ :: _, _ :: _, h' => by
    cases h' with
    | cons h1 h2 => exact .cons h1 (Rps.set h n h2)
  | _, [], _ :: _, h => by cases h
  | _, _ :: _, [], h => by cases h
theorem Rps.reverse : ∀ {vs : List V} {ds : List PyData}, Rps K F vs ds → Rps K F vs.reverse ds.reverse
  | [], [], _ => .nil
  | v :: vs, d :: ds, h => by
    cases h with
    | cons h1 h2 =>
      rw [List.reverse_cons, List.reverse_cons]
      exact Rps.append (Rps.reverse h2) (.one h1)
  | [], _ :: _, h => by cases h
  | _ :: _, [], h => by cases h
theorem Rps.erase : ∀ (n : Nat) {vs : List V} {ds : List PyData}, Rps K F vs ds → Rps K F (vs.eraseIdx n) (ds.eraseIdx n)
  | _, [], [], _ => .nil
  | 0, _ :: _, _ :: _, h' => by
    cases h' with
    | cons _ h2 => exact h2
  | n + 1, _ :: _, _ :: _, h' => by
    cases h' with
    | cons h1 h2 => exact .cons h1 (Rps.erase n h2)
  | _, [], _ :: _, h => by cases h
  | _, _ :: _, [], h => by cases h
theorem Rps.ints : ∀ {vs : List V} {ns : List Int}, Rps K F vs (ns.map PyData.int) → vs = ns.map V.int
  | [], [], _ => rfl
  | v :: vs, n :: ns, h => by
    cases h with
    | cons h1 h2 =>
      cases h1
      rw [Rps.ints h2]
      rfl
  | [], _ :: _, h => by cases h
  | _ :: _, [], h => by cases h
theorem Rps.of_ints : ∀ (ns : List Int), Rps K F (ns.map V.int) (ns.map PyData.int)
  | [] => .nil
  | n :: ns => .cons (.int n) (Rps.of_ints ns)
theorem Rps.bls : ∀ {vs : List V} {ns : List Bool}, Rps K F vs (ns.map PyData.bool) → vs = ns.map V.bl
  | [], [], _ => rfl
  | v :: vs, n :: ns, h => by
    cases h with
    | cons h1 h2 =>
      cases h1
      rw [Rps.bls h2]
      rfl
  | [], _ :: _, h => by cases h
  | _ :: _, [], h => by cases h
end

/-! ### the state's relation -/
structure Fx where
  H0 : Hp
  F0 : Hp
  b0 : Bad
def inb (b : Bad) (a : Addr) : Prop := ∃ p, b = some p ∧ (a = p.1 ∨ a = p.2)
def SvR (K : Frg) (F H : Hp) (b : Bad) (v : V) : Sv → Prop
  | .dat d => Rp K F v d
  | .own xs => ∃ a vs, v = .ref a ∧ H a = some (.lst vs) ∧ Rps K F vs xs ∧ F a = none ∧ ¬ inb b a
  | .box => ∃ p, b = some p ∧ v = .ref p.1
  | .cells => ∃ p, b = some p ∧ v = .ref p.2
  | .scr ns => ∃ a, v = .ref a ∧ SqL K F a (ns.map V.int)
structure BxR (F H : Hp) (b : Bad) (B : Bx) : Prop where
  at_ : ∀ p, b = some p → H p.1 = some (.lst (.ref p.2 :: B.regs.map V.int)) ∧ H p.2 = some (.lst (B.cells.map V.int)) ∧ F p.1 = none ∧ F p.2 = none ∧ p.1 ≠ p.2
  liv : b.isSome = B.on
structure Rel (K : Frg) (C : Fx) (sl : Sl) (B : Bx) (F : Hp) (b : Bad) (σ : L2.St) (H : Hp) : Prop where
  fro : Ext F H
  len : sl.length = σ.length
  slt : ∀ (i : Nat) (s : Sv), sl[i]? = some (some s) → ∃ v, σ[i]? = some (some v) ∧ SvR K F H b v s
  dis : ∀ (i j : Nat) (xs ys : List PyData) (a : Addr), sl[i]? = some (some (.own xs)) → sl[j]? = some (some (.own ys)) → σ[i]? = some (some (.ref a)) → σ[j]? = some (some (.ref a)) → i = j
  own0 : ∀ (i : Nat) (xs : List PyData) (a : Addr), sl[i]? = some (some (.own xs)) → σ[i]? = some (some (.ref a)) → C.H0 a = none
  bx : BxR F H b B
  e1 : Ext C.F0 F
  e2 : ∀ a, C.H0 a ≠ none → C.F0 a = none → F a = none
  e3 : ∀ a o, C.H0 a = some o → ¬ inb C.b0 a → H a = some o
  e4 : ∀ p, C.b0 = some p → b = some p
  e5 : ∀ a, inb b a → C.H0 a = none ∨ inb C.b0 a
/-- what an expression does to the heap -/
structure Stp (F : Hp) (b : Bad) (H : Hp) (F' : Hp) (b' : Bad) (H' : Hp) : Prop where
  ex : Ext F F'
  pr : ∀ a o, H a = some o → ¬ inb b a → H' a = some o
  ko : ∀ a, H a ≠ none → F a = none → F' a = none
  bb : ∀ p, b = some p → b' = some p
  nb : ∀ a, inb b' a → inb b a ∨ H a = none
  tr : ∀ a, H a ≠ none → H' a ≠ none
section
variable {F F1 F2 H H1 H2 : Hp} {b b1 b2 : Bad}
theorem Stp.refl : Stp F b H F b H := ⟨Ext.refl _, fun _ _ h _ => h, fun _ _ h => h, fun _ h => h, fun _ h => .inl h, fun _ h => h⟩
theorem Stp.trans (x : Stp F b H F1 b1 H1) (y : Stp F1 b1 H1 F2 b2 H2) : Stp F b H F2 b2 H2 where
  ex := x.ex.trans y.ex
  pr := fun a o h n => y.pr a o (x.pr a o h n) fun z => by
    rcases x.nb a z with q | q
    · exact n q
    · rw [h] at q; cases q
  ko := fun a h n => y.ko a (x.tr a h) (x.ko a h n)
  bb := fun p h => y.bb p (x.bb p h)
  nb := fun a h => by
    rcases y.nb a h with q | q
    · exact x.nb a q
    · by_cases z : H a = none
      · exact .inr z
      · exact absurd q (x.tr a z)
  tr := fun a h => y.tr a (x.tr a h)
theorem Stp.new {p : Addr} {o : HO} (h : H p = none) : Stp F b H F b (upd H p o) where
  ex := Ext.refl _
  pr := fun a u e _ => Ext.new h a u e
  ko := fun _ _ h => h
  bb := fun _ h => h
  nb := fun _ h => .inl h
  tr := fun a q => by
    unfold upd
    split
    · exact Option.some_ne_none _
    · exact q
theorem Stp.fz {p : Addr} {o : HO} (fr : Ext F H) (h : H p = none) : Stp F b H (upd F p o) b (upd H p o) where
  ex := Ext.new (by
    cases q : F p with
    | none => rfl
    | some u => rw [fr p u q] at h; cases h)
  pr := fun a u e _ => Ext.new h a u e
  ko := fun a q n => by
    rw [upd_ne (fun z => by subst z; exact q h)]
    exact n
  bb := fun _ h => h
  nb := fun _ h => .inl h
  tr := fun a q => by
    unfold upd
    split
    · exact Option.some_ne_none _
    · exact q
theorem not_in_F (fr : Ext F H) {p : Addr} (h : H p = none) : F p = none := by
  cases q : F p with
  | none => rfl
  | some u => rw [fr p u q] at h; cases h
end
theorem SvR.mono {K : Frg} {F F' H H' : Hp} {b b' : Bad} {v : V} {s : Sv} (x : Stp F b H F' b' H') (h : SvR K F H b v s) : SvR K F' H' b' v s := by
  cases s with
  | dat d => exact Rp.mono x.ex h
  | own xs =>
    obtain ⟨a, vs, e, h1, h2, h3, h4⟩ := h
    refine ⟨a, vs, e, x.pr a _ h1 h4, Rps.mono x.ex h2, x.ko a (by rw [h1]; exact Option.some_ne_none _) h3, fun z => ?_⟩
    rcases x.nb a z with q | q
    · exact h4 q
    · rw [h1] at q; cases q
  | box =>
    obtain ⟨p, e, h⟩ := h
    exact ⟨p, x.bb p e, h⟩
  | cells =>
    obtain ⟨p, e, h⟩ := h
    exact ⟨p, x.bb p e, h⟩
  | scr ns =>
    obtain ⟨a, e, h⟩ := h
    exact ⟨a, e, x.ex.sqL h⟩
abbrev SvsR (K : Frg) (F H : Hp) (b : Bad) : List V → List Sv → Prop := Paired (fun v s => SvR K F H b v s)
theorem SvsR.mono {K : Frg} {F F' H H' : Hp} {b b' : Bad} (x : Stp F b H F' b' H') : ∀ {vs : List V} {ss : List Sv}, SvsR K F H b vs ss → SvsR K F' H' b' vs ss
  | _, _, .nil => .nil
  | _, _, .cons h t => .cons (SvR.mono x h) (SvsR.mono x t)
section
variable {K : Frg} {C : Fx} {sl : Sl} {B B' : Bx} {F F' H H' : Hp} {b b' : Bad} {σ : L2.St}
/-- a step that leaves the box as told -/
theorem Rel.step (r : Rel K C sl B F b σ H) (x : Stp F b H F' b' H') (fr : Ext F' H') (bx : BxR F' H' b' B') : Rel K C sl B' F' b' σ H' where
  fro := fr
  len := r.len
  slt := fun i s h => let ⟨v, e, q⟩ := r.slt i s h; ⟨v, e, q.mono x⟩
  dis := r.dis
  own0 := r.own0
  bx := bx
  e1 := r.e1.trans x.ex
  e2 := fun a h0 h1 => by
    have h2 := r.e2 a h0 h1
    by_cases z : H a = none
    · exfalso
      by_cases hb : inb C.b0 a
      · obtain ⟨p, e, q⟩ := hb
        have hp := r.bx.at_ p (r.e4 p e)
        rcases q with q | q
        · rw [q, hp.1] at z; cases z
        · rw [q, hp.2.1] at z; cases z
      · cases q : C.H0 a with
        | none => exact h0 q
        | some o => rw [r.e3 a o q hb] at z; cases z
    · exact x.ko a z h2
  e3 := fun a o h n => x.pr a o (r.e3 a o h n) fun z => by
    rcases r.e5 a z with q | q
    · rw [h] at q; cases q
    · exact n q
  e4 := fun p h => x.bb p (r.e4 p h)
  e5 := fun a h => by
    rcases x.nb a h with q | q
    · exact r.e5 a q
    · refine .inl ?_
      by_cases hb : inb C.b0 a
      · obtain ⟨p, e, q'⟩ := hb
        have hp := r.bx.at_ p (r.e4 p e)
        rcases q' with q' | q'
        · rw [q', hp.1] at q; cases q
        · rw [q', hp.2.1] at q; cases q
      · cases z : C.H0 a with
        | none => rfl
        | some o => rw [r.e3 a o z hb] at q; cases q
theorem Rel.t0 (r : Rel K C sl B F b σ H) {a : Addr} (h : H a = none) : C.H0 a = none := by
  by_cases hb : inb C.b0 a
  · obtain ⟨p, e, q'⟩ := hb
    have hp := r.bx.at_ p (r.e4 p e)
    rcases q' with q' | q'
    · rw [q', hp.1] at h; cases h
    · rw [q', hp.2.1] at h; cases h
  · cases z : C.H0 a with
    | none => rfl
    | some o => rw [r.e3 a o z hb] at h; cases h
theorem Rel.nbx (r : Rel K C sl B F b σ H) {a : Addr} (h : H a = none) : ¬ inb b a := fun ⟨p, e, q⟩ => by
  have hp := r.bx.at_ p e
  rcases q with q | q
  · rw [q, hp.1] at h; cases h
  · rw [q, hp.2.1] at h; cases h
theorem BxR.new {p : Addr} {o : HO} (x : BxR F H b B) (h : H p = none) : BxR F (upd H p o) b B := ⟨fun q e => by
  obtain ⟨h1, h2, h3, h4, h5⟩ := x.at_ q e
  exact ⟨by rw [upd_ne (ne_of_none h1 h)]; exact h1, by rw [upd_ne (ne_of_none h2 h)]; exact h2, h3, h4, h5⟩, x.liv⟩
theorem BxR.fz {p : Addr} {o : HO} (x : BxR F H b B) (h : H p = none) : BxR (upd F p o) (upd H p o) b B := ⟨fun q e => by
  obtain ⟨h1, h2, h3, h4, h5⟩ := x.at_ q e
  exact ⟨by rw [upd_ne (ne_of_none h1 h)]; exact h1, by rw [upd_ne (ne_of_none h2 h)]; exact h2, by rw [upd_ne (ne_of_none h1 h)]; exact h3, by rw [upd_ne (ne_of_none h2 h)]; exact h4, h5⟩, x.liv⟩
/-- a new object, not frozen | frozen at once -/
theorem Rel.new {p : Addr} {o : HO} (r : Rel K C sl B F b σ H) (h : H p = none) : Rel K C sl B F b σ (upd H p o) :=
  r.step (Stp.new h) (r.fro.trans (Ext.new h)) (r.bx.new h)
theorem Rel.fz {p : Addr} {o : HO} (r : Rel K C sl B F b σ H) (h : H p = none) : Rel K C sl B (upd F p o) b σ (upd H p o) :=
  r.step (Stp.fz r.fro h) (fun a u e => by
    by_cases z : a = p
    · subst z; rw [upd_same] at e; rw [upd_same]; exact e
    · rw [upd_ne z] at e; rw [upd_ne z]; exact r.fro a u e) (r.bx.fz h)
end
end Dn

set_option Elab.async false
set_option linter.all false
set_option autoImplicit false
set_option maxRecDepth 100000
set_option maxHeartbeats 1000000
namespace Dn
open PySem PySem.Spec PyProof.Rows L2

/-! ### what is read of the top of a value: an own list too -/
def TopR (K : Frg) (F H : Hp) (b : Bad) (v : V) : PyData → Prop
  | .list xs => ∃ a vs, v = .ref a ∧ H a = some (.lst vs) ∧ ¬ inb b a ∧ Rps K F vs xs
  | d => Rp K F v d
abbrev TopRs (K : Frg) (F H : Hp) (b : Bad) : List V → List PyData → Prop := Paired (fun v d => TopR K F H b v d)
section
variable {K : Frg} {C : Fx} {sl : Sl} {B B' : Bx} {F F' H H' : Hp} {b b' : Bad} {σ : L2.St} {v : V} {d : PyData}
theorem TopR.of (fr : Ext F H) (bx : BxR F H b B) (h : Rp K F v d) : TopR K F H b v d := by
  cases d with
  | list xs =>
    cases h with
    | lst h1 h2 =>
      refine ⟨_, _, rfl, fr _ _ h1, fun ⟨p, e, q⟩ => ?_, h2⟩
      have hp := bx.at_ p e
      rcases q with q | q
      · rw [q, hp.2.2.1] at h1; cases h1
      · rw [q, hp.2.2.2.1] at h1; cases h1
  | _ => exact h
theorem TopR.mono (x : Stp F b H F' b' H') (h : TopR K F H b v d) : TopR K F' H' b' v d := by
  cases d with
  | list xs =>
    obtain ⟨a, vs, e, h1, h2, h3⟩ := h
    refine ⟨a, vs, e, x.pr a _ h1 h2, fun z => ?_, Rps.mono x.ex h3⟩
    rcases x.nb a z with q | q
    · exact h2 q
    · rw [h1] at q; cases q
  | none => exact Rp.mono x.ex h
  | bool _ => exact Rp.mono x.ex h
  | int _ => exact Rp.mono x.ex h
  | str _ => exact Rp.mono x.ex h
  | tuple _ => exact Rp.mono x.ex h
  | dict _ => exact Rp.mono x.ex h
theorem TopR.dp (fr : Ext F H) (h : TopR K F H b v d) : Dp K H v d := by
  cases d with
  | list xs =>
    obtain ⟨a, vs, e, h1, h2, h3⟩ := h
    subst e
    exact .lst (SqL.of h1) (Rps.dp (Rps.mono fr h3))
  | none => exact (Rp.mono fr h).dp
  | bool _ => exact (Rp.mono fr h).dp
  | int _ => exact (Rp.mono fr h).dp
  | str _ => exact (Rp.mono fr h).dp
  | tuple _ => exact (Rp.mono fr h).dp
  | dict _ => exact (Rp.mono fr h).dp
theorem TopRs.mono (x : Stp F b H F' b' H') : ∀ {vs : List V} {ds : List PyData}, TopRs K F H b vs ds → TopRs K F' H' b' vs ds
  | _, _, .nil => .nil
  | _, _, .cons h t => .cons (TopR.mono x h) (TopRs.mono x t)
end
theorem top_int {K : Frg} {F H : Hp} {b : Bad} {v : V} {i : Int} (h : TopR K F H b v (.int i)) : v = .int i := by
  have h' : Rp K F v (.int i) := h
  cases h'
  rfl
theorem top_bool {K : Frg} {F H : Hp} {b : Bad} {v : V} {i : Bool} (h : TopR K F H b v (.bool i)) : v = .bl i := by
  have h' : Rp K F v (.bool i) := h
  cases h'
  rfl
theorem top_str {K : Frg} {F H : Hp} {b : Bad} {v : V} {i : Str} (h : TopR K F H b v (.str i)) : v = .str i := by
  have h' : Rp K F v (.str i) := h
  cases h'
  rfl
theorem top_none {K : Frg} {F H : Hp} {b : Bad} {v : V} (h : TopR K F H b v .none) : v = .non := by
  have h' : Rp K F v .none := h
  cases h'
  rfl
theorem top_tup {K : Frg} {F H : Hp} {b : Bad} {v : V} {ds : List PyData} (fr : Ext F H) (h : TopR K F H b v (.tuple ds)) : ∃ a vs, v = .ref a ∧ SqT K H a vs ∧ Rps K F vs ds := by
  have h' : Rp K F v (.tuple ds) := h
  cases h' with
  | tup h1 h2 => exact ⟨_, _, rfl, fr.sqT h1, h2⟩

/-! ### new objects -/
inductive Al : Hp → Hp → Hp → Hp → Prop
  | refl {F H : Hp} : Al F H F H
  | fz {F H F' H' : Hp} {p : Addr} {o : HO} : H p = none → Al (upd F p o) (upd H p o) F' H' → Al F H F' H'
  | nw {F H F' H' : Hp} {p : Addr} {o : HO} : H p = none → Al F (upd H p o) F' H' → Al F H F' H'
theorem Al.rel {K : Frg} {C : Fx} {sl : Sl} {B : Bx} {b : Bad} {σ : L2.St} {F H F' H' : Hp} (x : Al F H F' H') : Rel K C sl B F b σ H → Rel K C sl B F' b σ H' ∧ Stp F b H F' b H' := by
  induction x with
  | refl => exact fun r => ⟨r, Stp.refl⟩
  | fz h _ ih => exact fun r => let ⟨r2, s2⟩ := ih (r.fz h); ⟨r2, (Stp.fz r.fro h).trans s2⟩
  | nw h _ ih => exact fun r => let ⟨r2, s2⟩ := ih (r.new h); ⟨r2, (Stp.new h).trans s2⟩
theorem Al.one {F H : Hp} {p : Addr} {o : HO} (h : H p = none) : Al F H (upd F p o) (upd H p o) := .fz h .refl

/-! ### readings by denotations -/
abbrev DE := Sl → Bx → Option (PyData × Bx)
abbrev DV := Sl → Bx → Option (Sv × Bx)
abbrev DT := Sl → Bx → Option (Bool × Bx)
abbrev DA := Sl → Bx → Option (List Sv × Bx)
abbrev DL := Sl → Bx → Option (List PyData × Bx)
def liftE (K : Frg) (C : Fx) (d : DE) : TE := fun σ H Q => ∃ sl B F b r B', Rel K C sl B F b σ H ∧ d sl B = some (r, B') ∧ ∀ v H' F' b', Rel K C sl B' F' b' σ H' → Stp F b H F' b' H' → Rp K F' v r → Q v H'
def liftO (K : Frg) (C : Fx) (d : DE) : TE := fun σ H Q => ∃ sl B F b r B', Rel K C sl B F b σ H ∧ d sl B = some (r, B') ∧ ∀ v H' F' b', Rel K C sl B' F' b' σ H' → Stp F b H F' b' H' → TopR K F' H' b' v r → Q v H'
def liftV (K : Frg) (C : Fx) (d : DV) : TE := fun σ H Q => ∃ sl B F b r B', Rel K C sl B F b σ H ∧ d sl B = some (r, B') ∧ ∀ v H' F' b', Rel K C sl B' F' b' σ H' → Stp F b H F' b' H' → SvR K F' H' b' v r → Q v H'
def liftT (K : Frg) (C : Fx) (d : DT) : TT := fun σ H Q => ∃ sl B F b r B', Rel K C sl B F b σ H ∧ d sl B = some (r, B') ∧ ∀ H' F' b', Rel K C sl B' F' b' σ H' → Stp F b H F' b' H' → Q r H'
def liftA (K : Frg) (C : Fx) (d : DA) : TA := fun σ H Q => ∃ sl B F b r B', Rel K C sl B F b σ H ∧ d sl B = some (r, B') ∧ ∀ v H' F' b', Rel K C sl B' F' b' σ H' → Stp F b H F' b' H' → SvsR K F' H' b' v r → Q v H'
def liftQ (K : Frg) (C : Fx) (d : DL) : TA := fun σ H Q => ∃ sl B F b r B', Rel K C sl B F b σ H ∧ d sl B = some (r, B') ∧ ∀ v H' F' b', Rel K C sl B' F' b' σ H' → Stp F b H F' b' H' → TopRs K F' H' b' v r → Q v H'
/-- deep operands, for a display -/
def liftD (K : Frg) (C : Fx) (d : DL) : TA := fun σ H Q => ∃ sl B F b r B', Rel K C sl B F b σ H ∧ d sl B = some (r, B') ∧ ∀ v H' F' b', Rel K C sl B' F' b' σ H' → Stp F b H F' b' H' → Rps K F' v r → Q v H'
/-- a new list that nobody else holds -/
def liftL (K : Frg) (C : Fx) (d : DL) : TE := fun σ H Q => ∃ sl B F b r B', Rel K C sl B F b σ H ∧ d sl B = some (r, B') ∧ ∀ a vs H' F' b', Rel K C sl B' F' b' σ H' → Stp F b H F' b' H' → H a = none → F' a = none → ¬ inb b' a → H' a = some (.lst vs) → Rps K F' vs r → Q (.ref a) H'

section
variable {X : Cx}
theorem imp_e {e : Expr} {t t' : TE} (h : ∀ σ H Q, t' σ H Q → t σ H Q) (p : PE X e t) : PE X e t' := ⟨fun pins s σ H Q I w => p.run pins s σ H Q I (h σ H Q w)⟩
theorem imp_t {e : Expr} {t t' : TT} (h : ∀ σ H Q, t' σ H Q → t σ H Q) (p : PT X e t) : PT X e t' := ⟨fun pins s σ H Q I w => p.run pins s σ H Q I (h σ H Q w)⟩
theorem imp_w {e : Expr} {t t' : TT} (h : ∀ σ H Q, t' σ H Q → t σ H Q) (p : PW X e t) : PW X e t' := ⟨fun wh pins s σ H Q I w => p.run wh pins s σ H Q I (h σ H Q w)⟩
theorem imp_ts {e : List Expr} {t t' : TT} (h : ∀ σ H Q, t' σ H Q → t σ H Q) (p : PTs X e t) : PTs X e t' := ⟨fun pins s σ H Q I w => p.run pins s σ H Q I (h σ H Q w)⟩
theorem imp_a {es : List Expr} {t t' : TA} (h : ∀ σ H Q, t' σ H Q → t σ H Q) (p : PA X es t) : PA X es t' := ⟨fun pos pins s σ H Q I w => p.run pos pins s σ H Q I (h σ H Q w)⟩
theorem imp_s {e : Stmt} {t t' : TS} (h : ∀ D σ H, t' D σ H → t D σ H) (p : PS X e t) : PS X e t' := ⟨fun pins s σ H D I w => p.run pins s σ H D I (h D σ H w)⟩
theorem imp_ss {e : List Stmt} {t t' : TS} (h : ∀ D σ H, t' D σ H → t D σ H) (p : PSs X e t) : PSs X e t' := ⟨fun pins s σ H D I w => p.run pins s σ H D I (h D σ H w)⟩
theorem imp_g {e : Expr} {t t' : TG} (h : ∀ v σ H Q, t' v σ H Q → t v σ H Q) (p : PG X e t) : PG X e t' := ⟨fun pins s σ H v u Q I r w => p.run pins s σ H v u Q I r (h v σ H Q w)⟩
end
theorem bnd {α β : Type} {o : Option α} {f : α → Option β} {z : β} (h : o.bind f = some z) : ∃ x, o = some x ∧ f x = some z := Option.bind_eq_some_iff.mp h
theorem mpd {α β : Type} {o : Option α} {f : α → β} {z : β} (h : o.map f = some z) : ∃ x, o = some x ∧ f x = z := Option.map_eq_some_iff.mp h

/-! ### names, constants, operands -/
def dVar (i : Nat) : DE := fun sl B => match sl[i]? with
  | some (some (.dat d)) => some (d, B)
  | _ => none
def dVarO (i : Nat) : DE := fun sl B => match sl[i]? with
  | some (some (.dat d)) => some (d, B)
  | some (some (.own xs)) => some (.list xs, B)
  | _ => none
def dVarV (i : Nat) : DV := fun sl B => match sl[i]? with
  | some (some (.own _)) => none
  | some (some s) => some (s, B)
  | _ => none
def dC (d : PyData) : DE := fun _ B => some (d, B)
section
variable {X : Cx} {C : Fx}
theorem e_var (i : Nat) {x : Str} {pos : Pos} (hN : X.N[i]? = some x := by rfl) (hv : Vis X.env.scope x := by first | exact Or.inl rfl | exact Or.inr (Or.inl rfl) | exact Or.inr (Or.inr rfl)) (hd : (x == ("__debug__" : Str)) = false := by decide)
    (hcd : (x == ("__classdict__" : Str)) = false := by decide) : PE X (.Name x pos) (liftE X.K C (dVar i)) :=
  imp_e (fun σ H Q ⟨sl, B, F, b, r, B', R, e, k⟩ => by
    unfold dVar at e
    split at e
    · rename_i d hs
      cases e
      obtain ⟨v, hv, q⟩ := R.slt i _ hs
      exact ⟨v, hv, k v H F b R Stp.refl q⟩
    · cases e) (pe_var hN hv hd hcd)
theorem o_var (i : Nat) {x : Str} {pos : Pos} (hN : X.N[i]? = some x := by rfl) (hv : Vis X.env.scope x := by first | exact Or.inl rfl | exact Or.inr (Or.inl rfl) | exact Or.inr (Or.inr rfl)) (hd : (x == ("__debug__" : Str)) = false := by decide)
    (hcd : (x == ("__classdict__" : Str)) = false := by decide) : PE X (.Name x pos) (liftO X.K C (dVarO i)) :=
  imp_e (fun σ H Q ⟨sl, B, F, b, r, B', R, e, k⟩ => by
    unfold dVarO at e
    split at e
    · rename_i d hs
      cases e
      obtain ⟨v, hv, q⟩ := R.slt i _ hs
      exact ⟨v, hv, k v H F b R Stp.refl (TopR.of R.fro R.bx q)⟩
    · rename_i xs hs
      cases e
      obtain ⟨v, hv, a, vs, e1, h1, h2, h3, h4⟩ := R.slt i _ hs
      exact ⟨v, hv, k v H F b R Stp.refl ⟨a, vs, e1, h1, h4, h2⟩⟩
    · cases e) (pe_var hN hv hd hcd)
theorem v_var (i : Nat) {x : Str} {pos : Pos} (hN : X.N[i]? = some x := by rfl) (hv : Vis X.env.scope x := by first | exact Or.inl rfl | exact Or.inr (Or.inl rfl) | exact Or.inr (Or.inr rfl)) (hd : (x == ("__debug__" : Str)) = false := by decide)
    (hcd : (x == ("__classdict__" : Str)) = false := by decide) : PE X (.Name x pos) (liftV X.K C (dVarV i)) :=
  imp_e (fun σ H Q ⟨sl, B, F, b, r, B', R, e, k⟩ => by
    unfold dVarV at e
    split at e
    · cases e
    · rename_i s hn hs
      cases e
      obtain ⟨v, hv, q⟩ := R.slt i _ hs
      exact ⟨v, hv, k v H F b R Stp.refl q⟩
    · cases e) (pe_var hN hv hd hcd)
theorem c_of {e : Expr} {v : V} {d : PyData} (h : PE X e (tC v)) (r : ∀ F, Rp X.K F v d) : PE X e (liftE X.K C (dC d)) :=
  imp_e (fun σ H Q ⟨sl, B, F, b, rr, B', R, e, k⟩ => by
    cases e
    exact k v H F b R Stp.refl (r F)) h
theorem e_int {i j pos} : PE X (.Constant (.int i) j pos) (liftE X.K C (dC (.int i))) := c_of pe_int fun _ => .int i
theorem e_bl {i j pos} : PE X (.Constant (.bool i) j pos) (liftE X.K C (dC (.bool i))) := c_of pe_bl fun _ => .bl i
theorem e_non {j pos} : PE X (.Constant .none j pos) (liftE X.K C (dC .none)) := c_of pe_non fun _ => .non
theorem e_str {x j pos} : PE X (.Constant (.str x) j pos) (liftE X.K C (dC (.str x))) := c_of pe_str fun _ => .str x
/-- a module's constant -/
theorem e_glob {x : Str} {v : V} {u : Value} {d : PyData} {pos : Pos} (hm : X.mg x = some u) (r : RelV v u) (q : ∀ F, Rp X.K F v d) (hg : Gl X x := by rfl) (hd : (x == ("__debug__" : Str)) = false := by decide) : PE X (.Name x pos) (liftE X.K C (dC d)) :=
  c_of (pe_glob hg hm r hd) q
/-- a value as an operand, as an argument -/
theorem o_of {e : Expr} {d : DE} (h : PE X e (liftE X.K C d)) : PE X e (liftO X.K C d) :=
  imp_e (fun σ H Q ⟨sl, B, F, b, r, B', R, e, k⟩ => ⟨sl, B, F, b, r, B', R, e, fun v H' F' b' R' S' q => k v H' F' b' R' S' (TopR.of R'.fro R'.bx q)⟩) h
def dV (d : DE) : DV := fun sl B => (d sl B).map fun p => (.dat p.1, p.2)
theorem v_of {e : Expr} {d : DE} (h : PE X e (liftE X.K C d)) : PE X e (liftV X.K C (dV d)) :=
  imp_e (fun σ H Q ⟨sl, B, F, b, r, B', R, e, k⟩ => by
    obtain ⟨⟨x, B1⟩, e1, e2⟩ := mpd e
    cases e2
    exact ⟨sl, B, F, b, x, B1, R, e1, fun v H' F' b' R' S' q => k v H' F' b' R' S' q⟩) h
/-- a new list, frozen -/
def dF (d : DL) : DE := fun sl B => (d sl B).map fun p => (.list p.1, p.2)
theorem Rel.freeze {K : Frg} {C : Fx} {sl : Sl} {B B' : Bx} {F F' H H' : Hp} {b b' : Bad} {σ : L2.St} {a : Addr} {vs : List V} (R : Rel K C sl B F b σ H) (R' : Rel K C sl B' F' b' σ H') (S : Stp F b H F' b' H') (h0 : H a = none) (h1 : F' a = none) (h2 : ¬ inb b' a) (h3 : H' a = some (.lst vs)) :
    Rel K C sl B' (upd F' a (.lst vs)) b' σ H' ∧ Stp F b H (upd F' a (.lst vs)) b' H' := by
  have ex : Ext F' (upd F' a (.lst vs)) := Ext.new h1
  have S' : Stp F b H (upd F' a (.lst vs)) b' H' :=
    ⟨S.ex.trans ex, S.pr, fun c hc hn => by
      rw [upd_ne (fun z => by subst z; exact hc h0)]
      exact S.ko c hc hn, S.bb, S.nb, S.tr⟩
  refine ⟨R.step S' (fun c o hc => ?_) ⟨fun p e => ?_, R'.bx.liv⟩, S'⟩
  · by_cases z : c = a
    · subst z; rw [upd_same] at hc; rw [h3]; exact hc
    · rw [upd_ne z] at hc; exact R'.fro c o hc
  · obtain ⟨k1, k2, k3, k4, k5⟩ := R'.bx.at_ p e
    exact ⟨k1, k2, by rw [upd_ne (fun z => h2 ⟨p, e, .inl z.symm⟩)]; exact k3, by rw [upd_ne (fun z => h2 ⟨p, e, .inr z.symm⟩)]; exact k4, k5⟩
theorem f_of {e : Expr} {d : DL} (h : PE X e (liftL X.K C d)) : PE X e (liftE X.K C (dF d)) :=
  imp_e (fun σ H Q ⟨sl, B, F, b, r, B', R, e, k⟩ => by
    obtain ⟨⟨xs, B1⟩, e1, e2⟩ := mpd e
    cases e2
    refine ⟨sl, B, F, b, xs, B1, R, e1, fun a vs H' F' b' R' S' h0 h1 h2 h3 h4 => ?_⟩
    obtain ⟨R2, S2⟩ := R.freeze R' S' h0 h1 h2 h3
    exact k _ _ _ _ R2 S2 (.lst upd_same (Rps.mono (Ext.new h1) h4))) h
end

/-! ### two operands -/
def dOp (f : PyData → PyData → Option PyData) (da db : DE) : DE := fun sl B => (da sl B).bind fun p => (db sl p.2).bind fun q => (f p.1 q.1).map fun z => (z, q.2)
def dTst (f : PyData → PyData → Option Bool) (da db : DE) : DT := fun sl B => (da sl B).bind fun p => (db sl p.2).bind fun q => (f p.1 q.1).map fun z => (z, q.2)
def dOpB (f : PyData → PyData → Option Bool) (da db : DE) : DE := fun sl B => (da sl B).bind fun p => (db sl p.2).bind fun q => (f p.1 q.1).map fun z => (.bool z, q.2)
theorem two_o {K : Frg} {C : Fx} {sl : Sl} {B B1 B2 : Bx} {F H : Hp} {b : Bad} {σ : L2.St} {da db : DE} {x y : PyData} {Q : V → V → Hp → Prop} (R : Rel K C sl B F b σ H) (ea : da sl B = some (x, B1)) (eb : db sl B1 = some (y, B2))
    (k : ∀ v u H' F' b', Rel K C sl B2 F' b' σ H' → Stp F b H F' b' H' → TopR K F' H' b' v x → TopR K F' H' b' u y → Q v u H') : liftO K C da σ H fun v H1 => liftO K C db σ H1 fun u H2 => Q v u H2 :=
  ⟨sl, B, F, b, x, B1, R, ea, fun v H1 F1 b1 R1 S1 q1 => ⟨sl, B1, F1, b1, y, B2, R1, eb, fun u H2 F2 b2 R2 S2 q2 => k v u H2 F2 b2 R2 (S1.trans S2) (q1.mono S2) q2⟩⟩
/-- by values: an operator that gives data | a truth value -/
def ROp (K : Frg) (r : R2) (f : PyData → PyData → Option PyData) : Prop := ∀ x y z, f x y = some z → ∀ (F H : Hp) (b : Bad) (v u : V) (Q : VK), Ext F H → TopR K F H b v x → TopR K F H b u y → (∀ w F' H', Al F H F' H' → Rp K F' w z → Q w H') → r v u H Q
def RTs (K : Frg) (r : R2) (f : PyData → PyData → Option Bool) : Prop := ∀ x y z, f x y = some z → ∀ (F H : Hp) (b : Bad) (v u : V) (Q : VK), Ext F H → TopR K F H b v x → TopR K F H b u y → Q (.bl z) H → r v u H Q
section
variable {X : Cx} {C : Fx} {a c : Expr} {da db : DE} {pos : Pos}
theorem op_imp {r : R2} {f : PyData → PyData → Option PyData} (hr : ROp X.K r f) : ∀ σ H Q, liftE X.K C (dOp f da db) σ H Q → tOp r (liftO X.K C da) (liftO X.K C db) σ H Q :=
  fun σ H Q ⟨sl, B, F, b, rr, B', R, e, k⟩ => by
    obtain ⟨⟨x, B1⟩, e1, e⟩ := bnd e
    obtain ⟨⟨y, B2⟩, e2, e⟩ := bnd e
    obtain ⟨z, e3, e⟩ := mpd e
    cases e
    refine two_o R e1 e2 fun v u H' F' b' R' S' qx qy => ?_
    refine hr x y _ e3 F' H' b' v u Q R'.fro qx qy fun w F2 H2 al rp => ?_
    obtain ⟨R2, S2⟩ := al.rel R'
    exact k w H2 F2 b' R2 (S'.trans S2) rp
theorem ts_imp {r : R2} {f : PyData → PyData → Option Bool} (hr : RTs X.K r f) : ∀ σ H Q, liftT X.K C (dTst f da db) σ H Q → tTest (tOp r (liftO X.K C da) (liftO X.K C db)) σ H Q :=
  fun σ H Q ⟨sl, B, F, b, rr, B', R, e, k⟩ => by
    obtain ⟨⟨x, B1⟩, e1, e⟩ := bnd e
    obtain ⟨⟨y, B2⟩, e2, e⟩ := bnd e
    obtain ⟨z, e3, e⟩ := mpd e
    cases e
    refine two_o R e1 e2 fun v u H' F' b' R' S' qx qy => ?_
    exact hr x y _ e3 F' H' b' v u _ R'.fro qx qy ⟨_, rfl, k H' F' b' R' S'⟩
theorem tb_imp {r : R2} {f : PyData → PyData → Option Bool} (hr : RTs X.K r f) : ∀ σ H Q, liftE X.K C (dOpB f da db) σ H Q → tOp r (liftO X.K C da) (liftO X.K C db) σ H Q :=
  fun σ H Q ⟨sl, B, F, b, rr, B', R, e, k⟩ => by
    obtain ⟨⟨x, B1⟩, e1, e⟩ := bnd e
    obtain ⟨⟨y, B2⟩, e2, e⟩ := bnd e
    obtain ⟨z, e3, e⟩ := mpd e
    cases e
    refine two_o R e1 e2 fun v u H' F' b' R' S' qx qy => ?_
    exact hr x y _ e3 F' H' b' v u _ R'.fro qx qy (k _ H' F' b' R' S' (.bl _))
theorem e_op {op : Operator} {r : R2} {f : PyData → PyData → Option PyData} (ho : OpR X (binaryOp op) r) (hr : ROp X.K r f) (ha : PE X a (liftO X.K C da)) (hb : PE X c (liftO X.K C db)) : PE X (.BinOp a op c pos) (liftE X.K C (dOp f da db)) :=
  imp_e (op_imp hr) (pe_op ho ha hb)
theorem t_cmp {op : CmpOp} {r : R2} {f : PyData → PyData → Option Bool} (ho : OpR X (compareOp op) r) (hr : RTs X.K r f) (hm : behindInMarks op c = false) (ha : PE X a (liftO X.K C da)) (hb : PE X c (liftO X.K C db)) : PT X (.Compare a [op] [c] pos) (liftT X.K C (dTst f da db)) :=
  imp_t (ts_imp hr) (pt_cmpR ho ha hb hm)
theorem e_cmp {op : CmpOp} {r : R2} {f : PyData → PyData → Option Bool} (ho : OpR X (compareOp op) r) (hr : RTs X.K r f) (hm : behindInMarks op c = false) (ha : PE X a (liftO X.K C da)) (hb : PE X c (liftO X.K C db)) : PE X (.Compare a [op] [c] pos) (liftE X.K C (dOpB f da db)) :=
  imp_e (tb_imp hr) (pe_cmpR ho ha hb hm)
end

/-! ### the operators by values -/
def mulOk (i j : Int) : Bool := decide ((-(2 ^ 64) < i ∧ i < 2 ^ 64) ∨ (-(2 ^ 64) < j ∧ j < 2 ^ 64)) || decide (i.natAbs.log2 + j.natAbs.log2 < 1000000)
def pyAdd : PyData → PyData → Option PyData
  | .int i, .int j => some (.int (i + j))
  | .str x, .str y => if x.length + y.length ≤ sizeLine then some (.str (x ++ y)) else none
  | .list xs, .list ys => if xs.length + ys.length ≤ sizeLine then some (.list (xs ++ ys)) else none
  | .tuple xs, .tuple ys => if xs.length + ys.length ≤ sizeLine then some (.tuple (xs ++ ys)) else none
  | _, _ => none
def pySub : PyData → PyData → Option PyData
  | .int i, .int j => some (.int (i - j))
  | _, _ => none
def pyMul : PyData → PyData → Option PyData
  | .int i, .int j => if mulOk i j then some (.int (i * j)) else none
  | _, _ => none
def pyDiv : PyData → PyData → Option PyData
  | .int i, .int j => if 0 < j ∧ j.natAbs.log2 < 9000 then some (.int (i / j)) else none
  | _, _ => none
def pyMod : PyData → PyData → Option PyData
  | .int i, .int j => if 0 < j then some (.int (i % j)) else none
  | _, _ => none
def pyPow : PyData → PyData → Option PyData
  | .int i, .int j => if 0 ≤ j ∧ j ≤ 1000000 ∧ i.natAbs < 2 ^ 64 then some (.int (i ^ j.toNat)) else none
  | _, _ => none
def pyShl : PyData → PyData → Option PyData
  | .int i, .int j => if 0 ≤ j ∧ j ≤ 1000000 ∧ i.natAbs < 2 ^ 64 then some (.int (i * 2 ^ j.toNat)) else none
  | _, _ => none
def pyShr : PyData → PyData → Option PyData
  | .int i, .int j => if 0 ≤ j then some (.int (i / 2 ^ j.toNat)) else none
  | _, _ => none
def pyAnd : PyData → PyData → Option PyData
  | .int i, .int j => some (.int (Builtin.bitAnd i j))
  | _, _ => none
section
variable {X : Cx}
def rMulA : R2 := fun x y H Q => rI CMul (fun i j => .int (i * j)) x y H Q ∨ rI CMulW (fun i j => .int (i * j)) x y H Q
theorem op_mulA : OpR X (binaryOp .Mult) rMulA := op_mul.or op_mulW
theorem r_mul : ROp X.K rMulA pyMul := fun x y z e F H b v u Q fr qx qy k => by
  unfold pyMul at e
  split at e
  · rename_i i j
    have ex := top_int qx
    have ey := top_int qy
    split at e
    · rename_i hc
      cases e
      unfold mulOk at hc
      rw [Bool.or_eq_true, decide_eq_true_eq, decide_eq_true_eq] at hc
      have q : Q (.int (i * j)) H := k _ _ _ .refl (.int _)
      rcases hc with hc | hc
      · exact .inl ⟨i, j, ex, ey, hc, q⟩
      · exact .inr ⟨i, j, ex, ey, hc, q⟩
    · cases e
  · cases e
theorem r_int0 {g : Int → Int → Int} {f : PyData → PyData → Option PyData} (hf : ∀ x y z, f x y = some z → ∃ i j, x = .int i ∧ y = .int j ∧ z = .int (g i j)) : ROp X.K (rI0 fun i j => .int (g i j)) f := fun x y z e F H b v u Q fr qx qy k => by
  obtain ⟨i, j, rfl, rfl, rfl⟩ := hf x y z e
  exact ⟨i, j, top_int qx, top_int qy, k _ _ _ .refl (.int _)⟩
theorem r_intC {Cc : Int → Int → Prop} {g : Int → Int → Int} {f : PyData → PyData → Option PyData} (hf : ∀ x y z, f x y = some z → ∃ i j, x = .int i ∧ y = .int j ∧ Cc i j ∧ z = .int (g i j)) : ROp X.K (rI Cc fun i j => .int (g i j)) f := fun x y z e F H b v u Q fr qx qy k => by
  obtain ⟨i, j, rfl, rfl, hc, rfl⟩ := hf x y z e
  exact ⟨i, j, top_int qx, top_int qy, hc, k _ _ _ .refl (.int _)⟩
theorem r_sub : ROp X.K (rI0 fun i j => .int (i - j)) pySub := r_int0 fun x y z e => by
  unfold pySub at e
  split at e
  · cases e; exact ⟨_, _, rfl, rfl, rfl⟩
  · cases e
theorem r_and : ROp X.K (rI0 fun i j => .int (Builtin.bitAnd i j)) pyAnd := r_int0 fun x y z e => by
  unfold pyAnd at e
  split at e
  · cases e; exact ⟨_, _, rfl, rfl, rfl⟩
  · cases e
theorem r_div : ROp X.K (rI CDivW fun i j => .int (i / j)) pyDiv := r_intC fun x y z e => by
  unfold pyDiv at e
  split at e
  · split at e
    · rename_i h
      cases e; exact ⟨_, _, rfl, rfl, h, rfl⟩
    · cases e
  · cases e
theorem r_mod : ROp X.K (rI (fun _ j => 0 < j) fun i j => .int (i % j)) pyMod := r_intC fun x y z e => by
  unfold pyMod at e
  split at e
  · split at e
    · rename_i h
      cases e; exact ⟨_, _, rfl, rfl, h, rfl⟩
    · cases e
  · cases e
theorem r_pow : ROp X.K (rI CPow fun i j => .int (i ^ j.toNat)) pyPow := r_intC fun x y z e => by
  unfold pyPow at e
  split at e
  · split at e
    · rename_i h
      cases e; exact ⟨_, _, rfl, rfl, h, rfl⟩
    · cases e
  · cases e
theorem r_shl : ROp X.K (rI CPow fun i j => .int (i * 2 ^ j.toNat)) pyShl := r_intC fun x y z e => by
  unfold pyShl at e
  split at e
  · split at e
    · rename_i h
      cases e; exact ⟨_, _, rfl, rfl, h, rfl⟩
    · cases e
  · cases e
theorem r_shr : ROp X.K (rI (fun _ j => 0 ≤ j) fun i j => .int (i / 2 ^ j.toNat)) pyShr := r_intC fun x y z e => by
  unfold pyShr at e
  split at e
  · split at e
    · rename_i h
      cases e; exact ⟨_, _, rfl, rfl, h, rfl⟩
    · cases e
  · cases e
def rAddA (K : Frg) : R2 := fun x y H Q => (rI0 (fun i j => .int (i + j)) x y H Q ∨ (∃ i j, x = .str i ∧ y = .str j ∧ i.length + j.length ≤ sizeLine ∧ Q (.str (i ++ j)) H)) ∨ (rCat x y H Q ∨ rCatA K x y H Q)
theorem op_addA : OpR X (binaryOp .Add) (rAddA X.K) := (op_add.or op_add_str).or (op_cat.or op_catA)
theorem r_add : ROp X.K (rAddA X.K) pyAdd := fun x y z e F H b v u Q fr qx qy k => by
  unfold pyAdd at e
  split at e
  · cases e
    exact .inl (.inl ⟨_, _, top_int qx, top_int qy, k _ _ _ .refl (.int _)⟩)
  · split at e
    · rename_i h
      cases e
      exact .inl (.inr ⟨_, _, top_str qx, top_str qy, h, k _ _ _ .refl (.str _)⟩)
    · cases e
  · split at e
    · rename_i h
      cases e
      obtain ⟨p, vs, e1, h1, _, r1⟩ := qx
      obtain ⟨q, us, e2, h2, _, r2⟩ := qy
      refine .inr (.inl ⟨p, q, vs, us, e1, e2, h1, h2, by rw [r1.length, r2.length]; exact h, fun n hn => ?_⟩)
      exact k _ _ _ (.one hn) (.lst upd_same (Rps.mono (Ext.new (not_in_F fr hn)) (Rps.append r1 r2)))
    · cases e
  · split at e
    · rename_i h
      cases e
      obtain ⟨p, vs, e1, h1, r1⟩ := top_tup fr qx
      obtain ⟨q, us, e2, h2, r2⟩ := top_tup fr qy
      have ln1 := r1.length
      have ln2 := r2.length
      refine .inr (.inr ⟨p, q, vs, us, e1, e2, h1, h2, by rw [r1.length, r2.length]; exact h, fun z => ?_, fun _ z => ?_, fun _ _ n hn => ?_⟩)
      · subst z
        cases r1
        rw [← e2]
        exact k _ _ _ .refl qy
      · subst z
        cases r2
        rw [← e1]
        refine k _ _ _ .refl ?_
        rw [List.append_nil]
        exact qx
      · exact k _ _ _ (.one hn) (.tup (SqT.of upd_same) (Rps.mono (Ext.new (not_in_F fr hn)) (Rps.append r1 r2)))
    · cases e
  · cases e
end
end Dn

set_option Elab.async false
set_option linter.all false
set_option autoImplicit false
set_option maxRecDepth 100000
set_option maxHeartbeats 1000000
namespace Dn
open PySem PySem.Spec PyProof.Rows L2

/-! ### comparisons -/
def pyEq (x y : PyData) : Option Bool := if SeqAt.shaped x = true ∧ SeqAt.shaped y = true then some (PyData.eqv x y) else none
def pyNe (x y : PyData) : Option Bool := if SeqAt.shaped x = true ∧ SeqAt.shaped y = true then some (!PyData.eqv x y) else none
def pyLt : PyData → PyData → Option Bool
  | .int i, .int j => some (decide (i < j))
  | _, _ => none
def pyLe : PyData → PyData → Option Bool
  | .int i, .int j => some (decide (i ≤ j))
  | _, _ => none
def pyGt : PyData → PyData → Option Bool
  | .int i, .int j => some (decide (j < i))
  | _, _ => none
def pyGe : PyData → PyData → Option Bool
  | .int i, .int j => some (decide (j ≤ i))
  | _, _ => none
def isNon : PyData → Bool
  | .none => true
  | _ => false
def pyIs : PyData → PyData → Option Bool
  | x, .none => some (isNon x)
  | .bool a, .bool b => some (decide (a = b))
  | _, _ => none
def pyIsNot : PyData → PyData → Option Bool
  | x, .none => some (!isNon x)
  | .bool a, .bool b => some (!decide (a = b))
  | _, _ => none
theorem isNon_top {K : Frg} {F H : Hp} {b : Bad} {v : V} {d : PyData} (h : TopR K F H b v d) : decide (v = .non) = isNon d := by
  cases d with
  | none => rw [top_none h]; rfl
  | bool _ => rw [top_bool h]; rfl
  | int _ => rw [top_int h]; rfl
  | str _ => rw [top_str h]; rfl
  | list _ =>
    obtain ⟨a, vs, e, _⟩ := h
    rw [e]; rfl
  | tuple _ =>
    have h' : Rp K F v (.tuple _) := h
    cases h'; rfl
  | dict _ =>
    have h' : Rp K F v (.dict _) := h
    cases h'
section
variable {X : Cx}
theorem r_eq : RTs X.K (rEqD X.K) pyEq := fun x y z e F H b v u Q fr qx qy k => by
  unfold pyEq at e
  split at e
  · rename_i h
    cases e
    exact ⟨x, y, qx.dp fr, qy.dp fr, h.1, h.2, k⟩
  · cases e
theorem r_ne : RTs X.K (rNeD X.K) pyNe := fun x y z e F H b v u Q fr qx qy k => by
  unfold pyNe at e
  split at e
  · rename_i h
    cases e
    exact ⟨x, y, qx.dp fr, qy.dp fr, h.1, h.2, k⟩
  · cases e
theorem r_cmpI {g : Int → Int → Bool} {f : PyData → PyData → Option Bool} (hf : ∀ x y z, f x y = some z → ∃ i j, x = .int i ∧ y = .int j ∧ z = g i j) : RTs X.K (rI0 fun i j => .bl (g i j)) f := fun x y z e F H b v u Q fr qx qy k => by
  obtain ⟨i, j, rfl, rfl, rfl⟩ := hf x y z e
  exact ⟨i, j, top_int qx, top_int qy, k⟩
theorem r_lt : RTs X.K (rI0 fun i j => .bl (decide (i < j))) pyLt := r_cmpI (g := fun i j => decide (i < j)) fun x y z e => by
  unfold pyLt at e
  split at e
  · cases e; exact ⟨_, _, rfl, rfl, rfl⟩
  · cases e
theorem r_le : RTs X.K (rI0 fun i j => .bl (decide (i ≤ j))) pyLe := r_cmpI (g := fun i j => decide (i ≤ j)) fun x y z e => by
  unfold pyLe at e
  split at e
  · cases e; exact ⟨_, _, rfl, rfl, rfl⟩
  · cases e
theorem r_gt : RTs X.K (rI0 fun i j => .bl (decide (j < i))) pyGt := r_cmpI (g := fun i j => decide (j < i)) fun x y z e => by
  unfold pyGt at e
  split at e
  · cases e; exact ⟨_, _, rfl, rfl, rfl⟩
  · cases e
theorem r_ge : RTs X.K (rI0 fun i j => .bl (decide (j ≤ i))) pyGe := r_cmpI (g := fun i j => decide (j ≤ i)) fun x y z e => by
  unfold pyGe at e
  split at e
  · cases e; exact ⟨_, _, rfl, rfl, rfl⟩
  · cases e
def rIsA : R2 := fun x y H Q => (y = .non ∧ Q (.bl (decide (x = .non))) H) ∨ rIsB x y H Q
def rIsNotA : R2 := fun x y H Q => (y = .non ∧ Q (.bl (!decide (x = .non))) H) ∨ rNotB x y H Q
theorem op_isA : OpR X (compareOp .Is) rIsA := op_isN.or op_isBl
theorem op_isnotA : OpR X (compareOp .IsNot) rIsNotA := op_notN.or op_notBl
theorem r_is : RTs X.K rIsA pyIs := fun x y z e F H b v u Q fr qx qy k => by
  unfold pyIs at e
  split at e
  · cases e
    exact .inl ⟨top_none qy, by rw [isNon_top qx]; exact k⟩
  · cases e
    exact .inr ⟨_, _, top_bool qx, top_bool qy, k⟩
  · cases e
theorem r_isnot : RTs X.K rIsNotA pyIsNot := fun x y z e F H b v u Q fr qx qy k => by
  unfold pyIsNot at e
  split at e
  · cases e
    exact .inl ⟨top_none qy, by rw [isNon_top qx]; exact k⟩
  · cases e
    exact .inr ⟨_, _, top_bool qx, top_bool qy, k⟩
  · cases e
end

/-! ### one operand -/
def dNeg (da : DE) : DE := fun sl B => (da sl B).bind fun p => match p.1 with
  | .int i => some (.int (-i), p.2)
  | _ => none
section
variable {X : Cx} {C : Fx} {a c : Expr} {da db : DE} {ta tb : DT} {pos : Pos} {rest : List Expr}
theorem e_neg (ha : PE X a (liftE X.K C da)) : PE X (.UnaryOp .USub a pos) (liftE X.K C (dNeg da)) :=
  imp_e (fun σ H Q ⟨sl, B, F, b, rr, B', R, e, k⟩ => by
    obtain ⟨⟨x, B1⟩, e1, e⟩ := bnd e
    split at e
    · rename_i i hi
      cases e
      refine ⟨sl, B, F, b, x, B1, R, e1, fun v H' F' b' R' S' q => ?_⟩
      have hi' : x = .int i := hi
      subst hi'
      cases q
      exact ⟨i, rfl, k _ H' F' b' R' S' (.int _)⟩
    · cases e) (pe_un un_neg ha)

/-! ### tests -/
def dAndT (t u : DT) : DT := fun sl B => (t sl B).bind fun p => if p.1 = true then u sl p.2 else some (false, p.2)
def dOrT (t u : DT) : DT := fun sl B => (t sl B).bind fun p => if p.1 = true then some (true, p.2) else u sl p.2
def dNotT (t : DT) : DT := fun sl B => (t sl B).map fun p => (!p.1, p.2)
def dTV (d : DE) : DT := fun sl B => (d sl B).bind fun p => match p.1 with
  | .bool k => some (k, p.2)
  | _ => none
theorem w_and1 (ha : PT X a (liftT X.K C ta)) : PW X (.BoolOp .And [a] pos) (liftT X.K C ta) := pw_and1 ha
theorem w_or1 (ha : PT X a (liftT X.K C ta)) : PW X (.BoolOp .Or [a] pos) (liftT X.K C ta) := pw_or1 ha
theorem w_and (ha : PT X a (liftT X.K C ta)) (hb : PW X (.BoolOp .And (c :: rest) pos) (liftT X.K C tb)) : PW X (.BoolOp .And (a :: c :: rest) pos) (liftT X.K C (dAndT ta tb)) :=
  imp_w (fun σ H Q ⟨sl, B, F, b, rr, B', R, e, k⟩ => by
    obtain ⟨⟨x, B1⟩, e1, e⟩ := bnd e
    refine ⟨sl, B, F, b, x, B1, R, e1, fun H1 F1 b1 R1 S1 => ?_⟩
    cases x with
    | true => exact iteT ⟨sl, B1, F1, b1, rr, B', R1, e, fun H2 F2 b2 R2 S2 => k H2 F2 b2 R2 (S1.trans S2)⟩
    | false =>
      cases e
      exact iteF (k H1 F1 b1 R1 S1)) (pw_and ha hb)
theorem w_or (ha : PT X a (liftT X.K C ta)) (hb : PW X (.BoolOp .Or (c :: rest) pos) (liftT X.K C tb)) : PW X (.BoolOp .Or (a :: c :: rest) pos) (liftT X.K C (dOrT ta tb)) :=
  imp_w (fun σ H Q ⟨sl, B, F, b, rr, B', R, e, k⟩ => by
    obtain ⟨⟨x, B1⟩, e1, e⟩ := bnd e
    refine ⟨sl, B, F, b, x, B1, R, e1, fun H1 F1 b1 R1 S1 => ?_⟩
    cases x with
    | false => exact iteF ⟨sl, B1, F1, b1, rr, B', R1, e, fun H2 F2 b2 R2 S2 => k H2 F2 b2 R2 (S1.trans S2)⟩
    | true =>
      cases e
      exact iteT (k H1 F1 b1 R1 S1)) (pw_or ha hb)
theorem t_not (ha : PT X a (liftT X.K C ta)) : PT X (.UnaryOp .Not a pos) (liftT X.K C (dNotT ta)) :=
  imp_t (fun σ H Q ⟨sl, B, F, b, rr, B', R, e, k⟩ => by
    obtain ⟨⟨x, B1⟩, e1, e⟩ := mpd e
    cases e
    exact ⟨sl, B, F, b, x, B1, R, e1, fun H1 F1 b1 R1 S1 => k H1 F1 b1 R1 S1⟩) (pt_not ha)
theorem t_val (h : PE X a (liftE X.K C da)) (he : ∀ whole, isTrue a X.env whole = (do let v ← whole; standAt a.pos; holding [v] (truthy v)) := by intro _; rfl) : PT X a (liftT X.K C (dTV da)) :=
  imp_t (fun σ H Q ⟨sl, B, F, b, rr, B', R, e, k⟩ => by
    obtain ⟨⟨x, B1⟩, e1, e⟩ := bnd e
    split at e
    · rename_i i hi
      cases e
      refine ⟨sl, B, F, b, x, B1, R, e1, fun v H' F' b' R' S' q => ?_⟩
      have hi' : x = .bool _ := hi
      subst hi'
      cases q
      exact ⟨_, rfl, k H' F' b' R' S'⟩
    · cases e) (pt_val h he)
/-- truth of any value -/
def truD : PyData → Option Bool
  | .none => some false
  | .bool b => some b
  | .int i => some (i != 0)
  | .str x => if x.length ≤ sizeLine then some ((x.length : Int) != 0) else none
  | .list xs => some (!xs.isEmpty)
  | .tuple xs => some (!xs.isEmpty)
  | .dict _ => none
def dTru (d : DE) : DT := fun sl B => (d sl B).bind fun p => (truD p.1).map fun k => (k, p.2)
theorem tru_top {K : Frg} {F H : Hp} {b : Bad} {v : V} {d : PyData} {k : Bool} (fr : Ext F H) (h : TopR K F H b v d) (e : truD d = some k) : TruV K v H k := by
  cases d with
  | none => rw [top_none h]; cases e; rfl
  | bool _ => rw [top_bool h]; cases e; rfl
  | int _ => rw [top_int h]; cases e; rfl
  | str x =>
    rw [top_str h]
    unfold truD at e
    simp only at e
    split at e
    · rename_i hz
      cases e
      exact ⟨hz, rfl⟩
    · cases e
  | list xs =>
    obtain ⟨a, vs, e1, h1, _, h2⟩ := h
    cases e
    rw [e1]
    refine .inl ⟨vs, SqL.of h1, ?_⟩
    cases h2 <;> rfl
  | tuple xs =>
    obtain ⟨a, vs, e1, h1, h2⟩ := top_tup fr h
    cases e
    rw [e1]
    refine .inr (.inl ⟨vs, h1, ?_⟩)
    cases h2 <;> rfl
  | dict _ => cases e
theorem t_tru (h : PE X a (liftO X.K C da)) (he : ∀ whole, isTrue a X.env whole = (do let v ← whole; standAt a.pos; holding [v] (truthy v)) := by intro _; rfl) : PT X a (liftT X.K C (dTru da)) :=
  imp_t (fun σ H Q ⟨sl, B, F, b, rr, B', R, e, k⟩ => by
    obtain ⟨⟨x, B1⟩, e1, e⟩ := bnd e
    obtain ⟨z, e2, e⟩ := mpd e
    cases e
    exact ⟨sl, B, F, b, x, B1, R, e1, fun v H' F' b' R' S' q => ⟨_, tru_top R'.fro q e2, k H' F' b' R' S'⟩⟩) (pt_truth h he)
/-! ### and, or, not as values -/
def dAndV (da db : DE) : DE := fun sl B => (da sl B).bind fun p => match p.1 with
  | .bool k => if k = true then db sl p.2 else some (.bool false, p.2)
  | _ => none
def dOrV (da db : DE) : DE := fun sl B => (da sl B).bind fun p => match p.1 with
  | .bool k => if k = true then some (.bool true, p.2) else db sl p.2
  | _ => none
def dNotV (da : DE) : DE := fun sl B => (da sl B).bind fun p => match p.1 with
  | .bool k => some (.bool (!k), p.2)
  | _ => none
theorem e_one {op} (h : PE X a (liftE X.K C da)) : PE X (.BoolOp op [a] pos) (liftE X.K C da) := pe_one h
theorem e_and (ha : PE X a (liftE X.K C da)) (hb : PE X (.BoolOp .And (c :: rest) pos) (liftE X.K C db)) : PE X (.BoolOp .And (a :: c :: rest) pos) (liftE X.K C (dAndV da db)) :=
  imp_e (fun σ H Q ⟨sl, B, F, b, rr, B', R, e, k⟩ => by
    obtain ⟨⟨x, B1⟩, e1, e⟩ := bnd e
    split at e
    · rename_i i hi
      refine ⟨sl, B, F, b, x, B1, R, e1, fun v H1 F1 b1 R1 S1 q => ?_⟩
      have hi' : x = .bool i := hi
      subst hi'
      cases q
      refine ⟨i, rfl, ?_⟩
      cases i with
      | true => exact iteT ⟨sl, B1, F1, b1, rr, B', R1, e, fun v H2 F2 b2 R2 S2 => k v H2 F2 b2 R2 (S1.trans S2)⟩
      | false =>
        cases e
        exact iteF (k _ H1 F1 b1 R1 S1 (.bl false))
    · cases e) (pe_and ha hb)
theorem e_or (ha : PE X a (liftE X.K C da)) (hb : PE X (.BoolOp .Or (c :: rest) pos) (liftE X.K C db)) : PE X (.BoolOp .Or (a :: c :: rest) pos) (liftE X.K C (dOrV da db)) :=
  imp_e (fun σ H Q ⟨sl, B, F, b, rr, B', R, e, k⟩ => by
    obtain ⟨⟨x, B1⟩, e1, e⟩ := bnd e
    split at e
    · rename_i i hi
      refine ⟨sl, B, F, b, x, B1, R, e1, fun v H1 F1 b1 R1 S1 q => ?_⟩
      have hi' : x = .bool i := hi
      subst hi'
      cases q
      refine ⟨i, rfl, ?_⟩
      cases i with
      | false => exact iteF ⟨sl, B1, F1, b1, rr, B', R1, e, fun v H2 F2 b2 R2 S2 => k v H2 F2 b2 R2 (S1.trans S2)⟩
      | true =>
        cases e
        exact iteT (k _ H1 F1 b1 R1 S1 (.bl true))
    · cases e) (pe_or ha hb)
theorem e_not (ha : PE X a (liftE X.K C da)) : PE X (.UnaryOp .Not a pos) (liftE X.K C (dNotV da)) :=
  imp_e (fun σ H Q ⟨sl, B, F, b, rr, B', R, e, k⟩ => by
    obtain ⟨⟨x, B1⟩, e1, e⟩ := bnd e
    split at e
    · rename_i i hi
      cases e
      refine ⟨sl, B, F, b, x, B1, R, e1, fun v H1 F1 b1 R1 S1 q => ?_⟩
      have hi' : x = .bool i := hi
      subst hi'
      cases q
      exact ⟨i, rfl, k _ H1 F1 b1 R1 S1 (.bl _)⟩
    · cases e) (pe_not ha)
/-! ### a if t else b -/
def dIf (t : DT) (da db : DE) : DE := fun sl B => (t sl B).bind fun p => if p.1 = true then da sl p.2 else db sl p.2
theorem e_if {t : Expr} (hc : PT X t (liftT X.K C ta)) (ha : PE X a (liftE X.K C da)) (hb : PE X c (liftE X.K C db)) : PE X (.IfExp t a c pos) (liftE X.K C (dIf ta da db)) :=
  imp_e (fun σ H Q ⟨sl, B, F, b, rr, B', R, e, k⟩ => by
    obtain ⟨⟨x, B1⟩, e1, e⟩ := bnd e
    refine ⟨sl, B, F, b, x, B1, R, e1, fun H1 F1 b1 R1 S1 => ?_⟩
    cases x with
    | true => exact iteT ⟨sl, B1, F1, b1, rr, B', R1, e, fun v H2 F2 b2 R2 S2 => k v H2 F2 b2 R2 (S1.trans S2)⟩
    | false => exact iteF ⟨sl, B1, F1, b1, rr, B', R1, e, fun v H2 F2 b2 R2 S2 => k v H2 F2 b2 R2 (S1.trans S2)⟩) (pe_ifExp hc ha hb)
end

/-! ### argument lists -/
def dNil : DL := fun _ B => some ([], B)
def dCons (d : DE) (ds : DL) : DL := fun sl B => (d sl B).bind fun p => (ds sl p.2).map fun q => (p.1 :: q.1, q.2)
def dNilA : DA := fun _ B => some ([], B)
def dConsA (d : DV) (ds : DA) : DA := fun sl B => (d sl B).bind fun p => (ds sl p.2).map fun q => (p.1 :: q.1, q.2)
section
variable {X : Cx} {C : Fx} {e : Expr} {es : List Expr} {d : DE} {ds : DL} {pos : Pos}
theorem d_nil : PA X [] (liftD X.K C dNil) := imp_a (fun σ H Q ⟨sl, B, F, b, rr, B', R, e, k⟩ => by
  cases e
  exact k [] H F b R Stp.refl .nil) pa_nil
theorem d_cons (h : PE X e (liftE X.K C d)) (hr : PA X es (liftD X.K C ds)) (hs : starEach (e :: es) X.env = (false, eval e X.env) :: starEach es X.env := by rfl) : PA X (e :: es) (liftD X.K C (dCons d ds)) :=
  imp_a (fun σ H Q ⟨sl, B, F, b, rr, B', R, e, k⟩ => by
    obtain ⟨⟨x, B1⟩, e1, e⟩ := bnd e
    obtain ⟨⟨xs, B2⟩, e2, e⟩ := mpd e
    cases e
    exact ⟨sl, B, F, b, x, B1, R, e1, fun v H1 F1 b1 R1 S1 q1 => ⟨sl, B1, F1, b1, xs, B2, R1, e2, fun vs H2 F2 b2 R2 S2 q2 => k (v :: vs) H2 F2 b2 R2 (S1.trans S2) (.cons (Rp.mono S2.ex q1) q2)⟩⟩) (pa_cons h hr hs)
theorem q_nil : PA X [] (liftQ X.K C dNil) := imp_a (fun σ H Q ⟨sl, B, F, b, rr, B', R, e, k⟩ => by
  cases e
  exact k [] H F b R Stp.refl .nil) pa_nil
theorem q_cons (h : PE X e (liftO X.K C d)) (hr : PA X es (liftQ X.K C ds)) (hs : starEach (e :: es) X.env = (false, eval e X.env) :: starEach es X.env := by rfl) : PA X (e :: es) (liftQ X.K C (dCons d ds)) :=
  imp_a (fun σ H Q ⟨sl, B, F, b, rr, B', R, e, k⟩ => by
    obtain ⟨⟨x, B1⟩, e1, e⟩ := bnd e
    obtain ⟨⟨xs, B2⟩, e2, e⟩ := mpd e
    cases e
    exact ⟨sl, B, F, b, x, B1, R, e1, fun v H1 F1 b1 R1 S1 q1 => ⟨sl, B1, F1, b1, xs, B2, R1, e2, fun vs H2 F2 b2 R2 S2 q2 => k (v :: vs) H2 F2 b2 R2 (S1.trans S2) (.cons (q1.mono S2) q2)⟩⟩) (pa_cons h hr hs)
theorem a_nil : PA X [] (liftA X.K C dNilA) := imp_a (fun σ H Q ⟨sl, B, F, b, rr, B', R, e, k⟩ => by
  cases e
  exact k [] H F b R Stp.refl .nil) pa_nil
theorem a_cons {d : DV} {ds : DA} (h : PE X e (liftV X.K C d)) (hr : PA X es (liftA X.K C ds)) (hs : starEach (e :: es) X.env = (false, eval e X.env) :: starEach es X.env := by rfl) : PA X (e :: es) (liftA X.K C (dConsA d ds)) :=
  imp_a (fun σ H Q ⟨sl, B, F, b, rr, B', R, e, k⟩ => by
    obtain ⟨⟨x, B1⟩, e1, e⟩ := bnd e
    obtain ⟨⟨xs, B2⟩, e2, e⟩ := mpd e
    cases e
    exact ⟨sl, B, F, b, x, B1, R, e1, fun v H1 F1 b1 R1 S1 q1 => ⟨sl, B1, F1, b1, xs, B2, R1, e2, fun vs H2 F2 b2 R2 S2 q2 => k (v :: vs) H2 F2 b2 R2 (S1.trans S2) (.cons (q1.mono S2) q2)⟩⟩) (pa_cons h hr hs)
/-! ### displays -/
def dTup (d : DL) : DE := fun sl B => (d sl B).bind fun p => if p.1.length ≤ sizeLine then some (.tuple p.1, p.2) else none
def dLst (d : DL) : DL := fun sl B => (d sl B).bind fun p => if p.1.length ≤ sizeLine then some p else none
theorem e_tup {x1} (h : PA X es (liftD X.K C ds)) : PE X (.Tuple es x1 pos) (liftE X.K C (dTup ds)) :=
  imp_e (fun σ H Q ⟨sl, B, F, b, rr, B', R, e, k⟩ => by
    obtain ⟨⟨xs, B1⟩, e1, e⟩ := bnd e
    simp only at e
    split at e
    · rename_i hz
      cases e
      refine ⟨sl, B, F, b, _, _, R, e1, fun vs H1 F1 b1 R1 S1 q1 => ⟨by rw [q1.length]; exact hz, fun p hp => ?_⟩⟩
      obtain ⟨R2, S2⟩ := (Al.one (o := .tup vs) hp).rel R1
      exact k _ _ _ _ R2 (S1.trans S2) (.tup (SqT.of upd_same) (Rps.mono S2.ex q1))
    · cases e) (pe_tup h)
theorem l_lst (h : PA X es (liftD X.K C ds)) : PE X (.List es pos) (liftL X.K C (dLst ds)) :=
  imp_e (fun σ H Q ⟨sl, B, F, b, rr, B', R, e, k⟩ => by
    obtain ⟨⟨xs, B1⟩, e1, e⟩ := bnd e
    simp only at e
    split at e
    · rename_i hz
      cases e
      refine ⟨sl, B, F, b, _, _, R, e1, fun vs H1 F1 b1 R1 S1 q1 => ⟨by rw [q1.length]; exact hz, fun p hp => ?_⟩⟩
      have h0 : H p = none := by
        cases z : H p with
        | none => rfl
        | some o => exact absurd hp (S1.tr p (by rw [z]; exact Option.some_ne_none _))
      exact k p vs _ _ _ (R1.new hp) (S1.trans (Stp.new hp)) h0 (not_in_F R1.fro hp) (R1.nbx hp) upd_same q1
    · cases e) (pe_lst h)
end

/-! ### items and slices -/
def pyIx : PyData → PyData → Option PyData
  | .list xs, .int i => atI xs i
  | .tuple xs, .int i => atI xs i
  | .str z, .int i => if z.length ≤ sizeLine then (atI z.cps.toList i).map fun c => .str ⟨#[c]⟩ else none
  | _, _ => none
theorem atI_rps {K : Frg} {F : Hp} {vs : List V} {ds : List PyData} {i : Int} {d : PyData} (r : Rps K F vs ds) (e : atI ds i = some d) : ∃ v, atI vs i = some v ∧ Rp K F v d := by
  unfold atI at e ⊢
  obtain ⟨j, e1, e2⟩ := bnd e
  obtain ⟨v, h1, h2⟩ := r.get e2
  refine ⟨v, ?_, h2⟩
  rw [r.length, e1]
  exact h1
def cutD (ds : List PyData) (lo hi : Option Int) : List PyData := (ds.drop (HT.sIx ds.length 0 lo)).take (HT.sIx ds.length ds.length hi - HT.sIx ds.length 0 lo)
theorem cut_rps {K : Frg} {F : Hp} {vs : List V} {ds : List PyData} (lo hi : Option Int) (r : Rps K F vs ds) : Rps K F (cutV vs lo hi) (cutD ds lo hi) := by
  unfold cutV cutD
  rw [r.length]
  exact Rps.take _ (Rps.drop _ r)
section
variable {X : Cx} {C : Fx} {a c e : Expr} {da db : DE} {pos p2 : Pos}
theorem r_ix : ROp X.K (rIx X.K) pyIx := fun x y z e F H b v u Q fr qx qy k => by
  unfold pyIx at e
  split at e
  · obtain ⟨p, vs, e1, h1, _, r1⟩ := qx
    obtain ⟨w, h2, r2⟩ := atI_rps r1 e
    exact .inl ⟨p, vs, _, w, e1, top_int qy, SqL.of h1, h2, k _ _ _ .refl r2⟩
  · obtain ⟨p, vs, e1, h1, r1⟩ := top_tup fr qx
    obtain ⟨w, h2, r2⟩ := atI_rps r1 e
    exact .inr (.inl ⟨p, vs, _, w, e1, top_int qy, h1, h2, k _ _ _ .refl r2⟩)
  · split at e
    · rename_i hz
      obtain ⟨cc, e1, e⟩ := mpd e
      cases e
      exact .inr (.inr ⟨_, _, cc, top_str qx, top_int qy, hz, e1, k _ _ _ .refl (.str _)⟩)
    · cases e
  · cases e
theorem e_ix (ha : PE X a (liftO X.K C da)) (hb : PE X c (liftO X.K C db)) (hs : PlainIx c := by exact fun _ _ => rfl) : PE X (.Subscript a c pos) (liftE X.K C (dOp pyIx da db)) :=
  imp_e (op_imp r_ix) (pe_ix ix_seq ha hb hs)
/-- a part of a slice -/
abbrev DP := Sl → Bx → Option (Option Int × Bx)
def liftP (K : Frg) (C : Fx) (d : DP) : TO := fun σ H Q => ∃ sl B F b r B', Rel K C sl B F b σ H ∧ d sl B = some (r, B') ∧ ∀ H' F' b', Rel K C sl B' F' b' σ H' → Stp F b H F' b' H' → Q r H'
def dNoP : DP := fun _ B => some (none, B)
def dPart (d : DE) : DP := fun sl B => (d sl B).bind fun p => match p.1 with
  | .int i => some (some i, p.2)
  | _ => none
theorem imp_o {e : Option Expr} {t t' : TO} (h : ∀ σ H Q, t' σ H Q → t σ H Q) (p : PO X e t) : PO X e t' := ⟨fun pins s σ H Q I w => p.run pins s σ H Q I (h σ H Q w)⟩
theorem p_none : PO X none (liftP X.K C dNoP) := imp_o (fun σ H Q ⟨sl, B, F, b, rr, B', R, e, k⟩ => by
  cases e
  exact k H F b R Stp.refl) po_none
theorem p_some (h : PE X e (liftE X.K C da)) : PO X (some e) (liftP X.K C (dPart da)) := imp_o (fun σ H Q ⟨sl, B, F, b, rr, B', R, e, k⟩ => by
  obtain ⟨⟨x, B1⟩, e1, e⟩ := bnd e
  split at e
  · rename_i i hi
    cases e
    refine ⟨sl, B, F, b, x, B1, R, e1, fun v H' F' b' R' S' q => ?_⟩
    have hi' : x = .int i := hi
    subst hi'
    cases q
    exact ⟨i, rfl, k H' F' b' R' S'⟩
  · cases e) (po_some h)
def cutStr (z : Str) (lo hi : Option Int) : Str := cutS z lo hi
def pySl : PyData → Option Int → Option Int → Option PyData
  | .list xs, lo, hi => some (.list (cutD xs lo hi))
  | .tuple xs, lo, hi => some (.tuple (cutD xs lo hi))
  | _, _, _ => none
def dSl (f : PyData → Option Int → Option Int → Option PyData) (d : DE) (l h : DP) : DE := fun sl B => (d sl B).bind fun p => (l sl p.2).bind fun q => (h sl q.2).bind fun r => (f p.1 q.1 r.1).map fun z => (z, r.2)
def rSlLA (K : Frg) : V → Option Int → Option Int → Hp → VK → Prop := fun x lo hi H Q => rSlL K x lo hi H Q ∨ rSlA K x lo hi H Q
theorem cutD_all {ds : List PyData} {lo hi : Option Int} (h : HT.sIx ds.length 0 lo = 0 ∧ HT.sIx ds.length ds.length hi = ds.length) : cutD ds lo hi = ds := by
  unfold cutD
  rw [h.1, h.2, Nat.sub_zero, List.drop_zero, List.take_length]
theorem e_sl {lo hi : Option Expr} {dl dh : DP} (ha : PE X a (liftO X.K C da)) (hl : PO X lo (liftP X.K C dl)) (hh : PO X hi (liftP X.K C dh)) : PE X (.Subscript a (.Slice lo hi none p2) pos) (liftE X.K C (dSl pySl da dl dh)) :=
  imp_e (fun σ H Q ⟨sl, B, F, b, rr, B', R, e, k⟩ => by
    obtain ⟨⟨x, B1⟩, e1, e⟩ := bnd e
    obtain ⟨⟨l, B2⟩, e2, e⟩ := bnd e
    obtain ⟨⟨h, B3⟩, e3, e⟩ := bnd e
    obtain ⟨z, e4, e⟩ := mpd e
    cases e
    refine ⟨sl, B, F, b, x, B1, R, e1, fun v H1 F1 b1 R1 S1 q1 => ⟨sl, B1, F1, b1, l, B2, R1, e2, fun H2 F2 b2 R2 S2 => ⟨sl, B2, F2, b2, h, B3, R2, e3, fun H3 F3 b3 R3 S3 => ?_⟩⟩⟩
    have S := (S1.trans S2).trans S3
    have q := q1.mono (S2.trans S3)
    have e4' : pySl x l h = some rr := e4
    show rSlL X.K v l h H3 Q ∨ rSlA X.K v l h H3 Q
    unfold pySl at e4'
    split at e4'
    · cases e4'
      obtain ⟨p, vs, g1, g2, _, g3⟩ := q
      refine .inl ⟨p, vs, g1, SqL.of g2, fun n hn => ?_⟩
      obtain ⟨R4, S4⟩ := (Al.one (o := .lst (cutV vs l h)) hn).rel R3
      exact k _ _ _ _ R4 (S.trans S4) (.lst upd_same (Rps.mono S4.ex (cut_rps _ _ g3)))
    · cases e4'
      obtain ⟨p, vs, g1, g2, g3⟩ := top_tup R3.fro q
      refine .inr ⟨p, vs, g1, g2, fun hz => ?_, fun hz n hn => ?_⟩
      · rw [g3.length] at hz
        rw [← g1]
        refine k v H3 F3 b3 R3 S ?_
        rw [cutD_all hz]
        exact q
      · obtain ⟨R4, S4⟩ := (Al.one (o := .tup (cutV vs l h)) hn).rel R3
        exact k _ _ _ _ R4 (S.trans S4) (.tup (SqT.of upd_same) (Rps.mono S4.ex (cut_rps _ _ g3)))
    · cases e4') (pe_slice (sl_list.or sl_tupA) ha hl hh)
end
end Dn

set_option Elab.async false
set_option linter.all false
set_option autoImplicit false
set_option maxRecDepth 100000
set_option maxHeartbeats 1000000
namespace Dn
open PySem PySem.Spec PyProof.Rows L2

/-! ### built-ins by values -/
def RCl (K : Frg) (r : List V → Hp → VK → Prop) (f : List PyData → Option PyData) : Prop := ∀ ds z, f ds = some z → ∀ (F H : Hp) (b : Bad) (vs : List V) (Q : VK), Ext F H → TopRs K F H b vs ds → (∀ w F' H', Al F H F' H' → Rp K F' w z → Q w H') → r vs H Q
/-- .. that give a new list -/
def RClL (K : Frg) (r : List V → Hp → VK → Prop) (f : List PyData → Option (List PyData)) : Prop := ∀ ds z, f ds = some z → ∀ (F H : Hp) (b : Bad) (vs : List V) (Q : VK), Ext F H → TopRs K F H b vs ds → (∀ p us, H p = none → Rps K F us z → Q (.ref p) (upd H p (.lst us))) → r vs H Q
def dCl (f : List PyData → Option PyData) (da : DL) : DE := fun sl B => (da sl B).bind fun p => (f p.1).map fun z => (z, p.2)
def dClL (f : List PyData → Option (List PyData)) (da : DL) : DL := fun sl B => (da sl B).bind fun p => (f p.1).map fun z => (z, p.2)
section
variable {X : Cx} {C : Fx} {e : Expr} {es : List Expr} {da : DL} {p pos : Pos} {x : Str}
theorem cl_imp {r : List V → Hp → VK → Prop} {f : List PyData → Option PyData} (hr : RCl X.K r f) : ∀ σ H Q, liftE X.K C (dCl f da) σ H Q → tCB r (liftQ X.K C da) σ H Q :=
  fun σ H Q ⟨sl, B, F, b, rr, B', R, e, k⟩ => by
    obtain ⟨⟨xs, B1⟩, e1, e⟩ := bnd e
    obtain ⟨z, e2, e⟩ := mpd e
    cases e
    refine ⟨sl, B, F, b, _, _, R, e1, fun vs H1 F1 b1 R1 S1 q1 => hr _ _ e2 F1 H1 b1 vs Q R1.fro q1 fun w F2 H2 al q => ?_⟩
    obtain ⟨R2, S2⟩ := al.rel R1
    exact k w H2 F2 b1 R2 (S1.trans S2) q
theorem clL_imp {r : List V → Hp → VK → Prop} {f : List PyData → Option (List PyData)} (hr : RClL X.K r f) : ∀ σ H Q, liftL X.K C (dClL f da) σ H Q → tCB r (liftQ X.K C da) σ H Q :=
  fun σ H Q ⟨sl, B, F, b, rr, B', R, e, k⟩ => by
    obtain ⟨⟨xs, B1⟩, e1, e⟩ := bnd e
    obtain ⟨z, e2, e⟩ := mpd e
    cases e
    refine ⟨sl, B, F, b, _, _, R, e1, fun vs H1 F1 b1 R1 S1 q1 => hr _ _ e2 F1 H1 b1 vs Q R1.fro q1 fun p us hp q => ?_⟩
    have h0 : H p = none := by
      cases z : H p with
      | none => rfl
      | some o => exact absurd hp (S1.tr p (by rw [z]; exact Option.some_ne_none _))
    exact k p us _ _ _ (R1.new hp) (S1.trans (Stp.new hp)) h0 (not_in_F R1.fro hp) (R1.nbx hp) upd_same q
theorem e_clB {id : String} {r : List V → Hp → VK → Prop} {f : List PyData → Option PyData} (hc : CallR X (.builtin id) r) (hr : RCl X.K r f) (hm : X.mg x = none) (hv : bootBuiltins x = some (.builtin id)) (ha : PA X (e :: es) (liftQ X.K C da)) (hg : Gl X x := by rfl) (hn : x ≠ "__name__" := by decide) (hdb : (x == ("__debug__" : Str)) = false := by decide)
    (he : starEach (e :: es) X.env = (false, eval e X.env) :: starEach es X.env := by rfl) (hpl : (backTo pos (starEach es X.env)).any (·.1) = false := by rfl) : PE X (.Call (.Name x p) (e :: es) [] pos) (liftE X.K C (dCl f da)) :=
  imp_e (cl_imp hr) (pe_callB hc hg hm hv ha hn hdb he hpl)
theorem e_clT {T : String} {r : List V → Hp → VK → Prop} {f : List PyData → Option PyData} (hc : CallR X (.type T) r) (hr : RCl X.K r f) (hm : X.mg x = none) (hv : bootBuiltins x = some (.type T)) (ha : PA X (e :: es) (liftQ X.K C da)) (hg : Gl X x := by rfl) (hn : x ≠ "__name__" := by decide) (hdb : (x == ("__debug__" : Str)) = false := by decide)
    (he : starEach (e :: es) X.env = (false, eval e X.env) :: starEach es X.env := by rfl) (hpl : (backTo pos (starEach es X.env)).any (·.1) = false := by rfl) : PE X (.Call (.Name x p) (e :: es) [] pos) (liftE X.K C (dCl f da)) :=
  imp_e (cl_imp hr) (pe_callTy hc hg hm hv ha hn hdb he hpl)
theorem l_clT {T : String} {r : List V → Hp → VK → Prop} {f : List PyData → Option (List PyData)} (hc : CallR X (.type T) r) (hr : RClL X.K r f) (hm : X.mg x = none) (hv : bootBuiltins x = some (.type T)) (ha : PA X (e :: es) (liftQ X.K C da)) (hg : Gl X x := by rfl) (hn : x ≠ "__name__" := by decide) (hdb : (x == ("__debug__" : Str)) = false := by decide)
    (he : starEach (e :: es) X.env = (false, eval e X.env) :: starEach es X.env := by rfl) (hpl : (backTo pos (starEach es X.env)).any (·.1) = false := by rfl) : PE X (.Call (.Name x p) (e :: es) [] pos) (liftL X.K C (dClL f da)) :=
  imp_e (clL_imp hr) (pe_callTy hc hg hm hv ha hn hdb he hpl)
theorem l_clB {T : String} {r : List V → Hp → VK → Prop} {f : List PyData → Option (List PyData)} (hc : CallR X (.builtin T) r) (hr : RClL X.K r f) (hm : X.mg x = none) (hv : bootBuiltins x = some (.builtin T)) (ha : PA X (e :: es) (liftQ X.K C da)) (hg : Gl X x := by rfl) (hn : x ≠ "__name__" := by decide) (hdb : (x == ("__debug__" : Str)) = false := by decide)
    (he : starEach (e :: es) X.env = (false, eval e X.env) :: starEach es X.env := by rfl) (hpl : (backTo pos (starEach es X.env)).any (·.1) = false := by rfl) : PE X (.Call (.Name x p) (e :: es) [] pos) (liftL X.K C (dClL f da)) :=
  imp_e (clL_imp hr) (pe_callB hc hg hm hv ha hn hdb he hpl)
end
theorem tops1 {K : Frg} {F H : Hp} {b : Bad} {vs : List V} {d : PyData} (h : TopRs K F H b vs [d]) : ∃ v, vs = [v] ∧ TopR K F H b v d := by
  cases h with
  | cons h1 h2 => cases h2; exact ⟨_, rfl, h1⟩
theorem tops2 {K : Frg} {F H : Hp} {b : Bad} {vs : List V} {d e : PyData} (h : TopRs K F H b vs [d, e]) : ∃ v u, vs = [v, u] ∧ TopR K F H b v d ∧ TopR K F H b u e := by
  cases h with
  | cons h1 h2 =>
    cases h2 with
    | cons h2 h3 => cases h3; exact ⟨_, _, rfl, h1, h2⟩
def pyLen : List PyData → Option PyData
  | [.list xs] => some (.int (xs.length : Int))
  | [.tuple xs] => some (.int (xs.length : Int))
  | [.str x] => if x.length ≤ sizeLine then some (.int (x.length : Int)) else none
  | _ => none
def pyAbs : List PyData → Option PyData
  | [.int i] => some (.int (if i < 0 then -i else i))
  | _ => none
def pyMin2 : List PyData → Option PyData
  | [.int i, .int j] => some (.int (if j < i then j else i))
  | _ => none
def pyMax2 : List PyData → Option PyData
  | [.int i, .int j] => some (.int (if j > i then j else i))
  | _ => none
def pyInt : List PyData → Option PyData
  | [.int i] => some (.int i)
  | [.bool k] => some (.int (if k then 1 else 0))
  | _ => none
def pyTuple : List PyData → Option PyData
  | [.list xs] => some (.tuple xs)
  | [.tuple xs] => some (.tuple xs)
  | _ => none
def pyList : List PyData → Option (List PyData)
  | [.list xs] => some xs
  | [.tuple xs] => some xs
  | _ => none
def intsOf : List PyData → Option (List Int)
  | [] => some []
  | .int i :: r => (intsOf r).map (i :: ·)
  | _ => none
def bolsOf : List PyData → Option (List Bool)
  | [] => some []
  | .bool i :: r => (bolsOf r).map (i :: ·)
  | _ => none
theorem intsOf_eq : ∀ {ds : List PyData} {ns : List Int}, intsOf ds = some ns → ds = ns.map PyData.int
  | [], _, h => by cases h; rfl
  | .int i :: r, _, h => by
    obtain ⟨ms, h1, h2⟩ := mpd h
    cases h2
    rw [intsOf_eq h1]; rfl
  | .none :: _, _, h => by cases h
  | .bool _ :: _, _, h => by cases h
  | .str _ :: _, _, h => by cases h
  | .list _ :: _, _, h => by cases h
  | .tuple _ :: _, _, h => by cases h
  | .dict _ :: _, _, h => by cases h
theorem bolsOf_eq : ∀ {ds : List PyData} {ns : List Bool}, bolsOf ds = some ns → ds = ns.map PyData.bool
  | [], _, h => by cases h; rfl
  | .bool i :: r, _, h => by
    obtain ⟨ms, h1, h2⟩ := mpd h
    cases h2
    rw [bolsOf_eq h1]; rfl
  | .none :: _, _, h => by cases h
  | .int _ :: _, _, h => by cases h
  | .str _ :: _, _, h => by cases h
  | .list _ :: _, _, h => by cases h
  | .tuple _ :: _, _, h => by cases h
  | .dict _ :: _, _, h => by cases h
theorem intsOf_map (ns : List Int) : intsOf (ns.map PyData.int) = some ns := by
  induction ns with
  | nil => rfl
  | cons n r ih => simp [intsOf, ih]
theorem bolsOf_map (ns : List Bool) : bolsOf (ns.map PyData.bool) = some ns := by
  induction ns with
  | nil => rfl
  | cons n r ih => simp [bolsOf, ih]
def pySum : List PyData → Option PyData
  | [.list xs] => (intsOf xs).map fun ns => .int ns.sum
  | _ => none
def pyAll : List PyData → Option PyData
  | [.list xs] => (bolsOf xs).map fun ns => .bool (ns.all id)
  | _ => none
def pyAny : List PyData → Option PyData
  | [.list xs] => (bolsOf xs).map fun ns => .bool (ns.any id)
  | _ => none
section
variable {X : Cx}
theorem r_len : RCl X.K (fun xs H Q => ∃ x n, xs = [x] ∧ LenV X.K x H n ∧ Q (.int n) H) pyLen := fun ds z e F H b vs Q fr q k => by
  unfold pyLen at e
  split at e
  · cases e
    obtain ⟨v, rfl, p, us, rfl, h1, _, h2⟩ := tops1 q
    refine ⟨_, _, rfl, .inl ⟨us, SqL.of h1, rfl⟩, ?_⟩
    rw [h2.length]
    exact k _ _ _ .refl (.int _)
  · cases e
    obtain ⟨v, rfl, h⟩ := tops1 q
    obtain ⟨p, us, rfl, h1, h2⟩ := top_tup fr h
    refine ⟨_, _, rfl, .inr ⟨us, h1, rfl⟩, ?_⟩
    rw [h2.length]
    exact k _ _ _ .refl (.int _)
  · split at e
    · rename_i hz
      cases e
      obtain ⟨v, rfl, h⟩ := tops1 q
      rw [top_str h]
      exact ⟨_, _, rfl, ⟨hz, rfl⟩, k _ _ _ .refl (.int _)⟩
    · cases e
  · cases e
theorem r_abs : RCl X.K (fun xs H Q => ∃ i, xs = [.int i] ∧ Q (.int (if i < 0 then -i else i)) H) pyAbs := fun ds z e F H b vs Q fr q k => by
  unfold pyAbs at e
  split at e
  · cases e
    obtain ⟨v, rfl, h⟩ := tops1 q
    rw [top_int h]
    exact ⟨_, rfl, k _ _ _ .refl (.int _)⟩
  · cases e
theorem r_min2 : RCl X.K (fun xs H Q => ∃ i j, xs = [.int i, .int j] ∧ Q (.int (if j < i then j else i)) H) pyMin2 := fun ds z e F H b vs Q fr q k => by
  unfold pyMin2 at e
  split at e
  · cases e
    obtain ⟨v, u, rfl, h, h'⟩ := tops2 q
    rw [top_int h, top_int h']
    exact ⟨_, _, rfl, k _ _ _ .refl (.int _)⟩
  · cases e
theorem r_max2 : RCl X.K (fun xs H Q => ∃ i j, xs = [.int i, .int j] ∧ Q (.int (if j > i then j else i)) H) pyMax2 := fun ds z e F H b vs Q fr q k => by
  unfold pyMax2 at e
  split at e
  · cases e
    obtain ⟨v, u, rfl, h, h'⟩ := tops2 q
    rw [top_int h, top_int h']
    exact ⟨_, _, rfl, k _ _ _ .refl (.int _)⟩
  · cases e
theorem r_int : RCl X.K (fun xs H Q => (∃ i, xs = [.int i] ∧ Q (.int i) H) ∨ ∃ k, xs = [.bl k] ∧ Q (.int (if k then 1 else 0)) H) pyInt := fun ds z e F H b vs Q fr q k => by
  unfold pyInt at e
  split at e
  · cases e
    obtain ⟨v, rfl, h⟩ := tops1 q
    rw [top_int h]
    exact .inl ⟨_, rfl, k _ _ _ .refl (.int _)⟩
  · cases e
    obtain ⟨v, rfl, h⟩ := tops1 q
    rw [top_bool h]
    exact .inr ⟨_, rfl, k _ _ _ .refl (.int _)⟩
  · cases e
theorem r_tuple : RCl X.K (fun xs H Q => ∃ p ys, xs = [.ref p] ∧ ((SqL X.K H p ys ∧ ∀ l, H l = none → Q (.ref l) (upd H l (.tup ys))) ∨ (SqT X.K H p ys ∧ Q (.ref p) H))) pyTuple := fun ds z e F H b vs Q fr q k => by
  unfold pyTuple at e
  split at e
  · cases e
    obtain ⟨v, rfl, p, us, rfl, h1, _, h2⟩ := tops1 q
    exact ⟨p, us, rfl, .inl ⟨SqL.of h1, fun l hl => k _ _ _ (.one hl) (.tup (SqT.of upd_same) (Rps.mono (Ext.new (not_in_F fr hl)) h2))⟩⟩
  · cases e
    obtain ⟨v, rfl, h⟩ := tops1 q
    obtain ⟨p, us, rfl, h1, h2⟩ := top_tup fr h
    exact ⟨p, us, rfl, .inr ⟨h1, k _ _ _ .refl h⟩⟩
  · cases e
theorem r_list : RClL X.K (fun xs H Q => ∃ p ys, xs = [.ref p] ∧ (SqL X.K H p ys ∨ SqT X.K H p ys) ∧ ∀ l, H l = none → Q (.ref l) (upd H l (.lst ys))) pyList := fun ds z e F H b vs Q fr q k => by
  unfold pyList at e
  split at e
  · cases e
    obtain ⟨v, rfl, p, us, rfl, h1, _, h2⟩ := tops1 q
    exact ⟨p, us, rfl, .inl (SqL.of h1), fun l hl => k _ _ hl h2⟩
  · cases e
    obtain ⟨v, rfl, h⟩ := tops1 q
    obtain ⟨p, us, rfl, h1, h2⟩ := top_tup fr h
    exact ⟨p, us, rfl, .inr h1, fun l hl => k _ _ hl h2⟩
  · cases e
theorem r_sum : RCl X.K (rSum X.K) pySum := fun ds z e F H b vs Q fr q k => by
  unfold pySum at e
  split at e
  · obtain ⟨ns, e1, e⟩ := mpd e
    cases e
    have e1 := intsOf_eq e1
    subst e1
    obtain ⟨v, rfl, p, us, rfl, h1, _, h2⟩ := tops1 q
    have e2 := h2.ints
    subst e2
    exact ⟨p, ns, rfl, SqL.of h1, k _ _ _ .refl (.int _)⟩
  · cases e
theorem r_all : RCl X.K (rAll X.K) pyAll := fun ds z e F H b vs Q fr q k => by
  unfold pyAll at e
  split at e
  · obtain ⟨ns, e1, e⟩ := mpd e
    cases e
    have e1 := bolsOf_eq e1
    subst e1
    obtain ⟨v, rfl, p, us, rfl, h1, _, h2⟩ := tops1 q
    have e2 := h2.bls
    subst e2
    exact ⟨p, ns, rfl, SqL.of h1, k _ _ _ .refl (.bl _)⟩
  · cases e
theorem r_any : RCl X.K (rAny X.K) pyAny := fun ds z e F H b vs Q fr q k => by
  unfold pyAny at e
  split at e
  · obtain ⟨ns, e1, e⟩ := mpd e
    cases e
    have e1 := bolsOf_eq e1
    subst e1
    obtain ⟨v, rfl, p, us, rfl, h1, _, h2⟩ := tops1 q
    have e2 := h2.bls
    subst e2
    exact ⟨p, ns, rfl, SqL.of h1, k _ _ _ .refl (.bl _)⟩
  · cases e
end

/-! ### isinstance -/
def tyName : PyData → String
  | .none => "NoneType"
  | .bool _ => "bool"
  | .int _ => "int"
  | .str _ => "str"
  | .list _ => "list"
  | .tuple _ => "tuple"
  | .dict _ => "dict"
def isTy (T : String) (d : PyData) : Bool := tyName d == T || (T == "int" && tyName d == "bool")
def dIsi (T : String) (da : DE) : DE := fun sl B => (da sl B).bind fun p => some (.bool (isTy T p.1), p.2)
theorem kitB_all (T : String) (hT : T = "int" ∨ T = "bool" ∨ T = "str" ∨ T = "list" ∨ T = "tuple") (d : PyData) : kitB (tyName d) T = some (isTy T d) := by
  have key : ∀ n, n = "NoneType" ∨ n = "bool" ∨ n = "int" ∨ n = "str" ∨ n = "list" ∨ n = "tuple" ∨ n = "dict" → kitB n T = some (n == T || (T == "int" && n == "bool")) := by
    intro n hn
    rcases hT with rfl | rfl | rfl | rfl | rfl <;> rcases hn with rfl | rfl | rfl | rfl | rfl | rfl | rfl <;> decide +kernel
  apply key
  cases d <;> simp [tyName]
theorem tyX_top {K : Frg} {F H : Hp} {b : Bad} {v : V} {d : PyData} (fr : Ext F H) (h : TopR K F H b v d) : TyX K H v (.type (tyName d)) := by
  cases d with
  | none => rw [top_none h]; exact .base .non
  | bool x => rw [top_bool h]; exact .base (.bl x)
  | int i => rw [top_int h]; exact .base (.int i)
  | str x => rw [top_str h]; exact .base (.str x)
  | list xs =>
    obtain ⟨a, vs, rfl, h1, _⟩ := h
    exact .base (.lst h1)
  | tuple xs =>
    obtain ⟨a, vs, rfl, h1, _⟩ := top_tup fr h
    rcases h1 with (h1 | ⟨o, h1⟩) | ⟨o, its, n, h1, h2, _⟩
    · exact .base (.tup h1)
    · exact .fTuple h1
    · exact .kTuple h1 h2
  | dict _ =>
    have h' : Rp K F v (.dict _) := h
    cases h'
section
variable {X : Cx} {C : Fx} {e : Expr} {da : DE} {p p2 pos : Pos} {T : Str}
theorem e_isi {t : String} (hT : t = "int" ∨ t = "bool" ∨ t = "str" ∨ t = "list" ∨ t = "tuple") (hm : X.mg "isinstance" = none) (ht : X.mg T = none) (hb : bootBuiltins T = some (.type t)) (h : PE X e (liftO X.K C da)) (hg : Gl X "isinstance" := by rfl) (hgt : Gl X T := by rfl)
    (hnT : T ≠ "__name__" := by decide) (hdT : (T == ("__debug__" : Str)) = false := by decide)
    (hs : starEach (e :: [Expr.Name T p2]) X.env = (false, eval e X.env) :: starEach [Expr.Name T p2] X.env := by rfl) (hs2 : starEach [Expr.Name T p2] X.env = (false, eval (Expr.Name T p2) X.env) :: starEach [] X.env := by rfl)
    (hpl : (backTo pos (starEach [Expr.Name T p2] X.env)).any (·.1) = false := by rfl) : PE X (.Call (.Name "isinstance" p) [e, .Name T p2] [] pos) (liftE X.K C (dIsi t da)) :=
  imp_e (fun σ H Q ⟨sl, B, F, b, rr, B', R, e, k⟩ => by
    obtain ⟨⟨x, B1⟩, e1, e⟩ := bnd e
    cases e
    refine ⟨sl, B, F, b, x, _, R, e1, fun v H1 F1 b1 R1 S1 q => ?_⟩
    exact ⟨v, .ty t, .type (tyName x), .type t, isTy t x, rfl, .ty t, tyX_top R1.fro q, kit_ty (kitB_all t hT x), k _ _ _ _ R1 S1 (.bl _)⟩)
    (pe_callB (t := tCons (liftO X.K C da) (tCons (tC (.ty t)) tNil)) call_isi hg hm PyProof.Rows.boot_isinstance (pa_cons h (pa_cons (pe_bltn hgt ht hb rfl hnT hdT) pa_nil hs2) hs) (by decide) (by decide) hs hpl)
end
end Dn

set_option Elab.async false
set_option linter.all false
set_option autoImplicit false
set_option maxRecDepth 100000
set_option maxHeartbeats 1000000
namespace Dn
open PySem PySem.Spec PyProof.Rows L2

/-! ### slots -/
section
variable {K : Frg} {C : Fx} {sl : Sl} {B B' : Bx} {F F' H H' : Hp} {b b' : Bad} {σ : L2.St} {v : V} {i : Nat} {s : Sv}
theorem Rel.put (r : Rel K C sl B F b σ H) (h : SvR K F H b v s) (nd : ∀ xs, s ≠ .own xs) : Rel K C (sl.set i (some s)) B F b (σ.set i (some v)) H where
  fro := r.fro
  len := by rw [List.length_set, List.length_set]; exact r.len
  slt := fun j t e => by
    by_cases z : i = j
    · subst z
      by_cases hl : i < sl.length
      · rw [List.getElem?_set_self hl] at e
        cases e
        exact ⟨v, List.getElem?_set_self (by rw [← r.len]; exact hl), h⟩
      · rw [List.getElem?_eq_none (by simpa using hl)] at e; cases e
    · rw [List.getElem?_set_ne z] at e
      obtain ⟨u, h1, h2⟩ := r.slt j t e
      exact ⟨u, by rw [List.getElem?_set_ne z]; exact h1, h2⟩
  dis := fun j l xs ys a e1 e2 e3 e4 => by
    have z1 : i ≠ j := fun z => by
      subst z
      by_cases hl : i < sl.length
      · rw [List.getElem?_set_self hl] at e1; cases e1; exact nd _ rfl
      · rw [List.getElem?_eq_none (by simpa using hl)] at e1; cases e1
    have z2 : i ≠ l := fun z => by
      subst z
      by_cases hl : i < sl.length
      · rw [List.getElem?_set_self hl] at e2; cases e2; exact nd _ rfl
      · rw [List.getElem?_eq_none (by simpa using hl)] at e2; cases e2
    rw [List.getElem?_set_ne z1] at e1 e3
    rw [List.getElem?_set_ne z2] at e2 e4
    exact r.dis j l xs ys a e1 e2 e3 e4
  own0 := fun j xs a e1 e3 => by
    have z1 : i ≠ j := fun z => by
      subst z
      by_cases hl : i < sl.length
      · rw [List.getElem?_set_self hl] at e1; cases e1; exact nd _ rfl
      · rw [List.getElem?_eq_none (by simpa using hl)] at e1; cases e1
    rw [List.getElem?_set_ne z1] at e1 e3
    exact r.own0 j xs a e1 e3
  bx := r.bx
  e1 := r.e1
  e2 := r.e2
  e3 := r.e3
  e4 := r.e4
  e5 := r.e5
/-- a new list for the slot -/
theorem Rel.putO {a : Addr} {vs : List V} {xs : List PyData} (r : Rel K C sl B F b σ H) (h1 : H a = some (.lst vs)) (h2 : Rps K F vs xs) (h3 : F a = none) (h4 : ¬ inb b a) (h5 : C.H0 a = none)
    (h6 : ∀ (j : Nat) (ys : List PyData), sl[j]? = some (some (.own ys)) → σ[j]? ≠ some (some (.ref a))) : Rel K C (sl.set i (some (.own xs))) B F b (σ.set i (some (.ref a))) H where
  fro := r.fro
  len := by rw [List.length_set, List.length_set]; exact r.len
  slt := fun j t e => by
    by_cases z : i = j
    · subst z
      by_cases hl : i < sl.length
      · rw [List.getElem?_set_self hl] at e
        cases e
        exact ⟨_, List.getElem?_set_self (by rw [← r.len]; exact hl), a, vs, rfl, h1, h2, h3, h4⟩
      · rw [List.getElem?_eq_none (by simpa using hl)] at e; cases e
    · rw [List.getElem?_set_ne z] at e
      obtain ⟨u, h1, h2⟩ := r.slt j t e
      exact ⟨u, by rw [List.getElem?_set_ne z]; exact h1, h2⟩
  dis := fun j l ys zs c e1 e2 e3 e4 => by
    by_cases z1 : i = j
    · by_cases z2 : i = l
      · rw [← z1, ← z2]
      · exfalso
        subst z1
        rw [List.getElem?_set_ne z2] at e2 e4
        by_cases hl : i < σ.length
        · rw [List.getElem?_set_self hl] at e3
          cases e3
          exact h6 l zs e2 e4
        · rw [List.getElem?_eq_none (by simpa using hl)] at e3; cases e3
    · rw [List.getElem?_set_ne z1] at e1 e3
      by_cases z2 : i = l
      · exfalso
        subst z2
        by_cases hl : i < σ.length
        · rw [List.getElem?_set_self hl] at e4
          cases e4
          exact h6 j ys e1 e3
        · rw [List.getElem?_eq_none (by simpa using hl)] at e4; cases e4
      · rw [List.getElem?_set_ne z2] at e2 e4
        exact r.dis j l ys zs c e1 e2 e3 e4
  own0 := fun j ys c e1 e3 => by
    by_cases z1 : i = j
    · subst z1
      by_cases hl : i < σ.length
      · rw [List.getElem?_set_self hl] at e3
        cases e3
        exact h5
      · rw [List.getElem?_eq_none (by simpa using hl)] at e3; cases e3
    · rw [List.getElem?_set_ne z1] at e1 e3
      exact r.own0 j ys c e1 e3
  bx := r.bx
  e1 := r.e1
  e2 := r.e2
  e3 := r.e3
  e4 := r.e4
  e5 := r.e5
/-- an own list is changed -/
theorem Rel.chg {a : Addr} {vs : List V} {xs ys : List PyData} (r : Rel K C sl B F b σ H) (e : sl[i]? = some (some (.own xs))) (ea : σ[i]? = some (some (.ref a))) (h2 : Rps K F vs ys) : Rel K C (sl.set i (some (.own ys))) B F b σ (upd H a (.lst vs)) := by
  obtain ⟨v, ev, a', us, e1, g1, g2, g3, g4⟩ := r.slt i _ e
  rw [ea] at ev
  cases ev
  cases e1
  have hl : i < sl.length := by
    rcases Nat.lt_or_ge i sl.length with z | z
    · exact z
    · rw [List.getElem?_eq_none z] at e; cases e
  have h0 := r.own0 i xs a e ea
  refine ⟨fun c o hc => ?_, by rw [List.length_set]; exact r.len, fun j t e' => ?_, fun j l ys zs c e1 e2 e3 e4 => ?_, fun j ys c e1 e3 => ?_, ⟨fun p hp => ?_, r.bx.liv⟩, r.e1, r.e2, fun c o hc hn => ?_, r.e4, r.e5⟩
  · rw [upd_ne (fun z => by subst z; rw [g3] at hc; cases hc)]
    exact r.fro c o hc
  · by_cases z : i = j
    · subst z
      rw [List.getElem?_set_self hl] at e'
      cases e'
      exact ⟨_, ea, a, vs, rfl, upd_same, h2, g3, g4⟩
    · rw [List.getElem?_set_ne z] at e'
      obtain ⟨u, k1, k2⟩ := r.slt j t e'
      refine ⟨u, k1, ?_⟩
      cases t with
      | dat d => exact k2
      | own ws =>
        obtain ⟨c, w, q1, q2, q3, q4, q5⟩ := k2
        have ne : c ≠ a := fun z' => by
          subst z' q1
          exact z (r.dis i j _ _ _ e e' ea k1)
        exact ⟨c, w, q1, by rw [upd_ne ne]; exact q2, q3, q4, q5⟩
      | box => exact k2
      | cells => exact k2
      | scr ns => exact k2
  · have f1 : ∃ w, sl[j]? = some (some (.own w)) := by
      by_cases z : i = j
      · subst z; exact ⟨_, e⟩
      · rw [List.getElem?_set_ne z] at e1; exact ⟨_, e1⟩
    have f2 : ∃ w, sl[l]? = some (some (.own w)) := by
      by_cases z : i = l
      · subst z; exact ⟨_, e⟩
      · rw [List.getElem?_set_ne z] at e2; exact ⟨_, e2⟩
    obtain ⟨_, f1⟩ := f1
    obtain ⟨_, f2⟩ := f2
    exact r.dis j l _ _ c f1 f2 e3 e4
  · have f1 : ∃ w, sl[j]? = some (some (.own w)) := by
      by_cases z : i = j
      · subst z; exact ⟨_, e⟩
      · rw [List.getElem?_set_ne z] at e1; exact ⟨_, e1⟩
    obtain ⟨_, f1⟩ := f1
    exact r.own0 j _ c f1 e3
  · obtain ⟨k1, k2, k3, k4, k5⟩ := r.bx.at_ p hp
    exact ⟨by rw [upd_ne (fun z => g4 ⟨p, hp, .inl z.symm⟩)]; exact k1, by rw [upd_ne (fun z => g4 ⟨p, hp, .inr z.symm⟩)]; exact k2, k3, k4, k5⟩
  · rw [upd_ne (fun z => by subst z; rw [h0] at hc; cases hc)]
    exact r.e3 c o hc hn
/-- a list that no slot holds yet is changed -/
theorem Rel.tmp {a : Addr} {o : HO} (r : Rel K C sl B F b σ H) (g3 : F a = none) (g4 : ¬ inb b a) (h0 : C.H0 a = none) (h6 : ∀ (j : Nat) (ys : List PyData), sl[j]? = some (some (.own ys)) → σ[j]? ≠ some (some (.ref a))) : Rel K C sl B F b σ (upd H a o) := by
  refine ⟨fun c o hc => ?_, r.len, fun j t e' => ?_, r.dis, r.own0, ⟨fun p hp => ?_, r.bx.liv⟩, r.e1, r.e2, fun c o hc hn => ?_, r.e4, r.e5⟩
  · rw [upd_ne (fun z => by subst z; rw [g3] at hc; cases hc)]
    exact r.fro c o hc
  · obtain ⟨u, k1, k2⟩ := r.slt j t e'
    refine ⟨u, k1, ?_⟩
    cases t with
    | dat d => exact k2
    | own ws =>
      obtain ⟨c, w, q1, q2, q3, q4, q5⟩ := k2
      have ne : c ≠ a := fun z' => by
        subst z' q1
        exact h6 j _ e' k1
      exact ⟨c, w, q1, by rw [upd_ne ne]; exact q2, q3, q4, q5⟩
    | box => exact k2
    | cells => exact k2
    | scr ns => exact k2
  · obtain ⟨k1, k2, k3, k4, k5⟩ := r.bx.at_ p hp
    exact ⟨by rw [upd_ne (fun z => g4 ⟨p, hp, .inl z.symm⟩)]; exact k1, by rw [upd_ne (fun z => g4 ⟨p, hp, .inr z.symm⟩)]; exact k2, k3, k4, k5⟩
  · rw [upd_ne (fun z => by subst z; rw [h0] at hc; cases hc)]
    exact r.e3 c o hc hn
/-- the own lists' places are taken -/
theorem Rel.ownT (r : Rel K C sl B F b σ H) {j : Nat} {ys : List PyData} {a : Addr} (e : sl[j]? = some (some (.own ys))) (h : H a = none) : σ[j]? ≠ some (some (.ref a)) := fun z => by
  obtain ⟨v, ev, a', us, e1, g1, _⟩ := r.slt j _ e
  rw [z] at ev
  cases ev
  cases e1
  rw [h] at g1; cases g1
/-- a slot's own list is frozen -/
theorem Rel.frz {xs : List PyData} (r : Rel K C sl B F b σ H) (e : sl[i]? = some (some (.own xs))) : ∃ F', Ext F F' ∧ Rel K C (sl.set i (some (.dat (.list xs)))) B F' b σ H := by
  obtain ⟨v, ev, a, us, e1, g1, g2, g3, g4⟩ := r.slt i _ e
  subst e1
  have hl : i < sl.length := by
    rcases Nat.lt_or_ge i sl.length with z | z
    · exact z
    · rw [List.getElem?_eq_none z] at e; cases e
  have ex : Ext F (upd F a (.lst us)) := Ext.new g3
  have h0 := r.own0 i xs a e ev
  refine ⟨upd F a (.lst us), ex, ⟨fun c o hc => ?_, by rw [List.length_set]; exact r.len, fun j t e' => ?_, fun j l ys zs c e1 e2 e3 e4 => ?_, fun j ys c e1 e3 => ?_, ⟨fun p hp => ?_, r.bx.liv⟩, r.e1.trans ex, fun c h1 h2 => ?_, r.e3, r.e4, r.e5⟩⟩
  · by_cases z : c = a
    · subst z; rw [upd_same] at hc; rw [g1]; exact hc
    · rw [upd_ne z] at hc; exact r.fro c o hc
  · by_cases z : i = j
    · subst z
      rw [List.getElem?_set_self hl] at e'
      cases e'
      exact ⟨_, ev, .lst upd_same (Rps.mono ex g2)⟩
    · rw [List.getElem?_set_ne z] at e'
      obtain ⟨u, k1, k2⟩ := r.slt j t e'
      refine ⟨u, k1, ?_⟩
      cases t with
      | dat d => exact Rp.mono ex k2
      | own ws =>
        obtain ⟨c, w, q1, q2, q3, q4, q5⟩ := k2
        have ne : c ≠ a := fun z' => by
          subst z' q1
          exact z (r.dis i j _ _ _ e e' ev k1)
        exact ⟨c, w, q1, q2, Rps.mono ex q3, by rw [upd_ne ne]; exact q4, q5⟩
      | box => exact k2
      | cells => exact k2
      | scr ns =>
        obtain ⟨c, q1, q2⟩ := k2
        exact ⟨c, q1, ex.sqL q2⟩
  · have z1 : i ≠ j := fun z => by
      subst z
      rw [List.getElem?_set_self hl] at e1; cases e1
    have z2 : i ≠ l := fun z => by
      subst z
      rw [List.getElem?_set_self hl] at e2; cases e2
    rw [List.getElem?_set_ne z1] at e1
    rw [List.getElem?_set_ne z2] at e2
    exact r.dis j l _ _ c e1 e2 e3 e4
  · have z1 : i ≠ j := fun z => by
      subst z
      rw [List.getElem?_set_self hl] at e1; cases e1
    rw [List.getElem?_set_ne z1] at e1
    exact r.own0 j _ c e1 e3
  · obtain ⟨k1, k2, k3, k4, k5⟩ := r.bx.at_ p hp
    exact ⟨k1, k2, by rw [upd_ne (fun z => g4 ⟨p, hp, .inl z.symm⟩)]; exact k3, by rw [upd_ne (fun z => g4 ⟨p, hp, .inr z.symm⟩)]; exact k4, k5⟩
  · rw [upd_ne (fun z => by subst z; exact h1 h0)]
    exact r.e2 c h1 h2
/-- the slots of a block forgotten -/
def wipeD (sl : Sl) : List Nat → Sl
  | [] => sl
  | v :: vs => (wipeD sl vs).set v none
theorem Rel.un1 (r : Rel K C sl B F b σ H) (j : Nat) : Rel K C (sl.set j none) B F b (σ.set j none) H := by
  have sub : ∀ (l : Nat) (t : Sv), (sl.set j none)[l]? = some (some t) → l ≠ j ∧ sl[l]? = some (some t) := fun l t e => by
    by_cases z : j = l
    · subst z
      by_cases hl : j < sl.length
      · rw [List.getElem?_set_self hl] at e; cases e
      · rw [List.getElem?_eq_none (by simpa using hl)] at e; cases e
    · rw [List.getElem?_set_ne z] at e
      exact ⟨fun q => z q.symm, e⟩
  refine ⟨r.fro, by rw [List.length_set, List.length_set]; exact r.len, fun l t e => ?_, fun l m xs ys a e1 e2 e3 e4 => ?_, fun l xs a e1 e3 => ?_, r.bx, r.e1, r.e2, r.e3, r.e4, r.e5⟩
  · obtain ⟨h1, h2⟩ := sub l t e
    obtain ⟨v, h3, h4⟩ := r.slt l t h2
    exact ⟨v, by rw [List.getElem?_set_ne (Ne.symm h1)]; exact h3, h4⟩
  · obtain ⟨h1, h2⟩ := sub _ _ e1
    obtain ⟨h3, h4⟩ := sub _ _ e2
    rw [List.getElem?_set_ne (Ne.symm h1)] at e3
    rw [List.getElem?_set_ne (Ne.symm h3)] at e4
    exact r.dis _ _ _ _ _ h2 h4 e3 e4
  · obtain ⟨h1, h2⟩ := sub _ _ e1
    rw [List.getElem?_set_ne (Ne.symm h1)] at e3
    exact r.own0 _ _ _ h2 e3
theorem Rel.wipe (r : Rel K C sl B F b σ H) : ∀ vs : List Nat, Rel K C (wipeD sl vs) B F b (L2.wipe σ vs) H
  | [] => r
  | v :: vs => (r.wipe vs).un1 v
end

/-! ### targets -/
abbrev DG := PyData → Sl → Option Sl
abbrev DGs := List PyData → Sl → Option Sl
def liftG (K : Frg) (C : Fx) (d : DG) (ws : List Nat) : TG := fun v σ H Q => ∃ sl B F b x sl', Rel K C sl B F b σ H ∧ Rp K F v x ∧ d x sl = some sl' ∧ ∀ σ', Rel K C sl' B F b σ' H → (∀ vs : List Nat, (∀ j ∈ ws, j ∈ vs) → L2.wipe σ' vs = L2.wipe σ vs) → Q σ' H
def liftGs (K : Frg) (C : Fx) (d : DGs) (ws : List Nat) : TGs := fun v σ H Q => ∃ sl B F b x sl', Rel K C sl B F b σ H ∧ Rps K F v x ∧ d x sl = some sl' ∧ ∀ σ', Rel K C sl' B F b σ' H → (∀ vs : List Nat, (∀ j ∈ ws, j ∈ vs) → L2.wipe σ' vs = L2.wipe σ vs) → Q σ' H
def gN (i : Nat) : DG := fun x sl => some (sl.set i (some (.dat x)))
def gNil' : DGs := fun xs sl => match xs with
  | [] => some sl
  | _ => none
def gCons' (d : DG) (ds : DGs) : DGs := fun xs sl => match xs with
  | x :: r => (d x sl).bind fun s1 => ds r s1
  | [] => none
def gT (d : DGs) : DG := fun x sl => match x with
  | .tuple xs => d xs sl
  | _ => none
theorem wipe_set {σ : L2.St} {i : Nat} {x : Option V} : ∀ {vs : List Nat}, i ∈ vs → L2.wipe (σ.set i x) vs = L2.wipe σ vs
  | v :: vs, h => by
    show (L2.wipe (σ.set i x) vs).set v none = (L2.wipe σ vs).set v none
    by_cases hi : i ∈ vs
    · rw [wipe_set hi]
    · have e : v = i := by
        rcases List.mem_cons.mp h with z | z
        · exact z.symm
        · exact absurd z hi
      subst e
      have comm : ∀ (us : List Nat), v ∉ us → L2.wipe (σ.set v x) us = (L2.wipe σ us).set v x := by
        intro us
        induction us with
        | nil => intro _; rfl
        | cons u us ih =>
          intro hn
          show (L2.wipe (σ.set v x) us).set u none = ((L2.wipe σ us).set u none).set v x
          rw [ih (fun z => hn (List.mem_cons_of_mem _ z)), List.set_comm _ _ (fun z => hn (by rw [z]; exact List.mem_cons_self))]
      rw [comm vs hi, List.set_set]
  | [], h => by cases h
section
variable {X : Cx} {C : Fx} {pos : Pos}
theorem g_name (i : Nat) {x : Str} (hN : X.N.Nodup) (hi : X.N[i]? = some x := by rfl) (hx : Loc X.env.scope x := by first | exact .inl rfl | exact .inr rfl) (hf : X.fn x = true ∨ X.env.scope.names.lookup x = some .local := by first | exact .inl rfl | exact .inr rfl) : PG X (.Name x pos) (liftG X.K C (gN i) [i]) :=
  imp_g (fun v σ H Q ⟨sl, B, F, b, x, sl', R, q, e, k⟩ => by
    cases e
    exact k _ (R.put (s := .dat _) q (fun _ z => nomatch z)) (fun vs hv => wipe_set (hv i (by simp)))) (pg_name hN hi hx hf)
theorem gs_nil : PGs X [] (liftGs X.K C gNil' []) := ⟨fun pins s σ H vs us Q I r ⟨sl, B, F, b, x, sl', R, q, e, k⟩ => by
  refine pgs_nil.run pins s σ H vs us Q I r ?_
  unfold gNil' at e
  split at e
  · cases e
    cases q
    exact ⟨rfl, k σ R fun _ _ => rfl⟩
  · cases e⟩
theorem gs_cons {e : Expr} {es : List Expr} {d : DG} {ds : DGs} {ws us : List Nat} (h1 : PG X e (liftG X.K C d ws)) (h2 : PGs X es (liftGs X.K C ds us))
    (hs : (assignEach (e :: es) X.env).map (·.2) = assign e X.env :: (assignEach es X.env).map (·.2) := by rfl) : PGs X (e :: es) (liftGs X.K C (gCons' d ds) (ws ++ us)) := ⟨fun pins s σ H vs us' Q I r ⟨sl, B, F, b, x, sl', R, q, e, k⟩ => by
  refine (pgs_cons h1 h2 hs).run pins s σ H vs us' Q I r ?_
  unfold gCons' at e
  split at e
  · rename_i y ys
    obtain ⟨s1, e1, e2⟩ := bnd e
    cases q with
    | cons q1 q2 =>
      refine ⟨_, _, rfl, sl, B, F, b, y, s1, R, q1, e1, fun σ1 R1 w1 => ⟨s1, B, F, b, ys, sl', R1, q2, e2, fun σ2 R2 w2 => k σ2 R2 fun vs hv => ?_⟩⟩
      rw [w2 vs (fun j hj => hv j (List.mem_append_right _ hj)), w1 vs (fun j hj => hv j (List.mem_append_left _ hj))]
  · cases e⟩
theorem g_tup {es : List Expr} {kk : Nat} {d : DGs} {ws : List Nat} (hc : X.calm = true) (h : PGs X es (liftGs X.K C d ws)) (hd : ∀ xs sl sl', d xs sl = some sl' → xs.length = es.length)
    (hn : (assignEach es X.env).length = es.length := by rfl) (hst : (assignEach es X.env).findIdx? (·.1) = none := by rfl) : PG X (.Tuple es kk pos) (liftG X.K C (gT d) ws) :=
  imp_g (fun v σ H Q ⟨sl, B, F, b, x, sl', R, q, e, k⟩ => by
    unfold gT at e
    split at e
    · cases q with
      | tup h1 h2 => exact ⟨_, _, rfl, R.fro.sqT h1, by rw [h2.length]; exact hd _ _ _ e, sl, B, F, b, _, sl', R, h2, e, k⟩
    · cases e) (pg_tup hc h hn hst)
end
theorem glen_nil : ∀ xs sl sl', gNil' xs sl = some sl' → xs.length = 0 := fun xs sl sl' e => by
  unfold gNil' at e
  split at e
  · rfl
  · cases e
theorem glen_cons {d : DG} {ds : DGs} {n : Nat} (h : ∀ xs sl sl', ds xs sl = some sl' → xs.length = n) : ∀ xs sl sl', gCons' d ds xs sl = some sl' → xs.length = n + 1 := fun xs sl sl' e => by
  unfold gCons' at e
  split at e
  · obtain ⟨s1, e1, e2⟩ := bnd e
    rw [List.length_cons, h _ _ _ e2]
  · cases e

/-! ### what is walked -/
def Wk (K : Frg) (F : Hp) (P : Hp → Prop) (J : It) (xs : List PyData) : Prop := ∀ (i : Nat) (F' H' : Hp), Ext F F' → Ext F' H' → P H' →
  (∀ x, xs[i]? = some x → J.go i H' ∧ ∀ v H2, J.yld i H' v H2 → ∃ F2, Al F' H' F2 H2 ∧ Rp K F2 v x) ∧ (i = xs.length → J.stop i H')
def Keep (b : Bad) (H H' : Hp) : Prop := ∀ a o, H a = some o → ¬ inb b a → H' a = some o
def liftI (K : Frg) (C : Fx) (d : DL) : TI := fun σ H Rr => ∃ sl B F b xs B', Rel K C sl B F b σ H ∧ d sl B = some (xs, B') ∧ ∀ J H' F' b', Rel K C sl B' F' b' σ H' → Stp F b H F' b' H' → Wk K F' (fun _ => True) J xs → Rr J H'
def liftIo (K : Frg) (C : Fx) (d : DL) : TI := fun σ H Rr => ∃ sl B F b xs B', Rel K C sl B F b σ H ∧ d sl B = some (xs, B') ∧ ∀ J H' F' b', Rel K C sl B' F' b' σ H' → Stp F b H F' b' H' → Wk K F' (Keep b' H') J xs → Rr J H'
theorem imp_i {X : Cx} {tg e : Expr} {t t' : TI} (h : ∀ σ H Q, t' σ H Q → t σ H Q) (p : PI X tg e t) : PI X tg e t' := ⟨fun pins s σ H Q I w => p.run pins s σ H Q I (h σ H Q w)⟩
theorem io_of {X : Cx} {C : Fx} {tg e : Expr} {d : DL} (p : PI X tg e (liftI X.K C d)) : PI X tg e (liftIo X.K C d) :=
  imp_i (fun σ H Q ⟨sl, B, F, b, xs, B', R, e, k⟩ => ⟨sl, B, F, b, xs, B', R, e, fun J H' F' b' R' S' w => k J H' F' b' R' S' fun i F2 H2 h1 h2 _ => w i F2 H2 h1 h2 trivial⟩) p
theorem wk_list {K : Frg} {F H : Hp} {b : Bad} {a : Addr} {vs : List V} {xs : List PyData} {P : Hp → Prop} (hp : ∀ F' H', Ext F F' → Ext F' H' → P H' → H' a = some (.lst vs)) (r : Rps K F vs xs) : Wk K F P (Itl K a) xs := fun i F' H' h1 h2 h3 => by
  have hs : SqL K H' a vs := SqL.of (hp F' H' h1 h2 h3)
  refine ⟨fun x hx => ?_, fun hx => ⟨vs, hs, ?_⟩⟩
  · obtain ⟨v, e1, e2⟩ := r.get hx
    refine ⟨⟨vs, v, hs, e1⟩, fun u H2 ⟨y1, y2⟩ => ?_⟩
    subst y1
    have := y2 vs hs
    rw [e1] at this
    cases this
    exact ⟨F', .refl, Rp.mono h1 e2⟩
  · rw [hx, r.length]; exact Nat.le_refl _
theorem wk_tup {K : Frg} {F H : Hp} {b : Bad} {a : Addr} {vs : List V} {xs : List PyData} {P : Hp → Prop} (hp : SqT K F a vs) (r : Rps K F vs xs) : Wk K F P (Itt K a) xs := fun i F' H' h1 h2 h3 => by
  have hs : SqT K H' a vs := h2.sqT (h1.sqT hp)
  refine ⟨fun x hx => ?_, fun hx => ⟨vs, hs, ?_⟩⟩
  · obtain ⟨v, e1, e2⟩ := r.get hx
    refine ⟨⟨vs, v, hs, e1⟩, fun u H2 ⟨y1, y2⟩ => ?_⟩
    subst y1
    have := y2 vs hs
    rw [e1] at this
    cases this
    exact ⟨F', .refl, Rp.mono h1 e2⟩
  · rw [hx, r.length]; exact Nat.le_refl _
def dSeq' (d : DE) : DL := fun sl B => (d sl B).bind fun p => match p.1 with
  | .list xs => some (xs, p.2)
  | .tuple xs => some (xs, p.2)
  | _ => none
def rngD (lo : Int) (n : Nat) : List PyData := (List.range n).map fun (i : Nat) => PyData.int (lo + (i : Int))
def dRng1 (d : DE) : DL := fun sl B => (d sl B).bind fun p => match p.1 with
  | .int j => if -(2 ^ 62) ≤ j ∧ j < 2 ^ 62 then some (rngD 0 j.toNat, p.2) else none
  | _ => none
def dRng2 (d d2 : DE) : DL := fun sl B => (d sl B).bind fun p => (d2 sl p.2).bind fun q => match p.1, q.1 with
  | .int i, .int j => if -(2 ^ 62) ≤ i ∧ i < 2 ^ 62 ∧ -(2 ^ 62) ≤ j ∧ j < 2 ^ 62 then some (rngD i (j - i).toNat, q.2) else none
  | _, _ => none
theorem wk_rng {K : Frg} {F : Hp} {P : Hp → Prop} (lo : Int) (n : Nat) : Wk K F P (Itr lo n) (rngD lo n) := fun i F' H' h1 h2 h3 => by
  unfold rngD
  refine ⟨fun x hx => ?_, fun hx => ?_⟩
  · rw [List.getElem?_map] at hx
    obtain ⟨j, e1, e2⟩ := mpd hx
    have hi : i < n := by
      rcases Nat.lt_or_ge i n with z | z
      · exact z
      · rw [List.getElem?_eq_none (by simpa using z)] at e1; cases e1
    rw [List.getElem?_range hi] at e1
    cases e1
    refine ⟨hi, fun u H2 ⟨y1, y2⟩ => ?_⟩
    subst y1 y2
    rw [← e2]
    exact ⟨F', .refl, .int _⟩
  · rw [List.length_map, List.length_range] at hx
    exact Nat.le_of_eq hx.symm
section
variable {X : Cx} {C : Fx} {tg l a c : Expr} {d d2 : DE} {p pos : Pos}
theorem i_seq (h : PE X l (liftE X.K C d)) : PI X tg l (liftI X.K C (dSeq' d)) := ⟨fun pins s σ H Rr I ⟨sl, B, F, b, xs, B', R, e, k⟩ => by
  obtain ⟨⟨x, B1⟩, e1, e⟩ := bnd e
  split at e
  · rename_i ys hx
    cases e
    have hx : x = .list _ := hx
    subst hx
    refine (pi_list h).run pins s σ H Rr I ⟨sl, B, F, b, _, _, R, e1, fun v H' F' b' R' S' q => ?_⟩
    cases q with
    | lst h1 h2 => exact ⟨_, rfl, ⟨_, SqL.of (R'.fro _ _ h1)⟩, k _ H' F' b' R' S' (wk_list (H := H') (b := b') (fun F2 H2 g1 g2 _ => g2 _ _ (g1 _ _ h1)) h2)⟩
  · rename_i ys hx
    cases e
    have hx : x = .tuple _ := hx
    subst hx
    refine (pi_tup h).run pins s σ H Rr I ⟨sl, B, F, b, _, _, R, e1, fun v H' F' b' R' S' q => ?_⟩
    cases q with
    | tup h1 h2 => exact ⟨_, rfl, ⟨_, R'.fro.sqT h1⟩, k _ H' F' b' R' S' (wk_tup (H := H') (b := b') h1 h2)⟩
  · cases e⟩
theorem i_seqo (h : PE X l (liftO X.K C d)) : PI X tg l (liftIo X.K C (dSeq' d)) := ⟨fun pins s σ H Rr I ⟨sl, B, F, b, xs, B', R, e, k⟩ => by
  obtain ⟨⟨x, B1⟩, e1, e⟩ := bnd e
  split at e
  · rename_i ys hx
    cases e
    have hx : x = .list _ := hx
    subst hx
    refine (pi_list h).run pins s σ H Rr I ⟨sl, B, F, b, _, _, R, e1, fun v H' F' b' R' S' q => ?_⟩
    obtain ⟨a, vs, rfl, h1, h2, h3⟩ := q
    exact ⟨_, rfl, ⟨_, SqL.of h1⟩, k _ H' F' b' R' S' (wk_list (H := H') (b := b') (fun F2 H2 g1 g2 g3 => g3 _ _ h1 h2) h3)⟩
  · rename_i ys hx
    cases e
    have hx : x = .tuple _ := hx
    subst hx
    refine (pi_tup h).run pins s σ H Rr I ⟨sl, B, F, b, _, _, R, e1, fun v H' F' b' R' S' q => ?_⟩
    have q' : Rp X.K F' v (.tuple _) := q
    cases q' with
    | tup h1 h2 => exact ⟨_, rfl, ⟨_, R'.fro.sqT h1⟩, k _ H' F' b' R' S' (wk_tup (H := H') (b := b') h1 h2)⟩
  · cases e⟩
theorem i_rng1 (hm : X.mg "range" = none) (h : PE X a (liftO X.K C d)) (hg : Gl X "range" := by rfl) (hs : starEach [a] X.env = [(false, eval a X.env)] := by rfl) (hs' : starEach (a :: []) X.env = (false, eval a X.env) :: starEach [] X.env := by rfl) : PI X tg (.Call (.Name "range" p) [a] [] pos) (liftI X.K C (dRng1 d)) :=
  imp_i (fun σ H Q ⟨sl, B, F, b, xs, B', R, e, k⟩ => by
    obtain ⟨⟨x, B1⟩, e1, e⟩ := bnd e
    split at e
    · rename_i j hx
      split at e
      · rename_i hb
        cases e
        have hx : x = .int j := hx
        subst hx
        refine ⟨sl, B, F, b, _, _, R, e1, fun v H' F' b' R' S' q => ?_⟩
        have hv := top_int q
        subst hv
        exact ⟨j, rfl, hb.1, hb.2, k _ H' F' b' R' S' (wk_rng 0 _)⟩
      · cases e
    · cases e) (pi_range1 (ta := tCons (liftO X.K C d) tNil) hg hm (pa_cons h pa_nil hs') hs)
theorem i_rng2 (hm : X.mg "range" = none) (h : PE X a (liftO X.K C d)) (h2 : PE X c (liftO X.K C d2)) (hg : Gl X "range" := by rfl) (hs : starEach [a, c] X.env = [(false, eval a X.env), (false, eval c X.env)] := by rfl) (hs2 : starEach [c] X.env = [(false, eval c X.env)] := by rfl)
    (hs' : starEach (a :: [c]) X.env = (false, eval a X.env) :: starEach [c] X.env := by rfl) (hs2' : starEach (c :: []) X.env = (false, eval c X.env) :: starEach [] X.env := by rfl) : PI X tg (.Call (.Name "range" p) [a, c] [] pos) (liftI X.K C (dRng2 d d2)) :=
  imp_i (fun σ H Q ⟨sl, B, F, b, xs, B', R, e, k⟩ => by
    obtain ⟨⟨x, B1⟩, e1, e⟩ := bnd e
    obtain ⟨⟨y, B2⟩, e2, e⟩ := bnd e
    split at e
    · rename_i i j hx hy
      split at e
      · rename_i hb
        cases e
        have hx : x = .int i := hx
        have hy : y = .int j := hy
        subst hx hy
        refine ⟨sl, B, F, b, _, _, R, e1, fun v H' F' b' R' S' q => ⟨sl, _, F', b', _, _, R', e2, fun v2 H2 F2 b2 R2 S2 q2 => ?_⟩⟩
        have hv := top_int q
        subst hv
        have hv := top_int q2
        subst hv
        exact ⟨i, j, rfl, hb, k _ H2 F2 b2 R2 (S'.trans S2) (wk_rng _ _)⟩
      · cases e
    · cases e) (pi_range2 (ta := tCons (liftO X.K C d) (tCons (liftO X.K C d2) tNil)) hg hm (pa_cons h (pa_cons h2 pa_nil hs2') hs') hs hs2)
end
end Dn

set_option Elab.async false
set_option linter.all false
set_option autoImplicit false
set_option maxRecDepth 100000
set_option maxHeartbeats 1000000
namespace Dn
open PySem PySem.Spec PyProof.Rows L2

/-! ### comprehensions -/
def cmpGo (tg : DG) (t : DT) (e : DE) (sw : Sl) : List PyData → Bx → Option (List PyData × Bx)
  | [], B => some ([], B)
  | x :: xs, B => (tg x sw).bind fun s2 => (t s2 B).bind fun q => if q.1 = true then (e s2 q.2).bind fun y => (cmpGo tg t e sw xs y.2).map fun r => (y.1 :: r.1, r.2) else cmpGo tg t e sw xs q.2
def dCmp (it : DL) (tg : DG) (t : DT) (e : DE) (vs : List Nat) : DL := fun sl B => (it sl B).bind fun p => if p.1.length < sizeLine then cmpGo tg t e (wipeD sl vs) p.1 p.2 else none
def dYes : DT := fun _ B => some (true, B)
section
variable {X : Cx} {C : Fx}
theorem ts_nil : PTs X [] (liftT X.K C dYes) := imp_ts (fun σ H Q ⟨sl, B, F, b, rr, B', R, e, k⟩ => by
  cases e
  exact k H F b R Stp.refl) pts_nil
theorem ts_one {c : Expr} {t : DT} (h : PT X c (liftT X.K C t)) : PTs X [c] (liftT X.K C t) := pts_one h
theorem lc_imp {K : Frg} {it : DL} {tg : DG} {t : DT} {e : DE} {vs ws : List Nat} (hw : ∀ j ∈ ws, j ∈ vs) : ∀ σ H Q, liftL K C (dCmp it tg t e vs) σ H Q → tLc (liftIo K C it) (liftG K C tg ws) (liftT K C t) (liftE K C e) vs σ H Q :=
  fun σ H Q ⟨sl, B, F, b, rr, B', R, he, k⟩ => by
    obtain ⟨⟨xs, B1⟩, e1, he⟩ := bnd he
    simp only at he
    split at he
    case isFalse => cases he
    case isTrue hz =>
    refine ⟨sl, B, F, b, xs, B1, R, e1, fun J H1 F1 b1 R1 S1 wk D hD => ?_⟩
    have d0 : C.H0 D = none := R1.t0 hD
    have dF : F1 D = none := not_in_F R1.fro hD
    have db : ¬ inb b1 D := R1.nbx hD
    have own : ∀ (j : Nat) (ys : List PyData), sl[j]? = some (some (.own ys)) → σ[j]? ≠ some (some (.ref D)) := fun j ys e => R1.ownT e hD
    refine ⟨fun i m H' => m = xs.length - i ∧ i ≤ xs.length ∧ ∃ F' b' B2 acc da rest, Rel K C sl B2 F' b' σ H' ∧ Stp F1 b1 H1 F' b' H' ∧ H' D = some (.lst acc) ∧ F' D = none ∧ ¬ inb b' D ∧ Rps K F' acc da ∧ acc.length ≤ i ∧ cmpGo tg t e (wipeD sl vs) (xs.drop i) B2 = some (rest, B') ∧ da ++ rest = rr,
      ⟨_, rfl, Nat.zero_le _, F1, b1, B1, [], [], rr, R1.tmp dF db d0 own, Stp.new hD, upd_same, dF, db, .nil, Nat.zero_le _, he, rfl⟩, ?_⟩
    rintro i m H' ⟨rfl, hi, F', b', B2, acc, da, rest, R2, S2, h1, h2, h3, h4, h5, h6, h7⟩
    have kp : Keep b1 H1 H' := fun a o g n => S2.pr a o g n
    obtain ⟨w1, w2⟩ := wk i F' H' S2.ex R2.fro kp
    by_cases hlt : i < xs.length
    · have hx : xs[i]? = some xs[i] := List.getElem?_eq_getElem hlt
      obtain ⟨go, yl⟩ := w1 _ hx
      rw [List.drop_eq_getElem_cons hlt] at h6
      unfold cmpGo at h6
      obtain ⟨s2, g1, h6⟩ := bnd h6
      obtain ⟨⟨tb, B3⟩, g2, h6⟩ := bnd h6
      refine .inr ⟨go, fun H'' => ∃ F' b' B2 acc da rest, Rel K C sl B2 F' b' σ H'' ∧ Stp F1 b1 H1 F' b' H'' ∧ H'' D = some (.lst acc) ∧ F' D = none ∧ ¬ inb b' D ∧ Rps K F' acc da ∧ acc.length ≤ i + 1 ∧ cmpGo tg t e (wipeD sl vs) (xs.drop (i + 1)) B2 = some (rest, B') ∧ da ++ rest = rr,
        fun H'' hn => ⟨xs.length - (i + 1), by omega, rfl, hlt, hn⟩, fun v H2 y => ?_⟩
      obtain ⟨F2, al, rv⟩ := yl v H2 y
      obtain ⟨R3, S3⟩ := al.rel R2
      have D2 : H2 D = some (.lst acc) := S3.pr D _ h1 h3
      have F2D : F2 D = none := S3.ko D (by rw [h1]; exact Option.some_ne_none _) h2
      refine ⟨wipeD sl vs, B2, F2, b', xs[i], s2, R3.wipe vs, rv, g1, fun σ2 R4 wq => ⟨by rw [wq vs hw]; exact (by
        have : ∀ (us : List Nat) (τ : L2.St), (∀ u ∈ us, u ∈ vs) → True := fun _ _ _ => trivial
        exact wipe_wipe σ vs), s2, B2, F2, b', tb, B3, R4, g2, fun H3 F3 b3 R5 S5 => ?_⟩⟩
      have D3 : H3 D = some (.lst acc) := S5.pr D _ D2 h3
      have nb3 : ¬ inb b3 D := fun z => by
        rcases S5.nb D z with q | q
        · exact h3 q
        · rw [D2] at q; cases q
      have F3D : F3 D = none := S5.ko D (by rw [D2]; exact Option.some_ne_none _) F2D
      cases tb with
      | false =>
        refine iteF ⟨F3, b3, B3, acc, da, rest, R3.step S5 R5.fro R5.bx, S2.trans (S3.trans S5), D3, F3D, nb3, Rps.mono (S3.ex.trans S5.ex) h4, by omega, ?_, h7⟩
        exact h6
      | true =>
        have h6 : (e s2 B3).bind (fun y => (cmpGo tg t e (wipeD sl vs) (xs.drop (i + 1)) y.2).map fun r => (y.1 :: r.1, r.2)) = some (rest, B') := h6
        obtain ⟨⟨y, B4⟩, g3, h6⟩ := bnd h6
        obtain ⟨⟨rs, B5⟩, g4, h6⟩ := mpd h6
        refine iteT ⟨s2, B3, F3, b3, y, B4, R5, g3, fun u H4 F4 b4 R6 S6 q6 => ?_⟩
        have D4 : H4 D = some (.lst acc) := S6.pr D _ D3 nb3
        have nb4 : ¬ inb b4 D := fun z => by
          rcases S6.nb D z with q | q
          · exact nb3 q
          · rw [D3] at q; cases q
        have F4D : F4 D = none := S6.ko D (by rw [D3]; exact Option.some_ne_none _) F3D
        refine ⟨acc, D4, Nat.lt_of_le_of_lt h5 (Nat.lt_of_lt_of_le hlt (Nat.le_of_lt hz)), F4, b4, B4, acc ++ [u], da ++ [y], rs, ?_, ?_, upd_same, F4D, nb4, Rps.append (Rps.mono (S3.ex.trans (S5.ex.trans S6.ex)) h4) (.one q6), ?_, ?_, ?_⟩
        · have R7 : Rel K C sl B4 F4 b4 σ H4 := R3.step (S5.trans S6) R6.fro R6.bx
          exact R7.tmp F4D nb4 d0 own
        · have S7 := S2.trans (S3.trans (S5.trans S6))
          exact ⟨S7.ex, fun a o g n => by
            rw [upd_ne (ne_of_none g hD)]
            exact S7.pr a o g n, S7.ko, S7.bb, S7.nb, fun a g => by
            rw [upd_ne (fun z => by subst z; exact g hD)]
            exact S7.tr a g⟩
        · rw [List.length_append]; show acc.length + 1 ≤ i + 1; omega
        · injection h6 with q1 q2
          rw [← q2]; exact g4
        · injection h6 with q1 q2
          rw [← h7, ← q1, List.append_assoc]; rfl
    · have e0 : i = xs.length := by omega
      subst e0
      refine .inl ⟨w2 rfl, ?_⟩
      rw [List.drop_length] at h6
      cases h6
      rw [List.append_nil] at h7
      subst h7
      have hD0 : H D = none := by
        cases z : H D with
        | none => rfl
        | some o => exact absurd hD (S1.tr D (by rw [z]; exact Option.some_ne_none _))
      exact k D acc H' F' b' R2 (S1.trans S2) hD0 h2 h3 h1 h4
where
  wipe_wipe (σ : L2.St) : ∀ (vs : List Nat), L2.wipe (L2.wipe σ vs) vs = L2.wipe σ vs := fun vs => by
    have key : ∀ (us : List Nat) (τ : L2.St), (∀ u ∈ us, u < τ.length → τ[u]? = some none) → L2.wipe τ us = τ := by
      intro us
      induction us with
      | nil => intro _ _; rfl
      | cons u us ih =>
        intro τ h
        show (L2.wipe τ us).set u none = τ
        rw [ih τ (fun w hw => h w (List.mem_cons_of_mem _ hw))]
        apply List.ext_getElem?
        intro j
        by_cases z : u = j
        · subst z
          by_cases hl : u < τ.length
          · rw [List.getElem?_set_self hl, h u List.mem_cons_self hl]
          · rw [List.getElem?_eq_none (by simpa using hl), List.getElem?_eq_none (by simpa using hl)]
        · rw [List.getElem?_set_ne z]
    refine key vs _ fun u hu hl => ?_
    have : ∀ (us : List Nat), u ∈ us → u < (L2.wipe σ us).length → (L2.wipe σ us)[u]? = some none := by
      intro us
      induction us with
      | nil => intro h; cases h
      | cons x us ih =>
        intro h hl
        show ((L2.wipe σ us).set x none)[u]? = some none
        have hl' : u < (L2.wipe σ us).length := by
          have : u < ((L2.wipe σ us).set x none).length := hl
          rwa [List.length_set] at this
        by_cases z : x = u
        · subst z
          rw [List.getElem?_set_self hl']
        · rw [List.getElem?_set_ne z]
          rcases List.mem_cons.mp h with q | q
          · exact absurd q.symm z
          · exact ih q hl'
    exact this vs hu hl
theorem l_lc {elt tg iter : Expr} {ifs : List Expr} {scope : Scope} {own : List (Str × Nat)} {pos : Pos} {it : DL} {dg : DG} {t : DT} {e : DE} {ws : List Nat} (hc : X.calm = true) (hN : X.N.Nodup) (hi : PI X tg iter (liftIo X.K C it)) (ok : BlkOk X.N X.env.scope scope own)
    (hg : ∀ (s : Shared) (H : Hp) (CC : Addr) (cl : List (Str × Addr)) (fp : List Addr), PG (X.blk s H scope (compEnvC scope cl CC X.env) fp) tg (liftG X.K C dg ws)) (ht : ∀ (s : Shared) (H : Hp) (CC : Addr) (cl : List (Str × Addr)) (fp : List Addr), PTs (X.blk s H scope (compEnvC scope cl CC X.env) fp) ifs (liftT X.K C t))
    (he : ∀ (s : Shared) (H : Hp) (CC : Addr) (cl : List (Str × Addr)) (fp : List Addr), PE (X.blk s H scope (compEnvC scope cl CC X.env) fp) elt (liftE X.K C e)) {us : List Nat} (hu : own.map (·.2) = us := by rfl) (hw : ∀ j ∈ ws, j ∈ us := by decide) (hs : ∀ x, foldedSetIterable iter X.env x = pure x := by intro _; rfl) :
    PE X (.ListComp elt [⟨tg, iter, ifs, 0⟩] scope pos) (liftL X.K C (dCmp it dg t e us)) := by
  subst hu
  exact imp_e (lc_imp hw) (pe_lc hc hN hi ok hg ht he hs)
end

/-! ### a def's call -/
abbrev FD := List Sv → Bx → Option (Sv × Bx)
def spD (K : Frg) (f : FD) : Sp := fun vs H Q _ => ∃ F b B ss r B', Ext F H ∧ BxR F H b B ∧ SvsR K F H b vs ss ∧ f ss B = some (r, B') ∧ ∀ v H' F' b', Ext F' H' → BxR F' H' b' B' → Stp F b H F' b' H' → SvR K F' H' b' v r → Q v H'
def dFn (f : FD) (da : DA) : DE := fun sl B => (da sl B).bind fun p => (f p.1 p.2).bind fun q => match q.1 with
  | .dat z => some (z, q.2)
  | _ => none
def dFnV (f : FD) (da : DA) : DV := fun sl B => (da sl B).bind fun p => f p.1 p.2
section
variable {X : Cx} {C : Fx} {k : Nat} {f : Addr} {fd : FuncData} {ps : List Str} {fD : FD} {x : Str} {p pos : Pos} {e : Expr} {es : List Expr} {da : DA}
theorem fn_imp : ∀ σ H Q, liftE X.K C (dFn fD da) σ H Q → tCall (spD X.K fD) [] E0 (liftA X.K C da) σ H Q :=
  fun σ H Q ⟨sl, B, F, b, rr, B', R, e, k⟩ => by
    obtain ⟨⟨ss, B1⟩, e1, e⟩ := bnd e
    obtain ⟨⟨r, B2⟩, e2, e⟩ := bnd e
    split at e
    · rename_i z hz
      cases e
      have hz : r = .dat _ := hz
      subst hz
      refine ⟨sl, B, F, b, ss, B1, R, e1, fun vs H1 F1 b1 R1 S1 q1 => ?_⟩
      show spD X.K fD (vs ++ []) H1 Q E0
      rw [List.append_nil]
      exact ⟨F1, b1, B1, ss, _, _, R1.fro, R1.bx, q1, e2, fun v H2 F2 b2 fr bx S2 q2 => k v H2 F2 b2 (R1.step S2 fr bx) (S1.trans S2) q2⟩
    · cases e
theorem fnV_imp : ∀ σ H Q, liftV X.K C (dFnV fD da) σ H Q → tCall (spD X.K fD) [] E0 (liftA X.K C da) σ H Q :=
  fun σ H Q ⟨sl, B, F, b, rr, B', R, e, k⟩ => by
    obtain ⟨⟨ss, B1⟩, e1, e⟩ := bnd e
    refine ⟨sl, B, F, b, ss, B1, R, e1, fun vs H1 F1 b1 R1 S1 q1 => ?_⟩
    show spD X.K fD (vs ++ []) H1 Q E0
    rw [List.append_nil]
    exact ⟨F1, b1, B1, ss, rr, B', R1.fro, R1.bx, q1, e, fun v H2 F2 b2 fr bx S2 q2 => k v H2 F2 b2 (R1.step S2 fr bx) (S1.trans S2) q2⟩
/-- what a caller has of a def -/
structure Def (P : Program) (w : World) (K : Frg) (mg : Str → Option Value) (base : Heap) (k : Nat) (x : Str) (fD : FD) : Prop where
  ex : ∃ (f : Addr) (fd : FuncData) (ps : List Str), FnOk P w K mg base CX0 k f fd ps (spD K fD) ∧ mg x = some (.ref f) ∧ PySem.W.keepIn K (.ref f) = true ∧ Binds K fd ps []
theorem e_fn (D : Def X.prog X.w X.K X.mg X.base k x fD) (hr : Room k X.A) (ha : PA X (e :: es) (liftA X.K C da)) (hg : Gl X x := by rfl) (hdb : (x == ("__debug__" : Str)) = false := by decide) (he : starEach (e :: es) X.env = (false, eval e X.env) :: starEach es X.env := by rfl) (hpl : (backTo pos (starEach es X.env)).any (·.1) = false := by rfl) :
    PE X (.Call (.Name x p) (e :: es) [] pos) (liftE X.K C (dFn fD da)) := by
  obtain ⟨f, fd, ps, h1, h2, h3, h4⟩ := D.ex
  exact imp_e fn_imp (pe_call h1 hr hg h2 h3 h4 .nil pass0 ha hdb he hpl)
theorem v_fn (D : Def X.prog X.w X.K X.mg X.base k x fD) (hr : Room k X.A) (ha : PA X (e :: es) (liftA X.K C da)) (hg : Gl X x := by rfl) (hdb : (x == ("__debug__" : Str)) = false := by decide) (he : starEach (e :: es) X.env = (false, eval e X.env) :: starEach es X.env := by rfl) (hpl : (backTo pos (starEach es X.env)).any (·.1) = false := by rfl) :
    PE X (.Call (.Name x p) (e :: es) [] pos) (liftV X.K C (dFnV fD da)) := by
  obtain ⟨f, fd, ps, h1, h2, h3, h4⟩ := D.ex
  exact imp_e fnV_imp (pe_call h1 hr hg h2 h3 h4 .nil pass0 ha hdb he hpl)
end

/-! ### statements -/
inductive Out where
  | nx (sl : Sl) (B : Bx) | bk (sl : Sl) (B : Bx) | ct (sl : Sl) (B : Bx) | rt (r : Sv) (B : Bx)
abbrev DS := Sl → Bx → Option Out
def OutP (K : Frg) (C : Fx) (F : Hp) (D : Ends) : Out → Prop
  | .nx sl B => ∀ F' b' σ' H', Rel K C sl B F' b' σ' H' → Ext F F' → D.nx σ' H'
  | .bk sl B => ∀ F' b' σ' H', Rel K C sl B F' b' σ' H' → Ext F F' → D.bk σ' H'
  | .ct sl B => ∀ F' b' σ' H', Rel K C sl B F' b' σ' H' → Ext F F' → D.ct σ' H'
  | .rt r B => ∀ sl v F' b' σ' H', Rel K C sl B F' b' σ' H' → Ext F F' → SvR K F' H' b' v r → D.rt v H'
theorem OutP.mono {K : Frg} {C : Fx} {F F' : Hp} {D : Ends} {o : Out} (e : Ext F F') (h : OutP K C F D o) : OutP K C F' D o := by
  cases o with
  | nx sl B => exact fun F2 b σ H R e2 => h F2 b σ H R (e.trans e2)
  | bk sl B => exact fun F2 b σ H R e2 => h F2 b σ H R (e.trans e2)
  | ct sl B => exact fun F2 b σ H R e2 => h F2 b σ H R (e.trans e2)
  | rt r B => exact fun sl v F2 b σ H R e2 => h sl v F2 b σ H R (e.trans e2)
def liftS (K : Frg) (C : Fx) (d : DS) : TS := fun D σ H => ∃ sl B F b o, Rel K C sl B F b σ H ∧ d sl B = some o ∧ OutP K C F D o
def dNext : DS := fun sl B => some (.nx sl B)
def dSeq (d1 d2 : DS) : DS := fun sl B => (d1 sl B).bind fun o => match o with
  | .nx s2 B2 => d2 s2 B2
  | o => some o
def dAsg (i : Nat) (d : DE) : DS := fun sl B => (d sl B).map fun p => .nx (sl.set i (some (.dat p.1))) p.2
def dAsgV (i : Nat) (d : DV) : DS := fun sl B => (d sl B).bind fun p => match p.1 with
  | .own _ => none
  | s => some (.nx (sl.set i (some s)) p.2)
def dAsgO (i : Nat) (d : DL) : DS := fun sl B => (d sl B).map fun p => .nx (sl.set i (some (.own p.1))) p.2
def dAsgG (tg : DG) (d : DE) : DS := fun sl B => (d sl B).bind fun p => (tg p.1 sl).map fun s2 => .nx s2 p.2
def dPar (i j : Nat) (d d2 : DE) : DS := fun sl B => (d sl B).bind fun p => (d2 sl p.2).map fun q => .nx ((sl.set i (some (.dat p.1))).set j (some (.dat q.1))) q.2
def dDrop (d : DE) : DS := fun sl B => (d sl B).map fun p => .nx sl p.2
def dRet (d : DE) : DS := fun sl B => (d sl B).map fun p => .rt (.dat p.1) p.2
def dRetV (d : DV) : DS := fun sl B => (d sl B).map fun p => .rt p.1 p.2
def dRetN : DS := fun _ B => some (.rt (.dat .none) B)
def dIfS (t : DT) (d1 d2 : DS) : DS := fun sl B => (t sl B).bind fun p => if p.1 = true then d1 sl p.2 else d2 sl p.2
def dBreak : DS := fun sl B => some (.bk sl B)
def dCont : DS := fun sl B => some (.ct sl B)
def dNever : DS := fun _ _ => none
def dFz (i : Nat) (d : DS) : DS := fun sl B => match sl[i]? with
  | some (some (.own xs)) => d (sl.set i (some (.dat (.list xs)))) B
  | _ => d sl B
def dApp (j : Nat) (d : DE) : DS := fun sl B => (d sl B).bind fun p => match sl[j]? with
  | some (some (.own xs)) => if xs.length < sizeLine then some (.nx (sl.set j (some (.own (xs ++ [p.1])))) p.2) else none
  | _ => none
def loopOut (k : Sl → Bx → Option Out) : Out → Option Out
  | .nx s B => k s B
  | .ct s B => k s B
  | .bk s B => some (.nx s B)
  | .rt r B => some (.rt r B)
def forGo (tg : DG) (body : DS) : List PyData → Sl → Bx → Option Out
  | [], sl, B => some (.nx sl B)
  | x :: xs, sl, B => (tg x sl).bind fun s1 => (body s1 B).bind (loopOut (forGo tg body xs))
def dFor (it : DL) (tg : DG) (body : DS) : DS := fun sl B => (it sl B).bind fun p => forGo tg body p.1 sl p.2
def whN (c : DT) (b : DS) : Nat → Sl → Bx → Option Out
  | 0, _, _ => none
  | n + 1, sl, B => (c sl B).bind fun p => if p.1 = true then (b sl p.2).bind (loopOut (whN c b n)) else some (.nx sl p.2)
open Classical in
noncomputable def dWhile (c : DT) (b : DS) : DS := fun sl B => if h : ∃ o n, whN c b n sl B = some o then some (Classical.choose h) else none
theorem loopOut_mono {k k' : Sl → Bx → Option Out} (h : ∀ s B o, k s B = some o → k' s B = some o) {x o : Out} (e : loopOut k x = some o) : loopOut k' x = some o := by
  cases x with
  | nx s B => exact h s B o e
  | ct s B => exact h s B o e
  | bk s B => exact e
  | rt r B => exact e
theorem whN_succ (c : DT) (b : DS) : ∀ n sl B o, whN c b n sl B = some o → whN c b (n + 1) sl B = some o := by
  intro n
  induction n with
  | zero => intro sl B o e; cases e
  | succ n ih =>
    intro sl B o e
    unfold whN at e
    obtain ⟨⟨t, B1⟩, e1, e⟩ := bnd e
    unfold whN
    rw [e1]
    show (if t = true then (b sl B1).bind (loopOut (whN c b (n + 1))) else some (.nx sl B1)) = some o
    cases t with
    | false => exact e
    | true =>
      rw [if_pos rfl]
      have e : (b sl B1).bind (loopOut (whN c b n)) = some o := e
      obtain ⟨x, e2, e3⟩ := bnd e
      rw [e2]
      exact loopOut_mono (fun s B o => ih s B o) e3
theorem whN_le (c : DT) (b : DS) {n m : Nat} (h : n ≤ m) {sl B o} (e : whN c b n sl B = some o) : whN c b m sl B = some o := by
  induction h with
  | refl => exact e
  | step _ ih => exact whN_succ c b _ sl B o ih
theorem dWhile_of {c : DT} {b : DS} {n : Nat} {sl : Sl} {B : Bx} {o : Out} (e : whN c b n sl B = some o) : dWhile c b sl B = some o := by
  have h : ∃ o n, whN c b n sl B = some o := ⟨o, n, e⟩
  unfold dWhile
  rw [dif_pos h]
  obtain ⟨m, em⟩ := Classical.choose_spec h
  have e1 := whN_le c b (Nat.le_max_left n m) e
  have e2 := whN_le c b (Nat.le_max_right n m) em
  rw [e1] at e2
  exact e2.symm
theorem dWhile_ex {c : DT} {b : DS} {sl : Sl} {B : Bx} {o : Out} (e : dWhile c b sl B = some o) : ∃ n, whN c b n sl B = some o := by
  unfold dWhile at e
  split at e
  · rename_i h
    obtain ⟨m, em⟩ := Classical.choose_spec h
    cases e
    exact ⟨m, em⟩
  · cases e
/-- one turn of a while -/
theorem dWhile_turn {c : DT} {b : DS} {sl s2 : Sl} {B B1 B2 : Bx} {o : Out} (h1 : c sl B = some (true, B1)) (h2 : b sl B1 = some (.nx s2 B2)) (h3 : dWhile c b s2 B2 = some o) : dWhile c b sl B = some o := by
  obtain ⟨n, e⟩ := dWhile_ex h3
  refine dWhile_of (n := n + 1) ?_
  unfold whN
  rw [h1]
  show (b sl B1).bind _ = _
  rw [h2]
  exact e
theorem dWhile_ret {c : DT} {b : DS} {sl : Sl} {B B1 B2 : Bx} {r : Sv} (h1 : c sl B = some (true, B1)) (h2 : b sl B1 = some (.rt r B2)) : dWhile c b sl B = some (.rt r B2) := by
  refine dWhile_of (n := 1) ?_
  unfold whN
  rw [h1]
  show (b sl B1).bind _ = _
  rw [h2]
  rfl
theorem dWhile_end {c : DT} {b : DS} {sl : Sl} {B B1 : Bx} (h1 : c sl B = some (false, B1)) : dWhile c b sl B = some (.nx sl B1) := by
  refine dWhile_of (n := 1) ?_
  unfold whN
  rw [h1]
  rfl
section
variable {X : Cx} {C : Fx} {st : Stmt} {rest : List Stmt} {d1 d2 : DS} {e : Expr} {d : DE} {pos : Pos}
theorem ss_nil : PSs X [] (liftS X.K C dNext) := imp_ss (fun D σ H ⟨sl, B, F, b, o, R, e, k⟩ => by
  cases e
  exact k F b σ H R (Ext.refl _)) pss_nil
theorem ss_cons (h1 : PS X st (liftS X.K C d1)) (h2 : PSs X rest (liftS X.K C d2)) : PSs X (st :: rest) (liftS X.K C (dSeq d1 d2)) := imp_ss (fun D σ H ⟨sl, B, F, b, o, R, e, k⟩ => by
  obtain ⟨o1, e1, e⟩ := bnd e
  refine ⟨sl, B, F, b, o1, R, e1, ?_⟩
  cases o1 with
  | nx s2 B2 => exact fun F' b' σ' H' R' ex => ⟨s2, B2, F', b', o, R', e, k.mono ex⟩
  | bk s2 B2 => cases e; exact k
  | ct s2 B2 => cases e; exact k
  | rt r B2 => cases e; exact k) (pss_cons h1 h2)
theorem ss_one (h1 : PS X st (liftS X.K C d1)) : PSs X [st] (liftS X.K C d1) := pss_one h1
theorem ss_fz (i : Nat) (h : PSs X rest (liftS X.K C d1)) : PSs X rest (liftS X.K C (dFz i d1)) := imp_ss (fun D σ H ⟨sl, B, F, b, o, R, e, k⟩ => by
  unfold dFz at e
  split at e
  · rename_i xs hx
    obtain ⟨F', ex, R'⟩ := R.frz hx
    exact ⟨_, B, F', b, o, R', e, k.mono ex⟩
  · exact ⟨sl, B, F, b, o, R, e, k⟩) h
theorem s_never : PS X st (liftS X.K C dNever) := imp_s (fun D σ H ⟨sl, B, F, b, o, R, e, k⟩ => by cases e) ps_never
theorem s_pass : PS X (.Pass pos) (liftS X.K C dNext) := imp_s (fun D σ H ⟨sl, B, F, b, o, R, e, k⟩ => by
  cases e
  exact k F b σ H R (Ext.refl _)) ps_pass
theorem s_break : PS X (.Break pos) (liftS X.K C dBreak) := imp_s (fun D σ H ⟨sl, B, F, b, o, R, e, k⟩ => by
  cases e
  exact k F b σ H R (Ext.refl _)) ps_break
theorem s_cont : PS X (.Continue pos) (liftS X.K C dCont) := imp_s (fun D σ H ⟨sl, B, F, b, o, R, e, k⟩ => by
  cases e
  exact k F b σ H R (Ext.refl _)) ps_continue
theorem s_ret (h : PE X e (liftE X.K C d)) : PS X (.Return (some e) pos) (liftS X.K C (dRet d)) := imp_s (fun D σ H ⟨sl, B, F, b, o, R, e, k⟩ => by
  obtain ⟨⟨x, B1⟩, e1, e⟩ := mpd e
  cases e
  exact ⟨sl, B, F, b, _, _, R, e1, fun v H' F' b' R' S' q => k sl v F' b' σ H' R' S'.ex q⟩) (ps_ret h)
theorem s_retV {d : DV} (h : PE X e (liftV X.K C d)) : PS X (.Return (some e) pos) (liftS X.K C (dRetV d)) := imp_s (fun D σ H ⟨sl, B, F, b, o, R, e, k⟩ => by
  obtain ⟨⟨x, B1⟩, e1, e⟩ := mpd e
  cases e
  exact ⟨sl, B, F, b, _, _, R, e1, fun v H' F' b' R' S' q => k sl v F' b' σ H' R' S'.ex q⟩) (ps_ret h)
theorem s_retN : PS X (.Return none pos) (liftS X.K C dRetN) := imp_s (fun D σ H ⟨sl, B, F, b, o, R, e, k⟩ => by
  cases e
  exact k sl .non F b σ H R (Ext.refl _) .non) ps_retN
theorem s_drop (h : PE X e (liftE X.K C d)) (hs : swapsWith e none pos.line X.env = pure false := by rfl) : PS X (.Expr e pos) (liftS X.K C (dDrop d)) := imp_s (fun D σ H ⟨sl, B, F, b, o, R, e, k⟩ => by
  obtain ⟨⟨x, B1⟩, e1, e⟩ := mpd e
  cases e
  exact ⟨sl, B, F, b, _, _, R, e1, fun v H' F' b' R' S' q => k F' b' σ H' R' S'.ex⟩) (ps_expr h hs)
theorem s_if {c : Expr} {a b : List Stmt} {t : DT} (hc : PT X c (liftT X.K C t)) (ha : PSs X a (liftS X.K C d1)) (hb : PSs X b (liftS X.K C d2)) : PS X (.If c a b pos) (liftS X.K C (dIfS t d1 d2)) := imp_s (fun D σ H ⟨sl, B, F, b, o, R, e, k⟩ => by
  obtain ⟨⟨x, B1⟩, e1, e⟩ := bnd e
  refine ⟨sl, B, F, b, x, B1, R, e1, fun H' F' b' R' S' => ?_⟩
  cases x with
  | true => exact iteT ⟨sl, B1, F', b', o, R', e, k.mono S'.ex⟩
  | false => exact iteF ⟨sl, B1, F', b', o, R', e, k.mono S'.ex⟩) (ps_if hc ha hb)
theorem asg_imp {i : Nat} : ∀ D σ H, liftS X.K C (dAsg i d) D σ H → tAsg (liftE X.K C d) (gName i) D σ H := fun D σ H ⟨sl, B, F, b, o, R, e, k⟩ => by
  obtain ⟨⟨x, B1⟩, e1, e⟩ := mpd e
  cases e
  exact ⟨sl, B, F, b, _, _, R, e1, fun v H' F' b' R' S' q => k F' b' _ H' (R'.put (s := .dat _) q (fun _ z => nomatch z)) S'.ex⟩
theorem asgO_imp {i : Nat} {d : DL} : ∀ D σ H, liftS X.K C (dAsgO i d) D σ H → tAsg (liftL X.K C d) (gName i) D σ H := fun D σ H ⟨sl, B, F, b, o, R, e, k⟩ => by
  obtain ⟨⟨x, B1⟩, e1, e⟩ := mpd e
  cases e
  exact ⟨sl, B, F, b, _, _, R, e1, fun a vs H' F' b' R' S' h0 h1 h2 h3 h4 => k F' b' _ H' (R'.putO h3 h4 h1 h2 (R.t0 h0) (fun j ys ej => R.ownT ej h0)) S'.ex⟩
theorem s_set (i : Nat) {x : Str} {pos' : Pos} (hN : X.N.Nodup) (he : PE X e (liftE X.K C d)) (hi : X.N[i]? = some x := by rfl) (hx : Loc X.env.scope x := by first | exact .inl rfl | exact .inr rfl) (hs : swapsWith e (some (.Name x pos')) pos.line X.env = pure false := by rfl) (hf : X.fn x = true ∨ X.env.scope.names.lookup x = some .local := by first | exact .inl rfl | exact .inr rfl) :
    PS X (.Assign [.Name x pos'] e pos) (liftS X.K C (dAsg i d)) := imp_s asg_imp (ps_set hN hi hx he hs hf)
theorem s_setO (i : Nat) {x : Str} {pos' : Pos} {d : DL} (hN : X.N.Nodup) (he : PE X e (liftL X.K C d)) (hi : X.N[i]? = some x := by rfl) (hx : Loc X.env.scope x := by first | exact .inl rfl | exact .inr rfl) (hs : swapsWith e (some (.Name x pos')) pos.line X.env = pure false := by rfl) (hf : X.fn x = true ∨ X.env.scope.names.lookup x = some .local := by first | exact .inl rfl | exact .inr rfl) :
    PS X (.Assign [.Name x pos'] e pos) (liftS X.K C (dAsgO i d)) := imp_s asgO_imp (ps_set hN hi hx he hs hf)
theorem s_setV (i : Nat) {x : Str} {pos' : Pos} {d : DV} (hN : X.N.Nodup) (he : PE X e (liftV X.K C d)) (hi : X.N[i]? = some x := by rfl) (hx : Loc X.env.scope x := by first | exact .inl rfl | exact .inr rfl) (hs : swapsWith e (some (.Name x pos')) pos.line X.env = pure false := by rfl) (hf : X.fn x = true ∨ X.env.scope.names.lookup x = some .local := by first | exact .inl rfl | exact .inr rfl) :
    PS X (.Assign [.Name x pos'] e pos) (liftS X.K C (dAsgV i d)) := imp_s (fun D σ H ⟨sl, B, F, b, o, R, e, k⟩ => by
  obtain ⟨⟨x, B1⟩, e1, e⟩ := bnd e
  cases x with
  | own xs => cases e
  | dat z => cases e; exact ⟨sl, B, F, b, _, _, R, e1, fun v H' F' b' R' S' q => k F' b' _ H' (R'.put q (fun xs z => nomatch z)) S'.ex⟩
  | box => cases e; exact ⟨sl, B, F, b, _, _, R, e1, fun v H' F' b' R' S' q => k F' b' _ H' (R'.put q (fun xs z => nomatch z)) S'.ex⟩
  | cells => cases e; exact ⟨sl, B, F, b, _, _, R, e1, fun v H' F' b' R' S' q => k F' b' _ H' (R'.put q (fun xs z => nomatch z)) S'.ex⟩
  | scr ns => cases e; exact ⟨sl, B, F, b, _, _, R, e1, fun v H' F' b' R' S' q => k F' b' _ H' (R'.put q (fun xs z => nomatch z)) S'.ex⟩) (ps_set hN hi hx he hs hf)
/-- y = [.. for ..]: frozen | one's own -/
theorem s_setLc (i : Nat) {y : Str} {py : Pos} {elt tg iter : Expr} {ifs : List Expr} {scope : Scope} {own : List (Str × Nat)} {pos spos : Pos} {it : DL} {dg : DG} {t : DT} {e : DE} {ws : List Nat} (hc : X.calm = true) (hN : X.N.Nodup) (hsw : swapsWith (.ListComp elt [⟨tg, iter, ifs, 0⟩] scope pos) (some (.Name y py)) spos.line X.env = pure true) (hi : PI X tg iter (liftIo X.K C it)) (ok : BlkOk X.N X.env.scope scope own)
    (hg : ∀ (s : Shared) (H : Hp) (CC : Addr) (cl : List (Str × Addr)) (fp : List Addr), PG (X.blk s H scope (compEnvC scope cl CC X.env) fp) tg (liftG X.K C dg ws)) (ht : ∀ (s : Shared) (H : Hp) (CC : Addr) (cl : List (Str × Addr)) (fp : List Addr), PTs (X.blk s H scope (compEnvC scope cl CC X.env) fp) ifs (liftT X.K C t))
    (he : ∀ (s : Shared) (H : Hp) (CC : Addr) (cl : List (Str × Addr)) (fp : List Addr), PE (X.blk s H scope (compEnvC scope cl CC X.env) fp) elt (liftE X.K C e)) (hy : X.N[i]? = some y := by rfl) (hyl : X.env.scope.names.lookup y = some .local := by rfl) {us : List Nat} (hu : own.map (·.2) = us := by rfl) (hw : ∀ j ∈ ws, j ∈ us := by decide) (hs : ∀ x, foldedSetIterable iter X.env x = pure x := by intro _; rfl) :
    PS X (.Assign [.Name y py] (.ListComp elt [⟨tg, iter, ifs, 0⟩] scope pos) spos) (liftS X.K C (dAsgO i (dCmp it dg t e us))) := by
  subst hu
  exact imp_s (fun D σ H w => lc_imp hw σ H _ (asgO_imp D σ H w)) (ps_setLc hc hN hy hyl hsw hi ok hg ht he hs)
theorem s_asgG {tg : Expr} {dg : DG} {ws : List Nat} (he : PE X e (liftE X.K C d)) (hg : PG X tg (liftG X.K C dg ws)) (hs : swapsWithSole [tg] e pos.line X.env = pure false := by rfl) (hw : swappedStores [tg] e X.env = pure none := by rfl)
    (h1 : (assignEach [tg] X.env).map (·.2) = [assign tg X.env] := by rfl) : PS X (.Assign [tg] e pos) (liftS X.K C (dAsgG dg d)) := imp_s (fun D σ H ⟨sl, B, F, b, o, R, e, k⟩ => by
  obtain ⟨⟨x, B1⟩, e1, e⟩ := bnd e
  obtain ⟨s2, e2, e⟩ := mpd e
  cases e
  exact ⟨sl, B, F, b, _, _, R, e1, fun v H' F' b' R' S' q => ⟨sl, B1, F', b', x, s2, R', q, e2, fun σ' R2 _ => k F' b' σ' H' R2 S'.ex⟩⟩) (ps_asg he hg hs hw h1)
theorem s_par (i j : Nat) {x y : Str} {a c : Expr} {da db : DE} {px py pt : Pos} {kt k2 pt2} (hc : X.calm = true) (hN : X.N.Nodup) (hij : i ≠ j) (ha : PE X a (liftE X.K C da)) (hb : PE X c (liftE X.K C db)) (hi : X.N[i]? = some x := by rfl) (hj : X.N[j]? = some y := by rfl)
    (hx : X.env.scope.names.lookup x = some .local := by rfl) (hy : X.env.scope.names.lookup y = some .local := by rfl)
    (hw : swappedStores [.Tuple [.Name x px, .Name y py] kt pt] (.Tuple [a, c] k2 pt2) X.env = pure (some [x, y]) := by rfl)
    (hs : swapsWithSole [.Tuple [.Name x px, .Name y py] kt pt] (.Tuple [a, c] k2 pt2) pos.line X.env = pure false := by rfl)
    (hs1 : starEach (a :: [c]) X.env = (false, eval a X.env) :: starEach [c] X.env := by rfl) (hs2 : starEach (c :: []) X.env = (false, eval c X.env) :: starEach [] X.env := by rfl) :
    PS X (.Assign [.Tuple [.Name x px, .Name y py] kt pt] (.Tuple [a, c] k2 pt2) pos) (liftS X.K C (dPar i j da db)) := imp_s (fun D σ H ⟨sl, B, F, b, o, R, e, k⟩ => by
  obtain ⟨⟨u, B1⟩, e1, e⟩ := bnd e
  obtain ⟨⟨w, B2⟩, e2, e⟩ := mpd e
  cases e
  exact ⟨sl, B, F, b, _, _, R, e1, fun v1 H1 F1 b1 R1 S1 q1 => ⟨sl, B1, F1, b1, _, _, R1, e2, fun v2 H2 F2 b2 R2 S2 q2 => ⟨v1, v2, rfl, k F2 b2 _ H2 ((R2.put (s := .dat _) (Rp.mono S2.ex q1) (fun _ z => nomatch z)).put (s := .dat _) q2 (fun _ z => nomatch z)) (S1.ex.trans S2.ex)⟩⟩⟩)
  (ps_par (ta := tCons (liftE X.K C da) (tCons (liftE X.K C db) tNil)) hc hN hi hj hij hx hy (pa_cons ha (pa_cons hb pa_nil hs2) hs1) hw hs)
theorem s_app (j : Nat) (h : PE X e (tBM X.K "list" rAppend (tVar j) (tCons (liftE X.K C d) tNil))) (hs : swapsWith e none pos.line X.env = pure false := by rfl) :
    PS X (.Expr e pos) (liftS X.K C (dApp j d)) := imp_s (fun D σ H ⟨sl, B, F, b, o, R, e, k⟩ => by
  obtain ⟨⟨u, B1⟩, e1, e⟩ := bnd e
  split at e
  · rename_i xs hx
    split at e
    · rename_i hz
      cases e
      obtain ⟨v, ev, a, vs, rfl, g1, g2, g3, g4⟩ := R.slt j _ hx
      refine ⟨_, ev, .inl ⟨rfl, _, SqL.of g1⟩, sl, B, F, b, u, B1, R, e1, fun y H1 F1 b1 R1 S1 q1 => ?_⟩
      refine ⟨a, vs, y, rfl, rfl, S1.pr a _ g1 g4, by rw [g2.length]; exact hz, ?_⟩
      exact k F1 b1 σ _ (R1.chg hx ev (Rps.append (Rps.mono S1.ex g2) (.one q1))) S1.ex
    · cases e
  · cases e) (ps_expr h hs)
theorem s_for {tg iter : Expr} {body : List Stmt} {it : DL} {dg : DG} {ws : List Nat} {db : DS} (hp : PassesOwn (model X.prog X.w) X.A X.env X.xe) (hc : X.calm = true) (hi : PI X tg iter (liftI X.K C it)) (hg : PG X tg (liftG X.K C dg ws)) (hb : PSs X body (liftS X.K C db))
    (hs : ∀ x, foldedSetIterable iter X.env x = pure x := by intro _; rfl) : PS X (.For tg iter body [] pos) (liftS X.K C (dFor it dg db)) := imp_s (fun D σ H ⟨sl, B, F, b, o, R, he, k⟩ => by
  obtain ⟨⟨xs, B1⟩, e1, he⟩ := bnd he
  refine ⟨sl, B, F, b, xs, B1, R, e1, fun J H1 F1 b1 R1 S1 wk => ?_⟩
  refine ⟨fun i m σ' H' => m = xs.length - i ∧ i ≤ xs.length ∧ ∃ s B2 F2 b2, Rel X.K C s B2 F2 b2 σ' H' ∧ Ext F1 F2 ∧ forGo dg db (xs.drop i) s B2 = some o ∧ OutP X.K C F2 D o,
    ⟨_, rfl, Nat.zero_le _, sl, B1, F1, b1, R1, Ext.refl _, he, k.mono S1.ex⟩, ?_⟩
  rintro i m σ' H' ⟨rfl, hi, s, B2, F2, b2, R2, x2, h1, h2⟩
  obtain ⟨w1, w2⟩ := wk i F2 H' x2 R2.fro trivial
  by_cases hlt : i < xs.length
  · have hx : xs[i]? = some xs[i] := List.getElem?_eq_getElem hlt
    obtain ⟨go, yl⟩ := w1 _ hx
    rw [List.drop_eq_getElem_cons hlt] at h1
    unfold forGo at h1
    obtain ⟨s1, g1, h1⟩ := bnd h1
    obtain ⟨o1, g2, h1⟩ := bnd h1
    refine .inr ⟨go, fun σ'' H'' => ∃ s B2 F2 b2, Rel X.K C s B2 F2 b2 σ'' H'' ∧ Ext F1 F2 ∧ forGo dg db (xs.drop (i + 1)) s B2 = some o ∧ OutP X.K C F2 D o,
      fun σ'' H'' hn => ⟨xs.length - (i + 1), by omega, rfl, hlt, hn⟩, fun v H3 y => ?_⟩
    obtain ⟨F3, al, rv⟩ := yl v H3 y
    obtain ⟨R3, S3⟩ := al.rel R2
    refine ⟨s, B2, F3, b2, xs[i], s1, R3, rv, g1, fun σ4 R4 _ => ⟨s1, B2, F3, b2, o1, R4, g2, ?_⟩⟩
    have h3 := h2.mono S3.ex
    cases o1 with
    | nx s5 B5 => exact fun F5 b5 σ5 H5 R5 x5 => ⟨s5, B5, F5, b5, R5, (x2.trans S3.ex).trans x5, h1, h3.mono x5⟩
    | ct s5 B5 => exact fun F5 b5 σ5 H5 R5 x5 => ⟨s5, B5, F5, b5, R5, (x2.trans S3.ex).trans x5, h1, h3.mono x5⟩
    | bk s5 B5 =>
      cases h1
      exact fun F5 b5 σ5 H5 R5 x5 => h3 F5 b5 σ5 H5 R5 x5
    | rt r5 B5 =>
      cases h1
      exact h3
  · have e0 : i = xs.length := by omega
    subst e0
    refine .inl ⟨w2 rfl, ?_⟩
    rw [List.drop_length] at h1
    cases h1
    exact h2 F2 b2 σ' H' R2 (Ext.refl _)) (ps_for hp hc hi hg hb hs)
theorem s_while {c : Expr} {body : List Stmt} {t : DT} {db : DS} (hp : PassesOwn (model X.prog X.w) X.A X.env X.xe) (hc : PT X c (liftT X.K C t)) (hb : PSs X body (liftS X.K C db)) : PS X (.While c body [] pos) (liftS X.K C (dWhile t db)) := imp_s (fun D σ H ⟨sl, B, F, b, o, R, he, k⟩ => by
  obtain ⟨n, he⟩ := dWhile_ex he
  refine ⟨fun m σ' H' => ∃ s B2 F2 b2, Rel X.K C s B2 F2 b2 σ' H' ∧ whN t db m s B2 = some o ∧ OutP X.K C F2 D o, ⟨n, sl, B, F, b, R, he, k⟩, ?_⟩
  rintro m σ' H' ⟨s, B2, F2, b2, R2, h1, h2⟩
  cases m with
  | zero => cases h1
  | succ m =>
    unfold whN at h1
    obtain ⟨⟨tb, B3⟩, e1, h1⟩ := bnd h1
    refine ⟨s, B2, F2, b2, tb, B3, R2, e1, fun H3 F3 b3 R3 S3 => ?_⟩
    have h3 := h2.mono S3.ex
    cases tb with
    | false =>
      cases h1
      exact iteF (h3 F3 b3 σ' H3 R3 (Ext.refl _))
    | true =>
      have h1 : (db s B3).bind (loopOut (whN t db m)) = some o := h1
      obtain ⟨o1, g2, h1⟩ := bnd h1
      refine iteT ⟨fun σ'' H'' => ∃ s B2 F2 b2, Rel X.K C s B2 F2 b2 σ'' H'' ∧ whN t db m s B2 = some o ∧ OutP X.K C F2 D o, fun σ'' H'' hn => ⟨m, by omega, hn⟩, s, B3, F3, b3, o1, R3, g2, ?_⟩
      cases o1 with
      | nx s5 B5 => exact fun F5 b5 σ5 H5 R5 x5 => ⟨s5, B5, F5, b5, R5, h1, h3.mono x5⟩
      | ct s5 B5 => exact fun F5 b5 σ5 H5 R5 x5 => ⟨s5, B5, F5, b5, R5, h1, h3.mono x5⟩
      | bk s5 B5 =>
        cases h1
        exact fun F5 b5 σ5 H5 R5 x5 => h3 F5 b5 σ5 H5 R5 x5
      | rt r5 B5 =>
        cases h1
        exact h3) (ps_while hp hc hb)
end
/-! ### a def -/
def nown : Sv → Bool
  | .own _ => false
  | _ => true
def dFun (n m : Nat) (body : DS) : FD := fun ss B => if ss.length = n ∧ ss.all nown = true then (body (ss.map some ++ List.replicate m none) B).bind fun o => match o with
    | .rt r B' => some (r, B')
    | .nx _ B' => some (.dat .none, B')
    | _ => none
  else none
theorem svs_len {K : Frg} {F H : Hp} {b : Bad} : ∀ {vs : List V} {ss : List Sv}, SvsR K F H b vs ss → vs.length = ss.length
  | _, _, .nil => rfl
  | _, _, .cons _ t => by rw [List.length_cons, List.length_cons, svs_len t]
theorem svs_get {K : Frg} {F H : Hp} {b : Bad} : ∀ {vs : List V} {ss : List Sv} {i : Nat} {s : Sv}, SvsR K F H b vs ss → ss[i]? = some s → ∃ v, vs[i]? = some v ∧ SvR K F H b v s
  | _, _, 0, _, .cons h _, e => by cases e; exact ⟨_, rfl, h⟩
  | _, _, i + 1, _, .cons _ t, e => svs_get (i := i) t e
  | _, _, _, _, .nil, e => by cases e
theorem start_rel {K : Frg} {F H : Hp} {b : Bad} {B : Bx} {vs : List V} {ss : List Sv} {N : List Str} {m : Nat} (fr : Ext F H) (bx : BxR F H b B) (h : SvsR K F H b vs ss) (hn : ss.all nown = true) (hN : N.length = ss.length + m) :
    Rel K ⟨H, F, b⟩ (ss.map some ++ List.replicate m none) B F b (L2.start N vs) H := by
  have hl := svs_len h
  have no : ∀ (i : Nat) (xs : List PyData), (ss.map some ++ List.replicate m none)[i]? ≠ some (some (.own xs)) := fun i xs e => by
    rw [List.getElem?_append] at e
    split at e
    · rw [List.getElem?_map] at e
      obtain ⟨s, e1, e2⟩ := mpd e
      cases e2
      have := List.all_eq_true.mp hn _ (List.mem_of_getElem? e1)
      cases this
    · rw [List.getElem?_replicate] at e
      split at e
      · cases e
      · cases e
  refine ⟨fr, ?_, fun i s e => ?_, fun i j xs ys a e _ _ _ => absurd e (no i xs), fun i xs a e _ => absurd e (no i xs), bx, Ext.refl _, fun a _ h => h, fun a o h _ => h, fun p h => h, fun a h => .inr h⟩
  · unfold L2.start
    simp only [List.length_append, List.length_map, List.length_replicate]
    omega
  · rw [List.getElem?_append] at e
    split at e
    · rename_i hi
      rw [List.getElem?_map] at e
      obtain ⟨s', e1, e2⟩ := mpd e
      cases e2
      obtain ⟨v, h1, h2⟩ := svs_get h e1
      refine ⟨v, ?_, h2⟩
      unfold L2.start
      rw [List.getElem?_append_left (by simp at hi ⊢; omega), List.getElem?_map, h1]
      rfl
    · rw [List.getElem?_replicate] at e
      split at e
      · cases e
      · cases e
theorem end_stp {K : Frg} {F H F' H' : Hp} {b b' : Bad} {sl : Sl} {B : Bx} {σ : L2.St} (R : Rel K ⟨H, F, b⟩ sl B F' b' σ H') : Stp F b H F' b' H' :=
  ⟨R.e1, R.e3, R.e2, R.e4, fun a h => by
    rcases R.e5 a h with q | q
    · exact .inr q
    · exact .inl q, fun a h z => by
    have := R.t0 z
    exact h this⟩
section
variable {P : Program} {w : World} {K : Frg} {mg : Str → Option Value} {base : Heap}
theorem def_ok {x qual : Str} {st : Stmt} {f : Addr} {fd : FuncData} {N ps : List Str} {k n m : Nat} {body : DS} (F : Fun K x qual st f fd) (S : FnScope N ps (defScope st)) (hn : ps.length = n) (hN : N.length = n + m)
    (hbody : ∀ (cdv : Value) (A : Around) (outer : List Env) (s : Shared) (H : Hp) (E : XK) (C : Fx), Room k (A.deeper (envOfC qual (defScope st) s.heap.objs.size f cdv)) → PSs (cxOf CX0 P w K mg base N qual (defScope st) f cdv A outer s H E).nox (defBody st) (liftS K C body)) :
    FnOk P w K mg base CX0 (k + 1) f fd ps (spD K (dFun n m body)) := by
  refine F.ok S (fun vs H Q E h => ?_) (fun cdv A outer s H vs Q E hr h => ?_)
  · obtain ⟨F, b, B, ss, r, B', _, _, h1, h2, _⟩ := h
    unfold dFun at h2
    split at h2
    · rename_i hz
      rw [svs_len h1, hz.1, hn]
    · cases h2
  · obtain ⟨F, b, B, ss, r, B', fr, bx, h1, h2, k⟩ := h
    refine ⟨_, hbody cdv A outer s H E ⟨H, F, b⟩ hr, ?_⟩
    unfold dFun at h2
    split at h2
    · rename_i hz
      obtain ⟨o, e1, e2⟩ := bnd h2
      refine ⟨_, B, F, b, o, start_rel fr bx h1 hz.2 (by rw [hN, hz.1]), e1, ?_⟩
      cases o with
      | nx s2 B2 =>
        cases e2
        exact fun F' b' σ' H' R ex => k .non H' F' b' R.fro R.bx (end_stp R) .non
      | bk s2 B2 => cases e2
      | ct s2 B2 => cases e2
      | rt r2 B2 =>
        cases e2
        exact fun sl v F' b' σ' H' R ex q => k v H' F' b' R.fro R.bx (end_stp R) q
    · cases h2
end
end Dn

set_option Elab.async false
set_option linter.all false
set_option autoImplicit false
set_option maxRecDepth 100000
set_option maxHeartbeats 1000000
namespace Dn
open PySem PySem.Spec PyProof.Rows L2

/-! ### the box from which the law draws -/
def dBget (i : Nat) (k : Int) : DE := fun sl B => match sl[i]? with
  | some (some .box) => if 1 ≤ k then (B.regs[(k - 1).toNat]?).map fun n => (.int n, B) else none
  | _ => none
def dBcells (i : Nat) : DV := fun sl B => match sl[i]? with
  | some (some .box) => some (.cells, B)
  | _ => none
def dLenC (d : DV) : DE := fun sl B => (d sl B).bind fun p => match p.1 with
  | .cells => some (.int (p.2.cells.length : Int), p.2)
  | _ => none
def dGetC (d : DV) (e : DE) : DE := fun sl B => (d sl B).bind fun p => match p.1 with
  | .cells => (e sl p.2).bind fun q => match q.1 with
    | .int k => (atI q.2.cells k).map fun n => (.int n, q.2)
    | _ => none
  | _ => none
def dPopC (d : DV) : DE := fun sl B => (d sl B).bind fun p => match p.1 with
  | .cells => match p.2.cells with
    | c :: r => some (.int c, { p.2 with cells := r })
    | [] => none
  | _ => none
def dBset (i : Nat) (k : Int) (d : DE) : DS := fun sl B => (d sl B).bind fun p => match p.1, sl[i]? with
  | .int n, some (some .box) => if 1 ≤ k ∧ (k - 1).toNat < p.2.regs.length then some (.nx sl { p.2 with regs := p.2.regs.set (k - 1).toNat n }) else none
  | _, _ => none
def dLenS (i : Nat) : DE := fun sl B => match sl[i]? with
  | some (some (.scr ns)) => some (.int (ns.length : Int), B)
  | _ => none
def dNewB (i : Nat) (k : Int) (d : DL) : DV := fun sl B => match sl[i]? with
  | some (some (.scr ns)) => if B.on = false ∧ 0 ≤ k then (d sl B).bind fun p => (intsOf p.1).bind fun rs => if rs.length < 100 ∧ p.2.on = false then some (.box, ⟨ns.take k.toNat, rs, true⟩) else none else none
  | _ => none
theorem sized (n : Nat) (h : n ≤ 1000) : n ≤ sizeLine := Nat.le_of_lt (small1000 h)
theorem atI_map {α β : Type} (f : α → β) (xs : List α) (i : Int) : atI (xs.map f) i = (atI xs i).map f := by
  unfold atI
  rw [List.length_map]
  cases ixN xs.length i with
  | none => rfl
  | some j => simp
theorem atI_pos {α : Type} {v : α} {xs : List α} {k : Int} {x : α} (hk : 1 ≤ k) (h : xs[(k - 1).toNat]? = some x) : atI (v :: xs) k = some x := by
  have e : k = (((k - 1).toNat + 1 : Nat) : Int) := by omega
  rw [e]
  exact atI_nat (by rw [List.getElem?_cons_succ]; exact h)
section
variable {X : Cx} {C : Fx} {e : Expr} {es : List Expr} {d : DE} {dv : DV} {pos p pk : Pos} {x : Str} {jk : Nat}
theorem e_bget (i : Nat) (k : Int) (hN : X.N[i]? = some x := by rfl) (hv : Vis X.env.scope x := by first | exact Or.inl rfl | exact Or.inr (Or.inl rfl) | exact Or.inr (Or.inr rfl)) (hd : (x == ("__debug__" : Str)) = false := by decide) (hcd : (x == ("__classdict__" : Str)) = false := by decide) :
    PE X (.Subscript (.Name x p) (.Constant (.int k) jk pk) pos) (liftE X.K C (dBget i k)) :=
  imp_e (fun σ H Q ⟨sl, B, F, b, r, B', R, e, kk⟩ => by
    unfold dBget at e
    split at e
    · rename_i hs
      split at e
      · rename_i hk
        obtain ⟨n, e1, e⟩ := mpd e
        cases e
        obtain ⟨v, hv, q, hq, rfl⟩ := R.slt i _ hs
        have hb := R.bx.at_ q hq
        refine ⟨_, hv, q.1, _, k, .int n, rfl, rfl, SqL.of hb.1, ?_, kk _ H F b R Stp.refl (.int n)⟩
        exact atI_pos hk (by rw [List.getElem?_map, e1]; rfl)
      · cases e
    · cases e) (pe_ix ix_list (pe_var hN hv hd hcd) pe_int (fun _ _ => rfl))
theorem v_cells (i : Nat) (hN : X.N[i]? = some x := by rfl) (hv : Vis X.env.scope x := by first | exact Or.inl rfl | exact Or.inr (Or.inl rfl) | exact Or.inr (Or.inr rfl)) (hd : (x == ("__debug__" : Str)) = false := by decide) (hcd : (x == ("__classdict__" : Str)) = false := by decide) :
    PE X (.Subscript (.Name x p) (.Constant (.int 0) jk pk) pos) (liftV X.K C (dBcells i)) :=
  imp_e (fun σ H Q ⟨sl, B, F, b, r, B', R, e, kk⟩ => by
    unfold dBcells at e
    split at e
    · rename_i hs
      cases e
      obtain ⟨v, hv, q, hq, rfl⟩ := R.slt i _ hs
      have hb := R.bx.at_ q hq
      exact ⟨_, hv, q.1, _, 0, .ref q.2, rfl, rfl, SqL.of hb.1, atI_nat (j := 0) rfl, kk _ H F b R Stp.refl ⟨q, hq, rfl⟩⟩
    · cases e) (pe_ix ix_list (pe_var hN hv hd hcd) pe_int (fun _ _ => rfl))
theorem e_lenC (hm : X.mg "len" = none) (h : PE X e (liftV X.K C dv)) (hg : Gl X "len" := by rfl) (hs : starEach (e :: []) X.env = (false, eval e X.env) :: starEach [] X.env := by rfl) (hpl : (backTo pos (starEach [] X.env)).any (·.1) = false := by rfl) : PE X (.Call (.Name "len" p) [e] [] pos) (liftE X.K C (dLenC dv)) :=
  imp_e (fun σ H Q ⟨sl, B, F, b, r, B', R, e, kk⟩ => by
    obtain ⟨⟨y, B1⟩, e1, e⟩ := bnd e
    split at e
    · rename_i hy
      cases e
      have hy : y = .cells := hy
      subst hy
      refine ⟨sl, B, F, b, _, _, R, e1, fun v H' F' b' R' S' ⟨q, hq, ev⟩ => ?_⟩
      subst ev
      have hb := R'.bx.at_ q hq
      refine ⟨_, _, rfl, .inl ⟨_, SqL.of hb.2.1, rfl⟩, ?_⟩
      rw [List.length_map]
      exact kk _ H' F' b' R' S' (.int _)
    · cases e) (pe_callB call_len hg hm PySem.boot_len (pa_cons h pa_nil hs) (by decide) (by decide) hs hpl)
theorem e_getC (h : PE X e (liftV X.K C dv)) {c : Expr} (hc : PE X c (liftE X.K C d)) (hs : PlainIx c := by exact fun _ _ => rfl) : PE X (.Subscript e c pos) (liftE X.K C (dGetC dv d)) :=
  imp_e (fun σ H Q ⟨sl, B, F, b, r, B', R, e, kk⟩ => by
    obtain ⟨⟨y, B1⟩, e1, e⟩ := bnd e
    split at e
    · rename_i hy
      have hy : y = .cells := hy
      subst hy
      obtain ⟨⟨z, B2⟩, e2, e⟩ := bnd e
      split at e
      · rename_i k hz
        have hz : z = .int k := hz
        subst hz
        obtain ⟨n, e3, e⟩ := mpd e
        cases e
        refine ⟨sl, B, F, b, _, _, R, e1, fun v H1 F1 b1 R1 S1 q1 => ⟨sl, _, F1, b1, _, _, R1, e2, fun u H2 F2 b2 R2 S2 q2 => ?_⟩⟩
        obtain ⟨q, hq, ev⟩ := q1.mono S2
        subst ev
        cases q2
        have hb := R2.bx.at_ q hq
        refine ⟨q.2, _, k, .int n, rfl, rfl, SqL.of hb.2.1, ?_, kk _ H2 F2 b2 R2 (S1.trans S2) (.int n)⟩
        rw [atI_map, e3]; rfl
      · cases e
    · cases e) (pe_ix ix_list h hc hs)
theorem e_popC (h : PE X e (tBM X.K "list" rPopAt (liftV X.K C dv) (tCons (tC (.int 0)) tNil))) : PE X e (liftE X.K C (dPopC dv)) :=
  imp_e (fun σ H Q ⟨sl, B, F, b, r, B', R, e, kk⟩ => by
    obtain ⟨⟨y, B1⟩, e1, e⟩ := bnd e
    split at e
    · rename_i hy
      have hy : y = .cells := hy
      subst hy
      split at e
      · rename_i c rr hc
        cases e
        refine ⟨sl, B, F, b, _, _, R, e1, fun v H1 F1 b1 R1 S1 ⟨q, hq, ev⟩ => ?_⟩
        subst ev
        have hb := R1.bx.at_ q hq
        have hc : B1.cells = c :: rr := hc
        refine ⟨.inl ⟨rfl, _, SqL.of hb.2.1⟩, q.2, _, 0, 0, .int c, rfl, rfl, hb.2.1, by decide, by decide, ?_, by rw [hc]; rfl, ?_⟩
        · rw [hc]
          show seqIndex? 0 (List.map V.int (c :: rr)).length = some 0
          rw [List.length_map, List.length_cons]
          unfold seqIndex?
          simp
        · have nx : q.1 ≠ q.2 := hb.2.2.2.2
          have bx' : BxR F1 (upd H1 q.2 (.lst ((B1.cells.map V.int).eraseIdx 0))) b1 { B1 with cells := rr } := ⟨fun t ht => by
            have : t = q := by rw [hq] at ht; exact (Option.some.inj ht).symm
            subst this
            refine ⟨by rw [upd_ne nx]; exact hb.1, ?_, hb.2.2.1, hb.2.2.2.1, nx⟩
            rw [upd_same, hc]; rfl, R1.bx.liv⟩
          have fr' : Ext F1 (upd H1 q.2 (.lst ((B1.cells.map V.int).eraseIdx 0))) := fun a o g => by
            rw [upd_ne (fun z => by subst z; rw [hb.2.2.2.1] at g; cases g)]
            exact R1.fro a o g
          have S2 : Stp F1 b1 H1 F1 b1 (upd H1 q.2 (.lst ((B1.cells.map V.int).eraseIdx 0))) := ⟨Ext.refl _, fun a o g n => by
            rw [upd_ne (fun z => n ⟨q, hq, .inr z⟩)]
            exact g, fun _ _ z => z, fun _ z => z, fun _ z => .inl z, fun a g => by
            unfold upd
            split
            · exact Option.some_ne_none _
            · exact g⟩
          exact kk _ _ _ _ (R1.step S2 fr' bx') (S1.trans S2) (.int c)
      · cases e
    · cases e) h
theorem s_bset (i : Nat) (k : Int) (h : PE X e (liftE X.K C d)) (hN : X.N[i]? = some x := by rfl) (hv : Vis X.env.scope x := by first | exact Or.inl rfl | exact Or.inr (Or.inl rfl) | exact Or.inr (Or.inr rfl)) (hd : (x == ("__debug__" : Str)) = false := by decide) (hcd : (x == ("__classdict__" : Str)) = false := by decide)
    {tp sp : Pos} (hs : swapsWithSole [.Subscript (.Name x p) (.Constant (.int k) jk pk) tp] e sp.line X.env = pure false := by rfl) (hw : swappedStores [.Subscript (.Name x p) (.Constant (.int k) jk pk) tp] e X.env = pure none := by rfl)
    (h1 : (assignEach [.Subscript (.Name x p) (.Constant (.int k) jk pk) tp] X.env).map (·.2) = [assign (.Subscript (.Name x p) (.Constant (.int k) jk pk) tp) X.env] := by rfl) :
    PS X (.Assign [.Subscript (.Name x p) (.Constant (.int k) jk pk) tp] e sp) (liftS X.K C (dBset i k d)) :=
  imp_s (fun D σ H ⟨sl, B, F, b, o, R, e, kk⟩ => by
    obtain ⟨⟨y, B1⟩, e1, e⟩ := bnd e
    split at e
    · rename_i n hy hs
      have hy : y = .int n := hy
      subst hy
      split at e
      · rename_i hk
        cases e
        refine ⟨sl, B, F, b, _, _, R, e1, fun v H1 F1 b1 R1 S1 q1 => ?_⟩
        cases q1
        obtain ⟨v, hv, q, hq, rfl⟩ := R1.slt i _ hs
        have hb := R1.bx.at_ q hq
        have nx : q.1 ≠ q.2 := hb.2.2.2.2
        have hk2 : (k - 1).toNat < B1.regs.length := hk.2
        have ek : k = (((k - 1).toNat + 1 : Nat) : Int) := by omega
        refine ⟨_, hv, q.1, _, k, (k - 1).toNat + 1, rfl, rfl, hb.1, ?_, ?_⟩
        · unfold ixN
          rw [if_pos (by omega), List.length_cons, List.length_map, if_pos (by omega)]
          congr 1
          omega
        · have hset : (V.ref q.2 :: B1.regs.map V.int).set ((k - 1).toNat + 1) (.int n) = V.ref q.2 :: (B1.regs.set (k - 1).toNat n).map V.int := by
            rw [List.set_cons_succ, List.map_set]
          rw [hset]
          have bx' : BxR F1 (upd H1 q.1 (.lst (V.ref q.2 :: (B1.regs.set (k - 1).toNat n).map V.int))) b1 { B1 with regs := B1.regs.set (k - 1).toNat n } := ⟨fun t ht => by
            have : t = q := by rw [hq] at ht; exact (Option.some.inj ht).symm
            subst this
            exact ⟨upd_same, by rw [upd_ne (Ne.symm nx)]; exact hb.2.1, hb.2.2.1, hb.2.2.2.1, nx⟩, R1.bx.liv⟩
          have fr' : Ext F1 (upd H1 q.1 (.lst (V.ref q.2 :: (B1.regs.set (k - 1).toNat n).map V.int))) := fun a o g => by
            rw [upd_ne (fun z => by subst z; rw [hb.2.2.1] at g; cases g)]
            exact R1.fro a o g
          have S2 : Stp F1 b1 H1 F1 b1 (upd H1 q.1 (.lst (V.ref q.2 :: (B1.regs.set (k - 1).toNat n).map V.int))) := ⟨Ext.refl _, fun a o g nn => by
            rw [upd_ne (fun z => nn ⟨q, hq, .inl z⟩)]
            exact g, fun _ _ z => z, fun _ z => z, fun _ z => .inl z, fun a g => by
            unfold upd
            split
            · exact Option.some_ne_none _
            · exact g⟩
          exact kk F1 b1 σ _ (R1.step S2 fr' bx') S1.ex
      · cases e
    · cases e) (ps_asg h (pg_sub (pe_var hN hv hd hcd) pe_int set_list) hs hw h1)
theorem e_lenS (i : Nat) (hm : X.mg "len" = none) (hN : X.N[i]? = some x := by rfl) (hv : Vis X.env.scope x := by first | exact Or.inl rfl | exact Or.inr (Or.inl rfl) | exact Or.inr (Or.inr rfl)) (hd : (x == ("__debug__" : Str)) = false := by decide) (hcd : (x == ("__classdict__" : Str)) = false := by decide) (hg : Gl X "len" := by rfl)
    (hs : starEach (Expr.Name x pk :: []) X.env = (false, eval (Expr.Name x pk) X.env) :: starEach [] X.env := by rfl) (hpl : (backTo pos (starEach [] X.env)).any (·.1) = false := by rfl) : PE X (.Call (.Name "len" p) [.Name x pk] [] pos) (liftE X.K C (dLenS i)) :=
  imp_e (fun σ H Q ⟨sl, B, F, b, r, B', R, e, kk⟩ => by
    unfold dLenS at e
    split at e
    · rename_i ns hs
      cases e
      obtain ⟨v, hv, a, rfl, ha⟩ := R.slt i _ hs
      refine ⟨_, hv, _, _, rfl, .inl ⟨_, R.fro.sqL ha, rfl⟩, ?_⟩
      rw [List.length_map]
      exact kk _ H F b R Stp.refl (.int _)
    · cases e) (pe_callB (t := tCons (tVar i) tNil) call_len hg hm PySem.boot_len (pa_cons (pe_var hN hv hd hcd) pa_nil hs) (by decide) (by decide) hs hpl)
/-- [list(script[:k]), ..] -/
theorem v_newB (i : Nat) (k : Int) {dl : DL} (h : PE X e (tLst (tCons (tCB (fun xs H Q => ∃ p ys, xs = [.ref p] ∧ (SqL X.K H p ys ∨ SqT X.K H p ys) ∧ ∀ l, H l = none → Q (.ref l) (upd H l (.lst ys))) (tCons (tSl (rSlL X.K) (tVar i) tNoPart (tPart (tC (.int k)))) tNil)) (liftD X.K C dl)))) : PE X e (liftV X.K C (dNewB i k dl)) :=
  imp_e (fun σ H Q ⟨sl, B, F, b, r, B', R, e, kk⟩ => by
    unfold dNewB at e
    split at e
    · rename_i ns hs
      split at e
      · rename_i hk
        obtain ⟨⟨xs, B1⟩, e1, e⟩ := bnd e
        obtain ⟨rs, e2, e'⟩ := bnd e
        clear e
        split at e'
        · rename_i hr
          have e2 := intsOf_eq e2
          have e2 : xs = rs.map PyData.int := e2
          subst e2
          cases e'
          obtain ⟨v, hv, a, rfl, ha⟩ := R.slt i _ hs
          refine ⟨_, hv, k, rfl, a, ns.map V.int, rfl, R.fro.sqL ha, fun p0 h0 => ⟨p0, _, rfl, .inl (SqL.of upd_same), fun p1 h1 => ?_⟩⟩
          have n10 : p1 ≠ p0 := fun z => by rw [z, upd_same] at h1; cases h1
          have h1' : H p1 = none := by rw [upd_ne n10] at h1; exact h1
          have R1 := (R.new h0).new (o := .lst (cutV (ns.map V.int) none (some k))) h1
          have S1 := (Stp.new (F := F) (b := b) (o := .lst (cutV (ns.map V.int) none (some k))) h0).trans (Stp.new (F := F) (b := b) (o := .lst (cutV (ns.map V.int) none (some k))) h1)
          refine ⟨sl, B, F, b, _, _, R1, e1, fun us H3 F3 b3 R3 S3 q3 => ?_⟩
          have eb : b = none := by
            have := R.bx.liv
            rw [hk.1] at this
            cases b with
            | none => rfl
            | some _ => cases this
          have eb3 : b3 = none := by
            have := R3.bx.liv
            rw [hr.2] at this
            cases b3 with
            | none => rfl
            | some _ => cases this
          subst eb eb3
          have eu := q3.ints
          subst eu
          refine ⟨?_, fun p2 h2 => ?_⟩
          · rw [List.length_cons, List.length_map]
            exact sized _ (by omega)
          · have g1 : H3 p1 = some (.lst (cutV (ns.map V.int) none (some k))) := S3.pr p1 _ upd_same (fun ⟨_, z, _⟩ => nomatch z)
            have n21 : p1 ≠ p2 := ne_of_none g1 h2
            have f1 : F3 p1 = none := S3.ko p1 (by rw [upd_same]; exact Option.some_ne_none _) (not_in_F R.fro h1')
            have f2 : F3 p2 = none := not_in_F R3.fro h2
            have t2 : H p2 = none := by
              cases z : H p2 with
              | none => rfl
              | some o => exact absurd h2 ((S1.trans S3).tr p2 (by rw [z]; exact Option.some_ne_none _))
            have ec : cutV (ns.map V.int) none (some k) = (ns.take k.toNat).map V.int := by
              unfold cutV
              have : k = ((k.toNat : Nat) : Int) := by omega
              rw [this, HT.sIx_none, HT.sIx_nat, Nat.sub_zero, List.drop_zero, List.map_take, Int.toNat_natCast, List.length_map]
              rcases Nat.le_total k.toNat ns.length with z | z
              · rw [Nat.min_eq_left z]
              · rw [Nat.min_eq_right z, List.take_of_length_le (by simp), List.take_of_length_le (by simpa using z)]
            rw [ec] at g1
            have S4 : Stp F none H F3 (some (p2, p1)) (upd H3 p2 (.lst (V.ref p1 :: rs.map V.int))) := by
              have S := S1.trans S3
              refine ⟨S.ex, fun c o g n => ?_, S.ko, (fun _ z => nomatch z), fun c ⟨q, hq, hc⟩ => .inr ?_, fun c g => ?_⟩
              · rw [upd_ne (ne_of_none g t2)]
                exact S.pr c o g n
              · cases hq
                rcases hc with z | z
                · rw [z]; exact t2
                · rw [z]; exact h1'
              · rw [upd_ne (fun z => by subst z; exact g t2)]
                exact S.tr c g
            refine kk _ _ F3 (some (p2, p1)) (R.step S4 (fun c o g => ?_) ⟨fun q hq => ?_, rfl⟩) S4 ⟨_, rfl, rfl⟩
            · rw [upd_ne (fun z => by subst z; rw [f2] at g; cases g)]
              exact R3.fro c o g
            · cases hq
              exact ⟨upd_same, by rw [upd_ne n21]; exact g1, f2, f1, Ne.symm n21⟩
        · cases e'
      · cases e
    · cases e) h
end

/-! ### name op= e, of ints -/
def dAug (f : Int → Int → Int) (i : Nat) (d : DE) : DS := fun sl B => match sl[i]? with
  | some (some (.dat (.int a))) => (d sl B).bind fun p => match p.1 with
    | .int c => some (.nx (sl.set i (some (.dat (.int (f a c))))) p.2)
    | _ => none
  | _ => none
section
variable {X : Cx} {C : Fx} {e : Expr} {d : DE} {pos : Pos}
theorem s_aug (i : Nat) {op : Operator} {f : Int → Int → Int} {x : Str} {pos' : Pos} (ho : PIp X op (ipI f)) (hN : X.N.Nodup) (h : PE X e (liftE X.K C d)) (hi : X.N[i]? = some x := by rfl) (hx : Loc X.env.scope x := by first | exact .inl rfl | exact .inr rfl) (hf : X.fn x = true ∨ X.env.scope.names.lookup x = some .local := by first | exact .inl rfl | exact .inr rfl) :
    PS X (.AugAssign (.Name x pos') op e pos) (liftS X.K C (dAug f i d)) := imp_s (fun D σ H ⟨sl, B, F, b, o, R, e, k⟩ => by
  unfold dAug at e
  split at e
  · rename_i a hs
    obtain ⟨⟨y, B1⟩, e1, e⟩ := bnd e
    split at e
    · rename_i c hy
      have hy : y = .int c := hy
      subst hy
      cases e
      obtain ⟨v, hv, q⟩ := R.slt i _ hs
      cases q
      refine ⟨_, hv, sl, B, F, b, _, _, R, e1, fun u H1 F1 b1 R1 S1 q1 => ?_⟩
      cases q1
      exact ⟨a, c, rfl, rfl, k F1 b1 _ H1 (R1.put (s := .dat _) (.int _) (fun _ z => nomatch z)) S1.ex⟩
    · cases e
  · cases e) (ps_aug hN hi hx h ho hf)

/-! ### xs.index(y) -/
def pyIndex (xs : List PyData) (y : PyData) : Option PyData :=
  if SeqAt.shaped (.list xs) = true ∧ SeqAt.shaped y = true then (xs.findIdx? fun z => PyData.eqv z y).map fun j => .int (j : Nat) else none
def dIndex (d d2 : DE) : DE := fun sl B => (d sl B).bind fun p => (d2 sl p.2).bind fun q => match p.1 with
  | .list xs => (pyIndex xs q.1).map fun z => (z, q.2)
  | _ => none
theorem e_index {d2 : DE} (h : PE X e (tBM X.K "list" (rIndexD X.K) (liftO X.K C d) (tCons (liftO X.K C d2) tNil))) : PE X e (liftE X.K C (dIndex d d2)) :=
  imp_e (fun σ H Q ⟨sl, B, F, b, r, B', R, e, kk⟩ => by
    obtain ⟨⟨y, B1⟩, e1, e⟩ := bnd e
    obtain ⟨⟨z, B2⟩, e2, e'⟩ := bnd e
    clear e
    split at e'
    · rename_i xs hy
      have hy : y = .list xs := hy
      subst hy
      obtain ⟨w, e3, e4⟩ := mpd e'
      cases e4
      refine ⟨sl, B, F, b, _, _, R, e1, fun v H1 F1 b1 R1 S1 q1 => ?_⟩
      have q1' := q1
      obtain ⟨a, vs, rfl, g1, g2, g3⟩ := q1'
      refine ⟨.inl ⟨rfl, _, SqL.of g1⟩, sl, B1, F1, b1, _, _, R1, e2, fun u H2 F2 b2 R2 S2 q2 => ?_⟩
      unfold pyIndex at e3
      split at e3
      · rename_i hh
        obtain ⟨j, e4, e3⟩ := mpd e3
        cases e3
        rw [List.findIdx?_eq_some_iff_getElem] at e4
        obtain ⟨hl, h1, h2⟩ := e4
        exact ⟨a, u, z, xs, j, xs[j], rfl, rfl, (q1.mono S2).dp R2.fro, q2.dp R2.fro, hh.1, hh.2, List.getElem?_eq_getElem hl, h1, fun m z' hm hz => by
          have hm2 : m < xs.length := Nat.lt_trans hm hl
          rw [List.getElem?_eq_getElem hm2] at hz
          cases hz
          have := h2 m hm
          simpa using this, kk _ H2 F2 b2 R2 (S1.trans S2) (.int _)⟩
      · cases e3
    · cases e') h
end
end Dn

set_option Elab.async false
set_option linter.all false
set_option autoImplicit false
set_option maxRecDepth 100000
set_option maxHeartbeats 2000000
namespace Dn
open PySem PySem.Spec PyProof.Rows L2

/-! ### enumerate, zip over lists and tuples -/
structure Src where
  t : Bool
  a : Addr
  vs : List V
def SrcH (K : Frg) (H : Hp) (z : Src) : Prop := if z.t = true then SqT K H z.a z.vs else SqL K H z.a z.vs
def SrcI (h : Heap) (z : Src) (items : Array Value) : Prop := if z.t = true then h.IsTuple z.a items else h.IsList z.a items
def SrcAt (h : Heap) (it : Addr) (z : Src) (i : Nat) : Prop := if z.t = true then h.IsTupleIter it z.a i else h.IsListIter it z.a i
def SrcO (z : Src) : Obj := if z.t = true then { cls := .type "tuple_iterator", data := .fields #[.ref z.a, .int 0 0] } else { cls := .type "list_iterator", data := .fields #[.ref z.a, .int 0 0] }
theorem src_items {X : Cx} {pins : List (Addr × Obj)} {σ : L2.St} {H : Hp} {s : Shared} (I : Inv X pins σ H s) {z : Src} (h : SrcH X.K H z) : ∃ its : List Value, Vals z.vs its ∧ SrcI s.heap z its.toArray ∧ z.a < s.heap.objs.size := by
  obtain ⟨t, a, vs⟩ := z
  cases t with
  | true =>
    have h' : SqT X.K H a vs := h
    obtain ⟨its, rv, q, _⟩ := I.tuple h'
    obtain ⟨o, ho, _⟩ := id q
    exact ⟨its, rv, q, Heap.lt_size ho⟩
  | false =>
    have h' : SqL X.K H a vs := h
    obtain ⟨its, rv, q, _⟩ := I.list h'
    exact ⟨its, rv, q.isList, q.lt⟩
theorem src_draws {prog : Program} {w : World} {A : Around} (hh : A.handled = none) (it : Addr) (z : Src) (hne : z.a ≠ it) (items : Array Value) :
    Draws prog w A it [it, z.a] items.size (fun i v => items[i]? = some v) (fun i h => SrcAt h it z i ∧ SrcI h z items) := by
  obtain ⟨t, a, vs⟩ := z
  cases t with
  | true => exact Draws.tuple hh it a hne items
  | false => exact Draws.list hh it a hne items
theorem src_begins (z : Src) (items : Array Value) : Begins (.ref z.a) (SrcO z) fun h => SrcI h z items := by
  obtain ⟨t, a, vs⟩ := z
  cases t with
  | true => exact begins_tuple a items
  | false => exact begins_list a items
theorem src_at {h : Heap} {it : Addr} {z : Src} (e : h.get? it = some (SrcO z)) : SrcAt h it z 0 := by
  obtain ⟨t, a, vs⟩ := z
  cases t with
  | true => exact ⟨_, e, rfl, rfl⟩
  | false => exact ⟨_, e, rfl, rfl⟩
theorem src_obj {h : Heap} {it : Addr} {z : Src} {i : Nat} (st : SrcAt h it z i) : ∃ o, h.get? it = some o ∧ ∀ v, o.data ≠ .cell v := by
  obtain ⟨t, a, vs⟩ := z
  cases t with
  | true =>
    obtain ⟨o, e, c, d⟩ := st
    exact ⟨o, e, fun v q => by rw [d] at q; cases q⟩
  | false =>
    obtain ⟨o, e, c, d⟩ := st
    exact ⟨o, e, fun v q => by rw [d] at q; cases q⟩
theorem src_keep {h h' : Heap} {it : Addr} {z : Src} {i : Nat} (st : SrcAt h it z i) (k : ∀ o, h.get? it = some o → h'.get? it = some o) : SrcAt h' it z i := by
  obtain ⟨t, a, vs⟩ := z
  cases t with
  | true => exact Heap.IsTupleIter.at st k
  | false => exact Heap.IsListIter.at st k
/-- n turns, each a new tuple -/
def ItS (K : Frg) (srcs : List Src) (n : Nat) (ys : Nat → List V) : It :=
  ⟨fun i H => i < n ∧ ∀ z ∈ srcs, SrcH K H z, fun i H v H' => ∃ T, v = .ref T ∧ H T = none ∧ H' = upd H T (.tup (ys i)), fun i H => i = n ∧ ∀ z ∈ srcs, SrcH K H z⟩
theorem turn_gen {P : Program} {w : World} {K : Frg} {elts : List Expr} {kk : Nat} {tpos : Pos} {srcs : List Src} {n : Nat} {ys : Nat → List V} {I0 : Addr} {fp : List Addr} {tn : Nat → Heap → Prop} (mem : I0 ∈ fp)
    (obj : ∀ i h, tn i h → ∀ b ∈ fp, ∃ o, h.get? b = some o ∧ ∀ v, o.data ≠ .cell v) (keep : ∀ i h h', tn i h → (∀ b ∈ fp, ∀ o, h.get? b = some o → h'.get? b = some o) → tn i h')
    (self : ∀ (A : Around) (i : Nat) (s : Shared) (Q : Value → Shared → Prop) (E : Value → Shared → Prop), tn i s.heap → Q (.ref I0) s → wpAny (model P w) A (pyIter (.ref I0)) Q E s) (hy : ∀ i, (ys i).length ≤ 3)
    (G : ∀ (X : Cx), X.prog = P → X.w = w → X.K = K → X.calm = true → ∀ (pins : List (Addr × Obj)) (s : Shared) (σ : L2.St) (H : Hp), Inv X pins σ H s → (∀ z ∈ srcs, SrcH K H z) → ∀ i, tn i s.heap →
      ∃ (fpG wr : List Addr) (St : Nat → Heap → Prop), GoesN P w X.A (.Tuple elts kk tpos) I0 fpG wr n (fun i h0 v h => ∃ T vals, v = .ref T ∧ h0.objs.size ≤ T ∧ Vals (ys i) vals ∧ h.IsTuple T vals.toArray) St ∧ (∀ b ∈ wr, b ∈ fp) ∧ St i s.heap ∧ ∀ j h, St j h → tn j h) :
    Turn P w K (.Tuple elts kk tpos) (ItS K srcs n ys) fp I0 tn where
  mem := mem
  obj := obj
  keep := keep
  self := self
  item := by
    intro X hP hw hK hc i pins s σ H E I hf st ⟨hi, hsrc⟩
    obtain ⟨fpG, wr, St, W, sub, st0, back⟩ := G X hP hw hK hc pins s σ H I hsrc i st
    subst hP hw hK
    refine W.goes i s (fun u s2 => ∃ x H', Inv X pins σ H' s2 ∧ RelV x u ∧ (ItS X.K srcs n ys).yld i H x H' ∧ tn (i + 1) s2.heap ∧ ∀ b ∈ fp, H' b = none) E hi st0 fun v h' tk ⟨T, vals, ev, hT, rv, ht⟩ st' kp _ => ?_
    subst ev
    have new : ObjOk X.prog X.w (upd H T (.tup (ys i))) h' T (.tup (ys i)) := ⟨sized _ (Nat.le_trans (hy i) (by decide)), vals, rv, ht⟩
    have I1 : Inv X pins σ (upd H T (.tup (ys i))) { s with heap := h', toks := tk } := I.turnedNew (ch := fp) (fun b o hb q => kp b o (fun z => hb (sub b z)) q) hf hT new
    refine ⟨.ref T, _, I1, rfl, ⟨T, rfl, I.hok.fresh hT, rfl⟩, back _ _ st', fun b hb => ?_⟩
    obtain ⟨o, ho, _⟩ := obj i s.heap st b hb
    rw [upd_ne (Nat.ne_of_lt (Nat.lt_of_lt_of_le (Heap.lt_size ho) hT))]
    exact (hf b hb).1
  done := by
    intro X hP hw hK hc i pins s σ H E I hf st ⟨hi, hsrc⟩
    obtain ⟨fpG, wr, St, W, sub, st0, back⟩ := G X hP hw hK hc pins s σ H I hsrc i st
    subst hP hw hK hi
    exact W.stops s (fun s2 => Inv X pins σ H s2) E st0 fun h' tk kp _ => I.turnedL (ch := fp) (fun b o hb q => kp b o (fun z => hb (sub b z)) q) hf
theorem isTup_of {h : Heap} {T : Addr} {a b : Value} (x : h.IsTuple T #[a, b]) : h.IsTuple T [a, b].toArray := x
set_option maxHeartbeats 2000000 in
theorem meets_enum1 {v : Value} {o : Obj} {Hh : Heap → Prop} (Bg : Begins v o Hh) :
    Meets (Builtin.«enumerate.__new__» ⟨[.type "enumerate", v], []⟩) (fun _ R s => Hh s.heap ∧ R (.ok (.ret (.ref (s.heap.push o).objs.size))) { s with heap := (s.heap.push o).push { cls := .type "enumerate", data := .fields #[.none, .bool false, .ref s.heap.objs.size, rawInt 0, .none, .none] } }) :=
  .of_wp fun prog w A R s hyp => by
    obtain ⟨hp, gg, dd, tt, os⟩ := s; obtain ⟨g1, fin⟩ := hyp
    have sub := sub_enumerate
    have nx1 : ∀ {A' : Around} {E : Value → Shared → Prop} {Q : Value → Shared → Prop}, Q (.ref hp.objs.size) ⟨hp.push o, gg, dd, tt, os⟩ → wpAny (model prog w) A' (pyIter v) Q E ⟨hp, gg, dd, tt, os⟩ :=
      fun q => Bg.iter prog w _ _ ⟨hp, gg, dd, tt, os⟩ _ g1 q
    wp_walk using nx1
    refine wpAny_stack_any (fun stk => wpAny_pure ?_)
    split
    · rename_i cc _ _ _ _ _
      cases (cc == Value.type "enumerate") <;> (wp_walk using nx1; exact ⟨_, rfl, fin⟩)
    · wp_walk using nx1
      exact ⟨_, rfl, fin⟩
theorem enum1_begins {prog : Program} {w : World} {A : Around} {E : Value → Shared → Prop} {s : Shared} {v : Value} {o : Obj} {Hh : Heap → Prop} {Q : Value → Shared → Prop} (Bg : Begins v o Hh) (h1 : Hh s.heap)
    (k : ∀ h', IsEnum h' (s.heap.objs.size + 1) s.heap.objs.size 0 .none → h'.get? s.heap.objs.size = some o → (∀ b o, s.heap.get? b = some o → h'.get? b = some o) → Q (.ref (s.heap.objs.size + 1)) { s with heap := h' }) :
    wpAny (model prog w) A (call (.type "enumerate") [v]) Q E s := by
  refine callType_new F.called_enumerate (by decide) (F.typeCall_enumerate_1 _) (F.newCall_enumerate_1 _) (fun oo => F.args_object_init_2 oo _) F.entry_enumerate_new (meets_enum1 Bg) ⟨h1, ?_⟩
  have hz : (s.heap.push o).objs.size = s.heap.objs.size + 1 := Heap.size_push ..
  have he : IsEnum ((s.heap.push o).push { cls := .type "enumerate", data := .fields #[.none, .bool false, .ref s.heap.objs.size, rawInt 0, .none, .none] }) (s.heap.objs.size + 1) s.heap.objs.size 0 .none := by
    rw [← hz]
    exact Heap.get?_push_size (s.heap.push o) (o := { cls := .type "enumerate", data := .fields #[.none, .bool false, .ref s.heap.objs.size, rawInt 0, .none, .none] }) rfl
  show _ ∧ _
  rw [hz]
  exact ⟨⟨_, he, rfl⟩, k _ he (Heap.get?_push_of_some _ (Heap.get?_push_size _ Bg.free)) fun b u x => Heap.get?_push_of_some _ (Heap.get?_push_of_some _ x)⟩
end Dn

set_option Elab.async false
set_option linter.all false
set_option autoImplicit false
set_option maxRecDepth 100000
set_option maxHeartbeats 2000000
namespace Dn
open PySem PySem.Spec PyProof.Rows L2

def ysE (z : Src) (i : Nat) : List V := [.int (i : Nat), z.vs.getD i .non]
def ysZ (z1 z2 : Src) (i : Nat) : List V := [z1.vs.getD i .non, z2.vs.getD i .non]
theorem vals_getD {xs : List V} {its : List Value} {i : Nat} {u : Value} (rv : Vals xs its) (h : its.toArray[i]? = some u) : RelV (xs.getD i .non) u := by
  have h' : its[i]? = some u := by simpa using h
  have hl : i < xs.length := by
    rw [rv.length]
    rcases Nat.lt_or_ge i its.length with q | q
    · exact q
    · rw [List.getElem?_eq_none q] at h'; cases h'
  obtain ⟨u', e1, e2⟩ := rv.get (List.getElem?_eq_getElem hl)
  rw [h'] at e1
  cases e1
  rw [List.getD_eq_getElem?_getD, List.getElem?_eq_getElem hl]
  exact e2
theorem turn_enumS {P : Program} {w : World} {K : Frg} {elts : List Expr} {kk : Nat} {tpos : Pos} (z : Src) (e it : Addr) :
    Turn P w K (.Tuple elts kk tpos) (ItS K [z] z.vs.length (ysE z)) [e, it] e (fun i h => (∃ old, IsEnum h e it ((i : Nat) : Int) old) ∧ SrcAt h it z i ∧ e ≠ it ∧ z.a ≠ it ∧ e ≠ z.a) := by
  refine turn_gen (by simp) (fun i h st b hb => ?_) (fun i h h' st k => ?_) (fun A i s Q E st h => ?_) (fun i => by show 2 ≤ 3; decide) fun X hP hw hK hc pins s σ H I hs i st => ?_
  · obtain ⟨⟨old, he⟩, hi, _⟩ := st
    rcases (by simpa using hb : b = e ∨ b = it) with q | q
    · rw [q]; exact ⟨_, he, fun v t => nomatch t⟩
    · rw [q]; exact src_obj hi
  · obtain ⟨⟨old, he⟩, hi, hne⟩ := st
    exact ⟨⟨old, k e (by simp) _ he⟩, src_keep hi (fun o q => k it (by simp) o q), hne⟩
  · obtain ⟨⟨old, he⟩, _⟩ := st
    exact wpAny_pyIter_enum he h
  · subst hP hw hK
    obtain ⟨⟨old, he⟩, hi, hne, hza, hez⟩ := st
    obtain ⟨its, rv, hI, _⟩ := src_items I (hs z (by simp))
    have D : Draws X.prog X.w X.A.in1 it [it, z.a] its.toArray.size (fun i v => its.toArray[i]? = some v) (fun i h => SrcAt h it z i ∧ SrcI h z its.toArray) := src_draws (show X.A.in1.handled = none from I.ok.hd hc) it z hza its.toArray
    have W := GoesN.enumFrom (elts := elts) (x1 := kk) (pos := tpos) 0 D e hne (by simp; exact ⟨hne, hez⟩) (by simp)
    have en : its.toArray.size = z.vs.length := by rw [List.size_toArray, ← rv.length]
    rw [en] at W
    refine ⟨_, _, _, W.mono fun i h0 v h hi' ⟨T, t, x, ev, hT, hx, ht⟩ => ⟨T, [.int (0 + (i : Int)) t, x], ev, hT, ?_, ht⟩, fun b hb => by simpa using hb, ⟨⟨old, by rw [Int.zero_add]; exact he⟩, hi, hI⟩, fun j h ⟨⟨o, q1⟩, q2, _⟩ => ⟨⟨o, by rw [Int.zero_add] at q1; exact q1⟩, q2, hne, hza, hez⟩⟩
    exact .cons ⟨t, by rw [Int.zero_add]⟩ (.cons (vals_getD rv hx) .nil)
theorem turn_zipS {P : Program} {w : World} {K : Frg} {elts : List Expr} {kk : Nat} {tpos : Pos} (z1 z2 : Src) (N : Nat) (h1 : z1.a < N) (h2 : z2.a < N) :
    Turn P w K (.Tuple elts kk tpos) (ItS K [z1, z2] (min z1.vs.length z2.vs.length) (ysZ z1 z2)) [N + 4, N + 2, N + 3, N, N + 1] (N + 4)
      (fun i h => IsZip h (N + 4) (N + 2) (N + 3) .none ∧ IsTupOf2 h (N + 2) (.ref N) (.ref (N + 1)) ∧ (∃ a1 a2, IsTupOf2 h (N + 3) a1 a2) ∧ SrcAt h N z1 i ∧ SrcAt h (N + 1) z2 i) := by
  refine turn_gen (by simp) (fun i h st b hb => ?_) (fun i h h' st k => ?_) (fun A i s Q E st h => ?_) (fun i => by show 2 ≤ 3; decide) fun X hP hw hK hc pins s σ H I hs i st => ?_
  · obtain ⟨hz, hT, ⟨x, y, hTO⟩, q1, q2⟩ := st
    rcases (by simpa using hb : b = N + 4 ∨ b = N + 2 ∨ b = N + 3 ∨ b = N ∨ b = N + 1) with q | q | q | q | q
    · rw [q]; exact ⟨_, hz, fun v t => nomatch t⟩
    · rw [q]; exact ⟨_, hT, fun v t => nomatch t⟩
    · rw [q]; exact ⟨_, hTO, fun v t => nomatch t⟩
    · rw [q]; exact src_obj q1
    · rw [q]; exact src_obj q2
  · obtain ⟨hz, hT, ⟨x, y, hTO⟩, q1, q2⟩ := st
    exact ⟨k _ (by simp) _ hz, k _ (by simp) _ hT, ⟨x, y, k _ (by simp) _ hTO⟩, src_keep q1 (fun o q => k _ (by simp) o q), src_keep q2 (fun o q => k _ (by simp) o q)⟩
  · exact wpAny_pyIter_zip st.1 h
  · subst hP hw hK
    obtain ⟨hz, hT, hTO, q1, q2⟩ := st
    obtain ⟨its1, rv1, hI1, _⟩ := src_items I (hs z1 (by simp))
    obtain ⟨its2, rv2, hI2, _⟩ := src_items I (hs z2 (by simp))
    have D1 : Draws X.prog X.w X.A.in1 N [N, z1.a] its1.toArray.size (fun i v => its1.toArray[i]? = some v) (fun i h => SrcAt h N z1 i ∧ SrcI h z1 its1.toArray) := src_draws (show X.A.in1.handled = none from I.ok.hd hc) N z1 (Nat.ne_of_lt h1) its1.toArray
    have D2 : Draws X.prog X.w X.A.in1 (N + 1) [N + 1, z2.a] its2.toArray.size (fun i v => its2.toArray[i]? = some v) (fun i h => SrcAt h (N + 1) z2 i ∧ SrcI h z2 its2.toArray) := src_draws (show X.A.in1.handled = none from I.ok.hd hc) (N + 1) z2 (Nat.ne_of_lt (Nat.lt_succ_of_lt h2)) its2.toArray
    have S : ZipSep2 (N + 4) (N + 2) (N + 3) N (N + 1) (N :: [z1.a]) ((N + 1) :: [z2.a]) := zip_sep2 (fun b hb => by rw [List.mem_singleton.mp hb]; exact h1) (fun b hb => by rw [List.mem_singleton.mp hb]; exact h2)
    have W := GoesN.zip2 (elts := elts) (x1 := kk) (pos := tpos) S D1 D2
    have e1 : its1.toArray.size = z1.vs.length := by rw [List.size_toArray, ← rv1.length]
    have e2 : its2.toArray.size = z2.vs.length := by rw [List.size_toArray, ← rv2.length]
    rw [e1, e2] at W
    refine ⟨_, _, _, W.mono fun i h0 v h hi' ⟨T, x, y, ev, hT, hx, hy, ht⟩ => ⟨T, [x, y], ev, hT, ?_, ht⟩, fun b hb => by
      rcases (by simpa using hb : b = N + 4 ∨ b = N + 3 ∨ b = N ∨ b = N + 1) with q | q | q | q <;> simp [q], ⟨hz, hT, hTO, ⟨q1, hI1⟩, ⟨q2, hI2⟩⟩, fun j h ⟨k1, k2, k3, k4, k5⟩ => ⟨k1, k2, k3, k4.1, k5.1⟩⟩
    exact .cons (vals_getD rv1 hx) (.cons (vals_getD rv2 hy) .nil)
def enumD : Nat → List PyData → List PyData
  | _, [] => []
  | k, x :: r => .tuple [.int (k : Nat), x] :: enumD (k + 1) r
def zipD : List PyData → List PyData → List PyData
  | x :: xs, y :: ys => .tuple [x, y] :: zipD xs ys
  | _, _ => []
theorem enumD_get : ∀ (xs : List PyData) (k i : Nat) (x : PyData), (enumD k xs)[i]? = some x → ∃ y, xs[i]? = some y ∧ x = .tuple [.int ((k + i : Nat) : Int), y]
  | [], _, _, _, h => by cases h
  | y :: r, k, 0, x, h => by
    cases h
    exact ⟨y, rfl, rfl⟩
  | y :: r, k, i + 1, x, h => by
    obtain ⟨z, e1, e2⟩ := enumD_get r (k + 1) i x h
    refine ⟨z, e1, ?_⟩
    rw [e2, Nat.add_right_comm k 1 i]
    rfl
theorem enumD_length : ∀ (xs : List PyData) (k : Nat), (enumD k xs).length = xs.length
  | [], _ => rfl
  | _ :: r, k => by rw [enumD, List.length_cons, List.length_cons, enumD_length r]
theorem zipD_get : ∀ (xs ys : List PyData) (i : Nat) (x : PyData), (zipD xs ys)[i]? = some x → ∃ a b, xs[i]? = some a ∧ ys[i]? = some b ∧ x = .tuple [a, b]
  | [], _, _, _, h => by cases h
  | _ :: _, [], _, _, h => by cases h
  | a :: xs, b :: ys, 0, x, h => by
    cases h
    exact ⟨a, b, rfl, rfl, rfl⟩
  | a :: xs, b :: ys, i + 1, x, h => zipD_get xs ys i x h
theorem zipD_length : ∀ (xs ys : List PyData), (zipD xs ys).length = min xs.length ys.length
  | [], _ => by simp [zipD]
  | _ :: _, [] => by simp [zipD]
  | _ :: xs, _ :: ys => by rw [zipD, List.length_cons, List.length_cons, List.length_cons, zipD_length xs ys]; omega
theorem rps_getD {K : Frg} {F : Hp} {vs : List V} {ds : List PyData} {i : Nat} {d : PyData} (r : Rps K F vs ds) (h : ds[i]? = some d) : Rp K F (vs.getD i .non) d := by
  obtain ⟨v, e1, e2⟩ := r.get h
  rw [List.getD_eq_getElem?_getD, e1]
  exact e2
theorem al_tup {K : Frg} {F H : Hp} {T : Addr} {vs : List V} {ds : List PyData} (fr : Ext F H) (hT : H T = none) (r : Rps K F vs ds) : ∃ F2, Al F H F2 (upd H T (.tup vs)) ∧ Rp K F2 (.ref T) (.tuple ds) :=
  ⟨_, .one hT, .tup (SqT.of upd_same) (Rps.mono (Ext.new (not_in_F fr hT)) r)⟩
theorem wk_enum {K : Frg} {F : Hp} {P : Hp → Prop} {z : Src} {xs : List PyData} (hp : ∀ F' H', Ext F F' → Ext F' H' → P H' → SrcH K H' z) (r : Rps K F z.vs xs) : Wk K F P (ItS K [z] z.vs.length (ysE z)) (enumD 0 xs) := fun i F' H' h1 h2 h3 => by
  have hs : ∀ y ∈ [z], SrcH K H' y := fun y hy => by rw [List.mem_singleton.mp hy]; exact hp F' H' h1 h2 h3
  refine ⟨fun x hx => ?_, fun hx => ⟨by rw [hx, enumD_length, r.length], hs⟩⟩
  obtain ⟨y, e1, e2⟩ := enumD_get xs 0 i x hx
  have hl : i < xs.length := by
    rcases Nat.lt_or_ge i xs.length with q | q
    · exact q
    · rw [List.getElem?_eq_none q] at e1; cases e1
  refine ⟨⟨by rw [r.length]; exact hl, hs⟩, fun v H2 ⟨T, ev, hT, eH⟩ => ?_⟩
  subst ev eH e2
  rw [Nat.zero_add]
  exact al_tup h2 hT (.cons (.int _) (.one (Rp.mono h1 (rps_getD r e1))))
theorem wk_zip {K : Frg} {F : Hp} {P : Hp → Prop} {z1 z2 : Src} {xs ys : List PyData} (hp : ∀ F' H', Ext F F' → Ext F' H' → P H' → SrcH K H' z1 ∧ SrcH K H' z2) (r1 : Rps K F z1.vs xs) (r2 : Rps K F z2.vs ys) :
    Wk K F P (ItS K [z1, z2] (min z1.vs.length z2.vs.length) (ysZ z1 z2)) (zipD xs ys) := fun i F' H' h1 h2 h3 => by
  have hs : ∀ y ∈ [z1, z2], SrcH K H' y := fun y hy => by
    rcases (by simpa using hy : y = z1 ∨ y = z2) with q | q
    · rw [q]; exact (hp F' H' h1 h2 h3).1
    · rw [q]; exact (hp F' H' h1 h2 h3).2
  refine ⟨fun x hx => ?_, fun hx => ⟨by rw [hx, zipD_length, r1.length, r2.length], hs⟩⟩
  obtain ⟨a, b, e1, e2, e3⟩ := zipD_get xs ys i x hx
  have hl1 : i < xs.length := by
    rcases Nat.lt_or_ge i xs.length with q | q
    · exact q
    · rw [List.getElem?_eq_none q] at e1; cases e1
  have hl2 : i < ys.length := by
    rcases Nat.lt_or_ge i ys.length with q | q
    · exact q
    · rw [List.getElem?_eq_none q] at e2; cases e2
  refine ⟨⟨by rw [r1.length, r2.length]; exact Nat.lt_min.mpr ⟨hl1, hl2⟩, hs⟩, fun v H2 ⟨T, ev, hT, eH⟩ => ?_⟩
  subst ev eH e3
  exact al_tup h2 hT (.cons (Rp.mono h1 (rps_getD r1 e1)) (.one (Rp.mono h1 (rps_getD r2 e2))))
def dEnum (d : DE) : DL := fun sl B => (dSeq' d sl B).map fun p => (enumD 0 p.1, p.2)
def dZip (d d2 : DE) : DL := fun sl B => (dSeq' d sl B).bind fun p => (dSeq' d2 sl p.2).map fun q => (zipD p.1 q.1, q.2)
/-- a source from a value -/
theorem src_of {K : Frg} {F H : Hp} {b : Bad} {v : V} {x : PyData} {xs : List PyData} (fr : Ext F H) (h : TopR K F H b v x) (e : x = .list xs ∨ x = .tuple xs) : ∃ z : Src, v = .ref z.a ∧ SrcH K H z ∧ Rps K F z.vs xs ∧ (∀ F' H', Ext F F' → Ext F' H' → Keep b H H' → SrcH K H' z) := by
  rcases e with e | e
  · subst e
    obtain ⟨a, vs, rfl, h1, h2, h3⟩ := h
    exact ⟨⟨false, a, vs⟩, rfl, SqL.of h1, h3, fun F' H' _ _ k => SqL.of (k a _ h1 h2)⟩
  · subst e
    have h' : Rp K F v (.tuple xs) := h
    cases h' with
    | tup h1 h2 => exact ⟨⟨true, _, _⟩, rfl, fr.sqT h1, h2, fun F' H' g1 g2 _ => g2.sqT (g1.sqT h1)⟩
theorem src_ofE {K : Frg} {F H : Hp} {v : V} {x : PyData} {xs : List PyData} (fr : Ext F H) (h : Rp K F v x) (e : x = .list xs ∨ x = .tuple xs) : ∃ z : Src, v = .ref z.a ∧ SrcH K H z ∧ Rps K F z.vs xs ∧ (∀ F' H', Ext F F' → Ext F' H' → True → SrcH K H' z) := by
  rcases e with e | e
  · subst e
    cases h with
    | lst h1 h2 => exact ⟨⟨false, _, _⟩, rfl, SqL.of (fr _ _ h1), h2, fun F' H' g1 g2 _ => SqL.of (g2 _ _ (g1 _ _ h1))⟩
  · subst e
    cases h with
    | tup h1 h2 => exact ⟨⟨true, _, _⟩, rfl, fr.sqT h1, h2, fun F' H' g1 g2 _ => g2.sqT (g1.sqT h1)⟩
theorem dSeq_inv {d : DE} {sl : Sl} {B B' : Bx} {xs : List PyData} (h : dSeq' d sl B = some (xs, B')) : ∃ x, d sl B = some (x, B') ∧ (x = .list xs ∨ x = .tuple xs) := by
  obtain ⟨⟨x, B1⟩, e1, e⟩ := bnd h
  split at e
  · rename_i ys hy
    cases e
    exact ⟨_, e1, .inl hy⟩
  · rename_i ys hy
    cases e
    exact ⟨_, e1, .inr hy⟩
  · cases e
section
variable {X : Cx} {C : Fx} {l l2 : Expr} {d d2 : DE} {p pos tpos : Pos} {elts : List Expr} {kk : Nat}
theorem enum_run {pins : List (Addr × Obj)} {σ : L2.St} {H : Hp} {s1 : Shared} {Rr : It → Hp → Prop} {E : Value → Shared → Prop} (I : Inv X pins σ H s1) (z : Src) (hz : SrcH X.K H z) (q : Rr (ItS X.K [z] z.vs.length (ysE z)) H) :
    wpAny (model X.prog X.w) X.A (call (.type "enumerate") [.ref z.a]) (fun v s2 => wpAny (model X.prog X.w) X.A (pyIter v) (PIE X pins σ (.Tuple elts kk tpos) Rr) E s2) E s1 := by
  obtain ⟨its, rv, hI, hlt⟩ := src_items I hz
  refine enum1_begins (src_begins z its.toArray) hI fun h' he hit hk => wpAny_pyIter_enum he ?_
  have I2 : Inv X pins σ H { s1 with heap := h' } := I.kept (t' := s1.toks) hk
  refine ⟨s1.heap.objs.size + 1, [s1.heap.objs.size + 1, s1.heap.objs.size], _, _, H, rfl, I2, turn_enumS z (s1.heap.objs.size + 1) s1.heap.objs.size, ⟨⟨.none, he⟩, src_at hit, Nat.succ_ne_self _, Nat.ne_of_lt hlt, Nat.ne_of_gt (Nat.lt_succ_of_lt hlt)⟩, fun c hc => ?_, q⟩
  have hle : s1.heap.objs.size ≤ c := by
    rcases (by simpa using hc : c = s1.heap.objs.size + 1 ∨ c = s1.heap.objs.size) with q | q
    · rw [q]; exact Nat.le_succ _
    · rw [q]; exact Nat.le_refl _
  exact I.fpOk hle (I.hok.fresh hle)
theorem zip_run {pins : List (Addr × Obj)} {σ : L2.St} {H : Hp} {s1 : Shared} {Rr : It → Hp → Prop} {E : Value → Shared → Prop} (I : Inv X pins σ H s1) (z1 z2 : Src) (hz1 : SrcH X.K H z1) (hz2 : SrcH X.K H z2) (q : Rr (ItS X.K [z1, z2] (min z1.vs.length z2.vs.length) (ysZ z1 z2)) H) :
    wpAny (model X.prog X.w) X.A (call (.type "zip") [.ref z1.a, .ref z2.a]) (fun v s2 => wpAny (model X.prog X.w) X.A (pyIter v) (PIE X pins σ (.Tuple elts kk tpos) Rr) E s2) E s1 := by
  obtain ⟨its1, rv1, hI1, hlt1⟩ := src_items I hz1
  obtain ⟨its2, rv2, hI2, hlt2⟩ := src_items I hz2
  refine zip_begins2 (src_begins z1 its1.toArray) (src_begins z2 its2.toArray) hI1 hI2 fun h' hz hTI hTO h1 h2 _ hk => wpAny_pyIter_zip hz ?_
  have I2 : Inv X pins σ H { s1 with heap := h' } := I.kept (t' := s1.toks) hk
  refine ⟨s1.heap.objs.size + 4, [s1.heap.objs.size + 4, s1.heap.objs.size + 2, s1.heap.objs.size + 3, s1.heap.objs.size, s1.heap.objs.size + 1], _, _, H, rfl, I2, turn_zipS z1 z2 _ hlt1 hlt2, ⟨hz, hTI, ⟨_, _, hTO⟩, src_at h1, src_at h2⟩, fun c hc => ?_, q⟩
  have hle : s1.heap.objs.size ≤ c := by
    rcases (by simpa using hc : c = s1.heap.objs.size + 4 ∨ c = s1.heap.objs.size + 2 ∨ c = s1.heap.objs.size + 3 ∨ c = s1.heap.objs.size ∨ c = s1.heap.objs.size + 1) with q | q | q | q | q <;> rw [q] <;> first | exact Nat.le_add_right _ _ | exact Nat.le_refl _
  exact I.fpOk hle (I.hok.fresh hle)
theorem i_enum (hm : X.mg "enumerate" = none) (h : PE X l (liftE X.K C d)) (hg : Gl X "enumerate" := by rfl) (hs : starEach [l] X.env = [(false, eval l X.env)] := by rfl) (hs' : starEach (l :: []) X.env = (false, eval l X.env) :: starEach [] X.env := by rfl) :
    PI X (.Tuple elts kk tpos) (.Call (.Name "enumerate" p) [l] [] pos) (liftI X.K C (dEnum d)) := ⟨fun pins s σ H Rr I ⟨sl, B, F, b, xs, B', R, e, k⟩ => by
  obtain ⟨⟨ys, B1⟩, e1, e⟩ := mpd e
  cases e
  obtain ⟨x, e2, e3⟩ := dSeq_inv e1
  refine Call_ (ld_blt I hg hm boot_enumerate (PyProof.Rows.callWith_type1 (thn ((pa_cons h pa_nil hs').run pos pins s σ H (fun vs H' => ∃ F' b', Rel X.K C sl B1 F' b' σ H' ∧ Stp F b H F' b' H' ∧ ∃ v, vs = [v] ∧ Rp X.K F' v x) I ⟨sl, B, F, b, x, B1, R, e2, fun v H' F' b' R' S' q => ⟨F', b', R', S', v, rfl, q⟩⟩) fun us s1 ⟨vs, H1, I1, r1, q1⟩ => ?_) hs rfl))
  obtain ⟨F1, b1, R1, S1, v, rfl, q1⟩ := q1
  obtain ⟨z, ev, hz, rz, kz⟩ := src_ofE R1.fro q1 e3
  subst ev
  cases r1 with
  | cons ra rb =>
    cases rb
    cases ra
    exact enum_run I1 z hz (k _ H1 F1 b1 R1 S1 (wk_enum kz rz))⟩
theorem i_enumo (hm : X.mg "enumerate" = none) (h : PE X l (liftO X.K C d)) (hg : Gl X "enumerate" := by rfl) (hs : starEach [l] X.env = [(false, eval l X.env)] := by rfl) (hs' : starEach (l :: []) X.env = (false, eval l X.env) :: starEach [] X.env := by rfl) :
    PI X (.Tuple elts kk tpos) (.Call (.Name "enumerate" p) [l] [] pos) (liftIo X.K C (dEnum d)) := ⟨fun pins s σ H Rr I ⟨sl, B, F, b, xs, B', R, e, k⟩ => by
  obtain ⟨⟨ys, B1⟩, e1, e⟩ := mpd e
  cases e
  obtain ⟨x, e2, e3⟩ := dSeq_inv e1
  refine Call_ (ld_blt I hg hm boot_enumerate (PyProof.Rows.callWith_type1 (thn ((pa_cons h pa_nil hs').run pos pins s σ H (fun vs H' => ∃ F' b', Rel X.K C sl B1 F' b' σ H' ∧ Stp F b H F' b' H' ∧ ∃ v, vs = [v] ∧ TopR X.K F' H' b' v x) I ⟨sl, B, F, b, x, B1, R, e2, fun v H' F' b' R' S' q => ⟨F', b', R', S', v, rfl, q⟩⟩) fun us s1 ⟨vs, H1, I1, r1, q1⟩ => ?_) hs rfl))
  obtain ⟨F1, b1, R1, S1, v, rfl, q1⟩ := q1
  obtain ⟨z, ev, hz, rz, kz⟩ := src_of R1.fro q1 e3
  subst ev
  cases r1 with
  | cons ra rb =>
    cases rb
    cases ra
    exact enum_run I1 z hz (k _ H1 F1 b1 R1 S1 (wk_enum kz rz))⟩
theorem i_zip (hm : X.mg "zip" = none) (h : PE X l (liftE X.K C d)) (h2 : PE X l2 (liftE X.K C d2)) (hg : Gl X "zip" := by rfl) (hs : starEach [l, l2] X.env = (false, eval l X.env) :: starEach [l2] X.env := by rfl) (hpl : (backTo pos (starEach [l2] X.env)).any (·.1) = false := by rfl) (hs' : starEach (l :: [l2]) X.env = (false, eval l X.env) :: starEach [l2] X.env := by rfl)
    (hs2 : starEach (l2 :: []) X.env = (false, eval l2 X.env) :: starEach [] X.env := by rfl) : PI X (.Tuple elts kk tpos) (.Call (.Name "zip" p) [l, l2] [] pos) (liftI X.K C (dZip d d2)) := ⟨fun pins s σ H Rr I ⟨sl, B, F, b, xs, B', R, e, k⟩ => by
  obtain ⟨⟨xs1, B1⟩, e1, e⟩ := bnd e
  obtain ⟨⟨xs2, B2⟩, e2, e⟩ := mpd e
  cases e
  obtain ⟨x, e3, e4⟩ := dSeq_inv e1
  obtain ⟨y, e5, e6⟩ := dSeq_inv e2
  refine Call_ (ld_blt I hg hm PyProof.Rows.boot_zip (PyProof.Rows.callWith_type1 (thn ((pa_cons h (pa_cons h2 pa_nil hs2) hs').run pos pins s σ H (fun vs H' => ∃ F' b', Rel X.K C sl B2 F' b' σ H' ∧ Stp F b H F' b' H' ∧ ∃ v u, vs = [v, u] ∧ Rp X.K F' v x ∧ Rp X.K F' u y) I ⟨sl, B, F, b, x, B1, R, e3, fun v H' F' b' R' S' q => ⟨sl, B1, F', b', y, _, R', e5, fun u H2 F2 b2 R2 S2 q2 => ⟨F2, b2, R2, S'.trans S2, v, u, rfl, Rp.mono S2.ex q, q2⟩⟩⟩) fun us s1 ⟨vs, H1, I1, r1, q1⟩ => ?_) hs hpl))
  obtain ⟨F1, b1, R1, S1, v, u, rfl, q1, q2⟩ := q1
  obtain ⟨z, ev, hz, rz, kz⟩ := src_ofE R1.fro q1 e4
  obtain ⟨z2, ev2, hz2, rz2, kz2⟩ := src_ofE R1.fro q2 e6
  subst ev ev2
  cases r1 with
  | cons ra rb =>
    cases rb with
    | cons rb rc =>
      cases rc
      cases ra
      cases rb
      exact zip_run I1 z z2 hz hz2 (k _ H1 F1 b1 R1 S1 (wk_zip (fun F' H' g1 g2 g3 => ⟨kz F' H' g1 g2 g3, kz2 F' H' g1 g2 g3⟩) rz rz2))⟩
theorem i_zipo (hm : X.mg "zip" = none) (h : PE X l (liftO X.K C d)) (h2 : PE X l2 (liftO X.K C d2)) (hg : Gl X "zip" := by rfl) (hs : starEach [l, l2] X.env = (false, eval l X.env) :: starEach [l2] X.env := by rfl) (hpl : (backTo pos (starEach [l2] X.env)).any (·.1) = false := by rfl) (hs' : starEach (l :: [l2]) X.env = (false, eval l X.env) :: starEach [l2] X.env := by rfl)
    (hs2 : starEach (l2 :: []) X.env = (false, eval l2 X.env) :: starEach [] X.env := by rfl) : PI X (.Tuple elts kk tpos) (.Call (.Name "zip" p) [l, l2] [] pos) (liftIo X.K C (dZip d d2)) := ⟨fun pins s σ H Rr I ⟨sl, B, F, b, xs, B', R, e, k⟩ => by
  obtain ⟨⟨xs1, B1⟩, e1, e⟩ := bnd e
  obtain ⟨⟨xs2, B2⟩, e2, e⟩ := mpd e
  cases e
  obtain ⟨x, e3, e4⟩ := dSeq_inv e1
  obtain ⟨y, e5, e6⟩ := dSeq_inv e2
  refine Call_ (ld_blt I hg hm PyProof.Rows.boot_zip (PyProof.Rows.callWith_type1 (thn ((pa_cons h (pa_cons h2 pa_nil hs2) hs').run pos pins s σ H (fun vs H' => ∃ F' b', Rel X.K C sl B2 F' b' σ H' ∧ Stp F b H F' b' H' ∧ ∃ v u, vs = [v, u] ∧ TopR X.K F' H' b' v x ∧ TopR X.K F' H' b' u y) I ⟨sl, B, F, b, x, B1, R, e3, fun v H' F' b' R' S' q => ⟨sl, B1, F', b', y, _, R', e5, fun u H2 F2 b2 R2 S2 q2 => ⟨F2, b2, R2, S'.trans S2, v, u, rfl, q.mono S2, q2⟩⟩⟩) fun us s1 ⟨vs, H1, I1, r1, q1⟩ => ?_) hs hpl))
  obtain ⟨F1, b1, R1, S1, v, u, rfl, q1, q2⟩ := q1
  obtain ⟨z, ev, hz, rz, kz⟩ := src_of R1.fro q1 e4
  obtain ⟨z2, ev2, hz2, rz2, kz2⟩ := src_of R1.fro q2 e6
  subst ev ev2
  cases r1 with
  | cons ra rb =>
    cases rb with
    | cons rb rc =>
      cases rc
      cases ra
      cases rb
      exact zip_run I1 z z2 hz hz2 (k _ H1 F1 b1 R1 S1 (wk_zip (fun F' H' g1 g2 g3 => ⟨kz F' H' g1 g2 g3, kz2 F' H' g1 g2 g3⟩) rz rz2))⟩
end
end Dn

set_option Elab.async false
set_option linter.all false
set_option autoImplicit false
set_option maxRecDepth 100000
set_option maxHeartbeats 0
namespace Dn
open PySem PySem.Spec PyProof.Rows L2
theorem fn_none {P : Program} {w : World} {K : Frg} {mg : Str → Option Value} {base : Heap} {k : Nat} {f : Addr} {fd : FuncData} {ps : List Str} : FnOk P w K mg base CX0 k f fd ps (spD K (fun _ _ => none)) where
  len := fun vs H Q E h => by
    obtain ⟨_, _, _, _, _, _, _, _, _, z, _⟩ := h
    cases z
  run := fun A outer s H args us vs Q E _ _ _ _ h => by
    obtain ⟨_, _, _, _, _, _, _, _, _, z, _⟩ := h
    cases z
theorem e_gI {X : Cx} {C : Fx} {x : Str} {n : Int} {pos : Pos} (h : ∃ t, X.mg x = some (.int n t)) (hg : Gl X x := by rfl) (hd : (x == ("__debug__" : Str)) = false := by decide) : PE X (.Name x pos) (liftE X.K C (dC (.int n))) := by
  obtain ⟨t, h⟩ := h
  exact e_glob (v := .int n) h ⟨t, rfl⟩ (fun _ => .int n) hg hd
theorem u65 {k : Nat} {A : Around} (r : Room k A) : A.units + 65 < cLine := by
  have := r.un
  omega
def topS (i : Nat) : Stmt := PySem.Challenge.pw_pantrykept_k91_whole_freezers.main.body.getD i (.Pass ⟨0, 0, 0, 0⟩)
structure Tx (mg : Str → Option Value) : Prop where
  g_abs : mg "abs" = none
  g_all : mg "all" = none
  g_bool : mg "bool" = none
  g_enumerate : mg "enumerate" = none
  g_int : mg "int" = none
  g_isinstance : mg "isinstance" = none
  g_len : mg "len" = none
  g_list : mg "list" = none
  g_min : mg "min" = none
  g_range : mg "range" = none
  g_str : mg "str" = none
  g_tuple : mg "tuple" = none
  g_MAX_HIRED : ∃ t, mg "MAX_HIRED" = some (.int 1000 t)
/-! ## _law_box -/
abbrev s_law_box : Stmt := topS 19
abbrev N_law_box : List Str := ["script"]
theorem sc_law_box : FnScope N_law_box ["script"] (defScope s_law_box) := ⟨rfl, rfl, rfl, by decide +kernel, rfl, by decide +kernel, by decide +kernel⟩
noncomputable def b_law_box : DS := (dRetV (dNewB 0 63 (dCons (dC (.int 0)) (dCons (dOp pyAdd (dC (.int 4711)) (dLenS 0)) dNil))))
noncomputable def d_law_box : FD := dFun 1 0 b_law_box
theorem ok_law_box {P : Program} {w : World} {K : Frg} {mg : Str → Option Value} {base : Heap} {f : Addr} {fd : FuncData} (T : Tx mg) (F : Fun K "_law_box" "_law_box" s_law_box f fd)  : FnOk P w K mg base CX0 1 f fd ["script"] (spD K d_law_box) :=
  def_ok F sc_law_box rfl rfl fun cdv A outer s H E C hr => by
    have nd := sc_law_box.nd
    exact (ss_one (s_retV (v_newB 0 63 (pe_lst (pa_cons (pe_callTy call_list_of (by rfl) T.g_list PyProof.Rows.boot_list (pa_cons (pe_slice sl_list (pv 0) po_none (po_some pe_int)) pa_nil)) (by exact (d_cons e_int (d_cons (e_op op_addA r_add (o_of e_int) (o_of (e_lenS 0 T.g_len))) d_nil))))))))
/-! ## _law_same -/
abbrev s_law_same : Stmt := topS 22
abbrev N_law_same : List Str := ["a", "b", "k"]
theorem sc_law_same : FnScope N_law_same ["a", "b"] (defScope s_law_same) := ⟨rfl, rfl, rfl, by decide +kernel, rfl, by decide +kernel, by decide +kernel⟩
noncomputable def b_law_same (r : FD) : DS := (dSeq (dIfS (dOrT (dAndT (dTru (dIsi "tuple" (dVarO 0))) (dTru (dIsi "tuple" (dVarO 1)))) (dAndT (dTru (dIsi "list" (dVarO 0))) (dTru (dIsi "list" (dVarO 1))))) (dRet (dAndV (dOpB pyEq (dCl pyLen (dCons (dVarO 0) dNil)) (dCl pyLen (dCons (dVarO 1) dNil))) (dCl pyAll (dCons (dF (dCmp (dRng1 (dCl pyLen (dCons (dVarO 0) dNil))) (gN 2) dYes (dFn (r) (dConsA (dV (dOp pyIx (dVarO 0) (dVarO 2))) (dConsA (dV (dOp pyIx (dVarO 1) (dVarO 2))) dNilA))) [2])) dNil)))) dNext)
  (dSeq (dIfS (dOrT (dTru (dIsi "bool" (dVarO 0))) (dTru (dIsi "bool" (dVarO 1)))) (dRet (dAndV (dIsi "bool" (dVarO 0)) (dAndV (dIsi "bool" (dVarO 1)) (dOpB pyEq (dVarO 0) (dVarO 1))))) dNext)
  (dSeq (dIfS (dOrT (dAndT (dTru (dIsi "int" (dVarO 0))) (dTru (dIsi "int" (dVarO 1)))) (dAndT (dTru (dIsi "str" (dVarO 0))) (dTru (dIsi "str" (dVarO 1))))) (dRet (dOpB pyEq (dVarO 0) (dVarO 1))) dNext)
  (dRet (dAndV (dOpB pyIs (dVarO 0) (dC .none)) (dOpB pyIs (dVarO 1) (dC .none)))))))
noncomputable def d_law_same : Nat → FD
  | 0 => fun _ _ => none
  | k + 1 => dFun 2 1 (b_law_same (d_law_same k))
theorem ok_law_same {P : Program} {w : World} {K : Frg} {mg : Str → Option Value} {base : Heap} {f : Addr} {fd : FuncData} (T : Tx mg) (F : Fun K "_law_same" "_law_same" s_law_same f fd) (gm : mg "_law_same" = some (.ref f)) (bd : Binds K fd ["a", "b"] [])  : ∀ kk : Nat, FnOk P w K mg base CX0 (0 + kk) f fd ["a", "b"] (spD K (d_law_same kk))
  | 0 => fn_none
  | kk + 1 => def_ok F sc_law_same rfl rfl fun cdv A outer s H E C hr => by
    have nd := sc_law_same.nd
    have hr : Room (0 + kk) (A.deeper (envOfC "_law_same" (defScope s_law_same) s.heap.objs.size f cdv)) := hr
    have D_law_same : Def P w K mg base (0 + kk) "_law_same" (d_law_same kk) := ⟨f, fd, ["a", "b"], ok_law_same T F gm bd  kk, gm, F.kp, bd⟩
    exact (ss_cons (s_if (by exact ((w_or ((w_and (t_tru (o_of (e_isi (t := "tuple") (by decide) T.g_isinstance T.g_tuple PyProof.Rows.boot_tuple (o_var 0)))) (w_and1 (t_tru (o_of (e_isi (t := "tuple") (by decide) T.g_isinstance T.g_tuple PyProof.Rows.boot_tuple (o_var 1)))))).pt) (w_or1 ((w_and (t_tru (o_of (e_isi (t := "list") (by decide) T.g_isinstance T.g_list PyProof.Rows.boot_list (o_var 0)))) (w_and1 (t_tru (o_of (e_isi (t := "list") (by decide) T.g_isinstance T.g_list PyProof.Rows.boot_list (o_var 1)))))).pt))).pt)) (ss_one (s_ret (by exact (e_and (by exact (e_cmp (op_eqD hr.units) r_eq (nomark _) (o_of (e_clB call_len r_len T.g_len PySem.boot_len (by exact (q_cons (o_var 0) q_nil)))) (o_of (e_clB call_len r_len T.g_len PySem.boot_len (by exact (q_cons (o_var 1) q_nil)))))) (by exact (e_one (by exact (e_clB (cr_all rfl) r_all T.g_all (by decide +kernel) (by exact (q_cons (o_of (f_of (l_lc rfl nd (by exact (io_of (i_rng1 T.g_range (o_of (e_clB call_len r_len T.g_len PySem.boot_len (by exact (q_cons (o_var 0) q_nil))))))) (blkOk_by (own := [("k", 2)]) (N := N_law_same) (sc := defScope s_law_same) (by decide +kernel)) (fun _ _ _ _ _ => (by exact (g_name 2 nd))) (fun _ _ _ _ _ => (by exact ts_nil)) (fun _ _ _ _ _ => (by exact (e_fn D_law_same (hr.mono (by omega)) (by exact (a_cons (v_of (e_ix (o_var 0) (o_var 2))) (a_cons (v_of (e_ix (o_var 1) (o_var 2))) a_nil))))))))) q_nil)))))))))) ss_nil)
  (ss_cons (s_if (by exact ((w_or (t_tru (o_of (e_isi (t := "bool") (by decide) T.g_isinstance T.g_bool PyProof.Rows.boot_bool (o_var 0)))) (w_or1 (t_tru (o_of (e_isi (t := "bool") (by decide) T.g_isinstance T.g_bool PyProof.Rows.boot_bool (o_var 1)))))).pt)) (ss_one (s_ret (by exact (e_and (by exact (e_isi (t := "bool") (by decide) T.g_isinstance T.g_bool PyProof.Rows.boot_bool (o_var 0))) (by exact (e_and (by exact (e_isi (t := "bool") (by decide) T.g_isinstance T.g_bool PyProof.Rows.boot_bool (o_var 1))) (by exact (e_one (by exact (e_cmp (op_eqD hr.units) r_eq (nomark _) (o_var 0) (o_var 1))))))))))) ss_nil)
  (ss_cons (s_if (by exact ((w_or ((w_and (t_tru (o_of (e_isi (t := "int") (by decide) T.g_isinstance T.g_int PyProof.Rows.boot_int (o_var 0)))) (w_and1 (t_tru (o_of (e_isi (t := "int") (by decide) T.g_isinstance T.g_int PyProof.Rows.boot_int (o_var 1)))))).pt) (w_or1 ((w_and (t_tru (o_of (e_isi (t := "str") (by decide) T.g_isinstance T.g_str PyProof.Rows.boot_str (o_var 0)))) (w_and1 (t_tru (o_of (e_isi (t := "str") (by decide) T.g_isinstance T.g_str PyProof.Rows.boot_str (o_var 1)))))).pt))).pt)) (ss_one (s_ret (by exact (e_cmp (op_eqD hr.units) r_eq (nomark _) (o_var 0) (o_var 1))))) ss_nil)
  (ss_one (s_ret (by exact (e_and (by exact (e_cmp op_isA r_is (nomark _) (o_var 0) (o_of e_non))) (by exact (e_one (by exact (e_cmp op_isA r_is (nomark _) (o_var 1) (o_of e_non))))))))))))
/-! ## less -/
abbrev s_less : Stmt := topS 6
abbrev N_less : List Str := ["one", "other"]
theorem sc_less : FnScope N_less ["one", "other"] (defScope s_less) := ⟨rfl, rfl, rfl, by decide +kernel, rfl, by decide +kernel, by decide +kernel⟩
noncomputable def b_less : DS := (dRet (dOpB pyLt (dOp pyMul (dOp pyIx (dVarO 0) (dC (.int 0))) (dOp pyIx (dVarO 1) (dC (.int 1)))) (dOp pyMul (dOp pyIx (dVarO 1) (dC (.int 0))) (dOp pyIx (dVarO 0) (dC (.int 1))))))
noncomputable def d_less : FD := dFun 2 0 b_less
theorem ok_less {P : Program} {w : World} {K : Frg} {mg : Str → Option Value} {base : Heap} {f : Addr} {fd : FuncData} (T : Tx mg) (F : Fun K "less" "less" s_less f fd)  : FnOk P w K mg base CX0 1 f fd ["one", "other"] (spD K d_less) :=
  def_ok F sc_less rfl rfl fun cdv A outer s H E C hr => by
    have nd := sc_less.nd
    exact (ss_one (s_ret (by exact (e_cmp op_lt r_lt (nomark _) (o_of (e_op op_mulA r_mul (o_of (e_ix (o_var 0) (o_of e_int))) (o_of (e_ix (o_var 1) (o_of e_int))))) (o_of (e_op op_mulA r_mul (o_of (e_ix (o_var 1) (o_of e_int))) (o_of (e_ix (o_var 0) (o_of e_int)))))))))
/-! ## common_divisor -/
abbrev s_common_divisor : Stmt := topS 4
abbrev N_common_divisor : List Str := ["a", "b"]
theorem sc_common_divisor : FnScope N_common_divisor ["a", "b"] (defScope s_common_divisor) := ⟨rfl, rfl, rfl, by decide +kernel, rfl, by decide +kernel, by decide +kernel⟩
noncomputable def common_divisor_W1 : DS := (dPar 0 1 (dVar 1) (dOp pyMod (dVarO 0) (dVarO 1)))
noncomputable def b_common_divisor : DS := (dSeq (dPar 0 1 (dCl pyAbs (dCons (dVarO 0) dNil)) (dCl pyAbs (dCons (dVarO 1) dNil)))
  (dSeq (dWhile (dTru (dVarO 1)) common_divisor_W1)
  (dRet (dVar 0))))
noncomputable def d_common_divisor : FD := dFun 2 0 b_common_divisor
theorem ok_common_divisor {P : Program} {w : World} {K : Frg} {mg : Str → Option Value} {base : Heap} {f : Addr} {fd : FuncData} (T : Tx mg) (F : Fun K "common_divisor" "common_divisor" s_common_divisor f fd)  : FnOk P w K mg base CX0 1 f fd ["a", "b"] (spD K d_common_divisor) :=
  def_ok F sc_common_divisor rfl rfl fun cdv A outer s H E C hr => by
    have nd := sc_common_divisor.nd
    exact (ss_cons (s_par 0 1 rfl nd (by decide) (by exact (e_clB call_abs r_abs T.g_abs PyProof.Rows.boot_abs (by exact (q_cons (o_var 0) q_nil)))) (by exact (e_clB call_abs r_abs T.g_abs PyProof.Rows.boot_abs (by exact (q_cons (o_var 1) q_nil)))))
  (ss_cons (s_while PassesOwn.never (by exact (t_tru (o_var 1))) (ss_one (s_par 0 1 rfl nd (by decide) (by exact (e_var 1)) (by exact (e_op op_mod r_mod (o_var 0) (o_var 1))))))
  (ss_one (s_ret (by exact (e_var 0))))))
/-! ## ratio -/
abbrev s_ratio : Stmt := topS 5
abbrev N_ratio : List Str := ["p", "q", "d"]
theorem sc_ratio : FnScope N_ratio ["p", "q"] (defScope s_ratio) := ⟨rfl, rfl, rfl, by decide +kernel, rfl, by decide +kernel, by decide +kernel⟩
noncomputable def b_ratio : DS := (dSeq (dIfS (dTst pyEq (dVarO 1) (dC (.int 0))) dNever dNext)
  (dSeq (dIfS (dTst pyLt (dVarO 1) (dC (.int 0))) (dPar 0 1 (dNeg (dVar 0)) (dNeg (dVar 1))) dNext)
  (dSeq (dAsg 2 (dFn (d_common_divisor) (dConsA (dVarV 0) (dConsA (dVarV 1) dNilA))))
  (dRet (dTup (dCons (dOp pyDiv (dVarO 0) (dVarO 2)) (dCons (dOp pyDiv (dVarO 1) (dVarO 2)) dNil)))))))
noncomputable def d_ratio : FD := dFun 2 1 b_ratio
theorem ok_ratio {P : Program} {w : World} {K : Frg} {mg : Str → Option Value} {base : Heap} {f : Addr} {fd : FuncData} (T : Tx mg) (F : Fun K "ratio" "ratio" s_ratio f fd) (D_common_divisor : Def P w K mg base 1 "common_divisor" (d_common_divisor)) : FnOk P w K mg base CX0 2 f fd ["p", "q"] (spD K d_ratio) :=
  def_ok F sc_ratio rfl rfl fun cdv A outer s H E C hr => by
    have nd := sc_ratio.nd
    exact (ss_cons (s_if (by exact (t_cmp (op_eqD hr.units) r_eq (nomark _) (o_var 1) (o_of e_int))) (ss_one s_never) ss_nil)
  (ss_cons (s_if (by exact (t_cmp op_lt r_lt (nomark _) (o_var 1) (o_of e_int))) (ss_one (s_par 0 1 rfl nd (by decide) (by exact (e_neg (e_var 0))) (by exact (e_neg (e_var 1))))) ss_nil)
  (ss_cons (s_set 2 nd (by exact (e_fn D_common_divisor (hr.mono (by decide)) (by exact (a_cons (v_var 0) (a_cons (v_var 1) a_nil))))))
  (ss_one (s_ret (by exact (e_tup (by exact (d_cons (e_op op_fdivW r_div (o_var 0) (o_var 2)) (d_cons (e_op op_fdivW r_div (o_var 1) (o_var 2)) d_nil))))))))))
/-! ## worst_ratio -/
abbrev s_worst_ratio : Stmt := topS 11
abbrev N_worst_ratio : List Str := ["price", "day"]
theorem sc_worst_ratio : FnScope N_worst_ratio ["price", "day"] (defScope s_worst_ratio) := ⟨rfl, rfl, rfl, by decide +kernel, rfl, by decide +kernel, by decide +kernel⟩
noncomputable def b_worst_ratio : DS := (dRet (dFn (d_ratio) (dConsA (dV (dOp pyAdd (dOp pySub (dVarO 1) (dC (.int 1))) (dVarO 0))) (dConsA (dV (dCl pyMin2 (dCons (dVarO 0) (dCons (dVarO 1) dNil)))) dNilA))))
noncomputable def d_worst_ratio : FD := dFun 2 0 b_worst_ratio
theorem ok_worst_ratio {P : Program} {w : World} {K : Frg} {mg : Str → Option Value} {base : Heap} {f : Addr} {fd : FuncData} (T : Tx mg) (F : Fun K "worst_ratio" "worst_ratio" s_worst_ratio f fd) (D_ratio : Def P w K mg base 2 "ratio" (d_ratio)) : FnOk P w K mg base CX0 3 f fd ["price", "day"] (spD K d_worst_ratio) :=
  def_ok F sc_worst_ratio rfl rfl fun cdv A outer s H E C hr => by
    have nd := sc_worst_ratio.nd
    exact (ss_one (s_ret (by exact (e_fn D_ratio (hr.mono (by decide)) (by exact (a_cons (v_of (e_op op_addA r_add (o_of (e_op op_sub r_sub (o_var 1) (o_of e_int))) (o_var 0))) (a_cons (v_of (e_clB (call_min2 rfl) r_min2 T.g_min (by decide +kernel) (by exact (q_cons (o_var 0) (q_cons (o_var 1) q_nil))))) a_nil)))))))
/-! ## best_day -/
abbrev s_best_day : Stmt := topS 12
abbrev N_best_day : List Str := ["price", "found", "day"]
theorem sc_best_day : FnScope N_best_day ["price"] (defScope s_best_day) := ⟨rfl, rfl, rfl, by decide +kernel, rfl, by decide +kernel, by decide +kernel⟩
noncomputable def best_day_L1 : DS := (dIfS (dTru (dFn (d_less) (dConsA (dV (dFn (d_worst_ratio) (dConsA (dVarV 0) (dConsA (dVarV 2) dNilA)))) (dConsA (dV (dFn (d_worst_ratio) (dConsA (dVarV 0) (dConsA (dVarV 1) dNilA)))) dNilA)))) (dAsg 1 (dVar 2)) dNext)
noncomputable def b_best_day : DS := (dSeq (dAsg 1 (dC (.int 1)))
  (dSeq (dFor (dRng2 (dC (.int 2)) (dOp pyAdd (dVarO 0) (dC (.int 1)))) (gN 2) best_day_L1)
  (dRet (dVar 1))))
noncomputable def d_best_day : FD := dFun 1 2 b_best_day
theorem ok_best_day {P : Program} {w : World} {K : Frg} {mg : Str → Option Value} {base : Heap} {f : Addr} {fd : FuncData} (T : Tx mg) (F : Fun K "best_day" "best_day" s_best_day f fd) (D_less : Def P w K mg base 1 "less" (d_less)) (D_worst_ratio : Def P w K mg base 3 "worst_ratio" (d_worst_ratio)) : FnOk P w K mg base CX0 4 f fd ["price"] (spD K d_best_day) :=
  def_ok F sc_best_day rfl rfl fun cdv A outer s H E C hr => by
    have nd := sc_best_day.nd
    exact (ss_cons (s_set 1 nd (by exact e_int))
  (ss_cons (s_for PassesOwn.never rfl (by exact (i_rng2 T.g_range (o_of e_int) (o_of (e_op op_addA r_add (o_var 0) (o_of e_int))))) (by exact (g_name 2 nd)) (ss_one (s_if (by exact (t_tru (o_of (e_fn D_less (hr.mono (by decide)) (by exact (a_cons (v_of (e_fn D_worst_ratio (hr.mono (by decide)) (by exact (a_cons (v_var 0) (a_cons (v_var 2) a_nil))))) (a_cons (v_of (e_fn D_worst_ratio (hr.mono (by decide)) (by exact (a_cons (v_var 0) (a_cons (v_var 1) a_nil))))) a_nil))))))) (ss_one (s_set 1 nd (by exact (e_var 2)))) ss_nil)))
  (ss_one (s_ret (by exact (e_var 1))))))
/-! ## _law_load -/
abbrev s_law_load : Stmt := topS 20
abbrev N_law_load : List Str := ["box", "cells", "cell", "size", "first", "second"]
theorem sc_law_load : FnScope N_law_load ["box"] (defScope s_law_load) := ⟨rfl, rfl, rfl, by decide +kernel, rfl, by decide +kernel, by decide +kernel⟩
noncomputable def b_law_load : DS := (dSeq (dAsgV 1 (dBcells 0))
  (dSeq (dIfS (dTst pyGt (dLenC (dVarV 1)) (dC (.int 0))) (dSeq (dAsg 2 (dCl pyInt (dCons (dPopC (dVarV 1)) dNil)))
  (dSeq (dAsg 3 (dIf (dTst pyGe (dVarO 2) (dC (.int 0))) (dOp pyMul (dC (.int 2)) (dVarO 2)) (dOp pySub (dOp pyMul (dNeg (dC (.int 2))) (dVarO 2)) (dC (.int 1)))))
  (dSeq (dIfS (dTst pyGe (dVarO 3) (dC (.int 1000000000000000000))) (dRet (dVar 3)) dNext)
  (dBset 0 2 (dOp pyMod (dCl pyInt (dCons (dOp pyAdd (dOp pyAdd (dOp pyMul (dBget 0 2) (dC (.int 69621))) (dOp pyMul (dVarO 3) (dC (.int 48271)))) (dC (.int 11))) dNil)) (dC (.int 2147483647))))))) dNext)
  (dSeq (dAsg 4 (dOp pyMod (dCl pyInt (dCons (dOp pyAdd (dOp pyMul (dBget 0 2) (dC (.int 48271))) (dC (.int 17))) dNil)) (dC (.int 2147483629))))
  (dSeq (dAsg 5 (dOp pyMod (dCl pyInt (dCons (dOp pyAdd (dOp pyMul (dVarO 4) (dC (.int 69621))) (dC (.int 5))) dNil)) (dC (.int 2147483587))))
  (dSeq (dBset 0 2 (dOp pyMod (dCl pyInt (dCons (dOp pyAdd (dOp pyMul (dVarO 5) (dC (.int 40692))) (dC (.int 3))) dNil)) (dC (.int 2147483563))))
  (dRet (dOp pyAdd (dOp pyAdd (dOp pyMul (dVarO 4) (dC (.int 4611686014132420609))) (dOp pyMul (dVarO 5) (dC (.int 2147483647)))) (dBget 0 2))))))))
noncomputable def d_law_load : FD := dFun 1 5 b_law_load
theorem ok_law_load {P : Program} {w : World} {K : Frg} {mg : Str → Option Value} {base : Heap} {f : Addr} {fd : FuncData} (T : Tx mg) (F : Fun K "_law_load" "_law_load" s_law_load f fd)  : FnOk P w K mg base CX0 1 f fd ["box"] (spD K d_law_load) :=
  def_ok F sc_law_load rfl rfl fun cdv A outer s H E C hr => by
    have nd := sc_law_load.nd
    exact (ss_cons (s_setV 1 nd (v_cells 0))
  (ss_cons (s_if (by exact (t_cmp op_gt r_gt (nomark _) (o_of (e_lenC T.g_len (v_var 1))) (o_of e_int))) (ss_cons (s_set 2 nd (by exact (e_clT call_int1 r_int T.g_int PyProof.Rows.boot_int (by exact (q_cons (o_of (e_popC (pe_bm PySem.F.plainAttrs_list PySem.F.slot_list_pop PySem.F.type_list_pop mt_popAt (v_var 1) (pa_cons pe_int pa_nil)))) q_nil)))))
  (ss_cons (s_set 3 nd (by exact (e_if (t_cmp op_ge r_ge (nomark _) (o_var 2) (o_of e_int)) (e_op op_mulA r_mul (o_of e_int) (o_var 2)) (e_op op_sub r_sub (o_of (e_op op_mulA r_mul (o_of (e_neg e_int)) (o_var 2))) (o_of e_int)))))
  (ss_cons (s_if (by exact (t_cmp op_ge r_ge (nomark _) (o_var 3) (o_of e_int))) (ss_one (s_ret (by exact (e_var 3)))) ss_nil)
  (ss_one (s_bset 0 2 (by exact (e_op op_mod r_mod (o_of (e_clT call_int1 r_int T.g_int PyProof.Rows.boot_int (by exact (q_cons (o_of (e_op op_addA r_add (o_of (e_op op_addA r_add (o_of (e_op op_mulA r_mul (o_of (e_bget 0 2)) (o_of e_int))) (o_of (e_op op_mulA r_mul (o_var 3) (o_of e_int))))) (o_of e_int))) q_nil)))) (o_of e_int)))))))) ss_nil)
  (ss_cons (s_set 4 nd (by exact (e_op op_mod r_mod (o_of (e_clT call_int1 r_int T.g_int PyProof.Rows.boot_int (by exact (q_cons (o_of (e_op op_addA r_add (o_of (e_op op_mulA r_mul (o_of (e_bget 0 2)) (o_of e_int))) (o_of e_int))) q_nil)))) (o_of e_int))))
  (ss_cons (s_set 5 nd (by exact (e_op op_mod r_mod (o_of (e_clT call_int1 r_int T.g_int PyProof.Rows.boot_int (by exact (q_cons (o_of (e_op op_addA r_add (o_of (e_op op_mulA r_mul (o_var 4) (o_of e_int))) (o_of e_int))) q_nil)))) (o_of e_int))))
  (ss_cons (s_bset 0 2 (by exact (e_op op_mod r_mod (o_of (e_clT call_int1 r_int T.g_int PyProof.Rows.boot_int (by exact (q_cons (o_of (e_op op_addA r_add (o_of (e_op op_mulA r_mul (o_var 5) (o_of e_int))) (o_of e_int))) q_nil)))) (o_of e_int))))
  (ss_one (s_ret (by exact (e_op op_addA r_add (o_of (e_op op_addA r_add (o_of (e_op op_mulA r_mul (o_var 4) (o_of e_int))) (o_of (e_op op_mulA r_mul (o_var 5) (o_of e_int))))) (o_of (e_bget 0 2)))))))))))
/-! ## _law_draw -/
abbrev s_law_draw : Stmt := topS 21
abbrev N_law_draw : List Str := ["box", "many", "digit"]
theorem sc_law_draw : FnScope N_law_draw ["box", "many"] (defScope s_law_draw) := ⟨rfl, rfl, rfl, by decide +kernel, rfl, by decide +kernel, by decide +kernel⟩
noncomputable def b_law_draw : DS := (dSeq (dIfS (dTst pyLt (dBget 0 1) (dVarO 1)) (dBset 0 1 (dFn (d_law_load) (dConsA (dVarV 0) dNilA))) dNext)
  (dSeq (dAsg 2 (dOp pyMod (dCl pyInt (dCons (dBget 0 1) dNil)) (dVarO 1)))
  (dSeq (dBset 0 1 (dOp pyDiv (dBget 0 1) (dVarO 1)))
  (dRet (dVar 2)))))
noncomputable def d_law_draw : FD := dFun 2 1 b_law_draw
theorem ok_law_draw {P : Program} {w : World} {K : Frg} {mg : Str → Option Value} {base : Heap} {f : Addr} {fd : FuncData} (T : Tx mg) (F : Fun K "_law_draw" "_law_draw" s_law_draw f fd) (D_law_load : Def P w K mg base 1 "_law_load" (d_law_load)) : FnOk P w K mg base CX0 2 f fd ["box", "many"] (spD K d_law_draw) :=
  def_ok F sc_law_draw rfl rfl fun cdv A outer s H E C hr => by
    have nd := sc_law_draw.nd
    exact (ss_cons (s_if (by exact (t_cmp op_lt r_lt (nomark _) (o_of (e_bget 0 1)) (o_var 1))) (ss_one (s_bset 0 1 (by exact (e_fn D_law_load (hr.mono (by decide)) (by exact (a_cons (v_var 0) a_nil)))))) ss_nil)
  (ss_cons (s_set 2 nd (by exact (e_op op_mod r_mod (o_of (e_clT call_int1 r_int T.g_int PyProof.Rows.boot_int (by exact (q_cons (o_of (e_bget 0 1)) q_nil)))) (o_var 1))))
  (ss_cons (s_bset 0 1 (by exact (e_op op_fdivW r_div (o_of (e_bget 0 1)) (o_var 1))))
  (ss_one (s_ret (by exact (e_var 2)))))))
/-! ## _law_less -/
abbrev s_law_less : Stmt := topS 27
abbrev N_law_less : List Str := ["one", "other"]
theorem sc_law_less : FnScope N_law_less ["one", "other"] (defScope s_law_less) := ⟨rfl, rfl, rfl, by decide +kernel, rfl, by decide +kernel, by decide +kernel⟩
noncomputable def b_law_less : DS := (dRet (dOpB pyLt (dOp pyMul (dOp pyIx (dVarO 0) (dC (.int 0))) (dOp pyIx (dVarO 1) (dC (.int 1)))) (dOp pyMul (dOp pyIx (dVarO 1) (dC (.int 0))) (dOp pyIx (dVarO 0) (dC (.int 1))))))
noncomputable def d_law_less : FD := dFun 2 0 b_law_less
theorem ok_law_less {P : Program} {w : World} {K : Frg} {mg : Str → Option Value} {base : Heap} {f : Addr} {fd : FuncData} (T : Tx mg) (F : Fun K "_law_less" "_law_less" s_law_less f fd)  : FnOk P w K mg base CX0 1 f fd ["one", "other"] (spD K d_law_less) :=
  def_ok F sc_law_less rfl rfl fun cdv A outer s H E C hr => by
    have nd := sc_law_less.nd
    exact (ss_one (s_ret (by exact (e_cmp op_lt r_lt (nomark _) (o_of (e_op op_mulA r_mul (o_of (e_ix (o_var 0) (o_of e_int))) (o_of (e_ix (o_var 1) (o_of e_int))))) (o_of (e_op op_mulA r_mul (o_of (e_ix (o_var 1) (o_of e_int))) (o_of (e_ix (o_var 0) (o_of e_int)))))))))
/-! ## _law_divisor -/
abbrev s_law_divisor : Stmt := topS 23
abbrev N_law_divisor : List Str := ["a", "b"]
theorem sc_law_divisor : FnScope N_law_divisor ["a", "b"] (defScope s_law_divisor) := ⟨rfl, rfl, rfl, by decide +kernel, rfl, by decide +kernel, by decide +kernel⟩
noncomputable def law_divisor_W1 : DS := (dPar 0 1 (dVar 1) (dOp pySub (dVarO 0) (dOp pyMul (dOp pyDiv (dVarO 0) (dVarO 1)) (dVarO 1))))
noncomputable def b_law_divisor : DS := (dSeq (dWhile (dTst pyNe (dVarO 1) (dC (.int 0))) law_divisor_W1)
  (dRet (dVar 0)))
noncomputable def d_law_divisor : FD := dFun 2 0 b_law_divisor
theorem ok_law_divisor {P : Program} {w : World} {K : Frg} {mg : Str → Option Value} {base : Heap} {f : Addr} {fd : FuncData} (T : Tx mg) (F : Fun K "_law_divisor" "_law_divisor" s_law_divisor f fd)  : FnOk P w K mg base CX0 1 f fd ["a", "b"] (spD K d_law_divisor) :=
  def_ok F sc_law_divisor rfl rfl fun cdv A outer s H E C hr => by
    have nd := sc_law_divisor.nd
    exact (ss_cons (s_while PassesOwn.never (by exact (t_cmp (op_neD hr.units) r_ne (nomark _) (o_var 1) (o_of e_int))) (ss_one (s_par 0 1 rfl nd (by decide) (by exact (e_var 1)) (by exact (e_op op_sub r_sub (o_var 0) (o_of (e_op op_mulA r_mul (o_of (e_op op_fdivW r_div (o_var 0) (o_var 1))) (o_var 1))))))))
  (ss_one (s_ret (by exact (e_var 0)))))
/-! ## _law_ratio -/
abbrev s_law_ratio : Stmt := topS 24
abbrev N_law_ratio : List Str := ["p", "q", "d"]
theorem sc_law_ratio : FnScope N_law_ratio ["p", "q"] (defScope s_law_ratio) := ⟨rfl, rfl, rfl, by decide +kernel, rfl, by decide +kernel, by decide +kernel⟩
noncomputable def b_law_ratio : DS := (dSeq (dAsg 2 (dFn (d_law_divisor) (dConsA (dV (dCl pyAbs (dCons (dVarO 0) dNil))) (dConsA (dV (dCl pyAbs (dCons (dVarO 1) dNil))) dNilA))))
  (dRet (dIf (dTst pyGt (dVarO 1) (dC (.int 0))) (dTup (dCons (dOp pyDiv (dVarO 0) (dVarO 2)) (dCons (dOp pyDiv (dVarO 1) (dVarO 2)) dNil))) (dTup (dCons (dOp pyDiv (dNeg (dVar 0)) (dVarO 2)) (dCons (dOp pyDiv (dNeg (dVar 1)) (dVarO 2)) dNil))))))
noncomputable def d_law_ratio : FD := dFun 2 1 b_law_ratio
theorem ok_law_ratio {P : Program} {w : World} {K : Frg} {mg : Str → Option Value} {base : Heap} {f : Addr} {fd : FuncData} (T : Tx mg) (F : Fun K "_law_ratio" "_law_ratio" s_law_ratio f fd) (D_law_divisor : Def P w K mg base 1 "_law_divisor" (d_law_divisor)) : FnOk P w K mg base CX0 2 f fd ["p", "q"] (spD K d_law_ratio) :=
  def_ok F sc_law_ratio rfl rfl fun cdv A outer s H E C hr => by
    have nd := sc_law_ratio.nd
    exact (ss_cons (s_set 2 nd (by exact (e_fn D_law_divisor (hr.mono (by decide)) (by exact (a_cons (v_of (e_clB call_abs r_abs T.g_abs PyProof.Rows.boot_abs (by exact (q_cons (o_var 0) q_nil)))) (a_cons (v_of (e_clB call_abs r_abs T.g_abs PyProof.Rows.boot_abs (by exact (q_cons (o_var 1) q_nil)))) a_nil))))))
  (ss_one (s_ret (by exact (e_if (t_cmp op_gt r_gt (nomark _) (o_var 1) (o_of e_int)) (e_tup (by exact (d_cons (e_op op_fdivW r_div (o_var 0) (o_var 2)) (d_cons (e_op op_fdivW r_div (o_var 1) (o_var 2)) d_nil)))) (e_tup (by exact (d_cons (e_op op_fdivW r_div (o_of (e_neg (e_var 0))) (o_var 2)) (d_cons (e_op op_fdivW r_div (o_of (e_neg (e_var 1))) (o_var 2)) d_nil)))))))))
/-! ## _law_plus -/
abbrev s_law_plus : Stmt := topS 25
abbrev N_law_plus : List Str := ["one", "other"]
theorem sc_law_plus : FnScope N_law_plus ["one", "other"] (defScope s_law_plus) := ⟨rfl, rfl, rfl, by decide +kernel, rfl, by decide +kernel, by decide +kernel⟩
noncomputable def b_law_plus : DS := (dRet (dFn (d_law_ratio) (dConsA (dV (dOp pyAdd (dOp pyMul (dOp pyIx (dVarO 0) (dC (.int 0))) (dOp pyIx (dVarO 1) (dC (.int 1)))) (dOp pyMul (dOp pyIx (dVarO 1) (dC (.int 0))) (dOp pyIx (dVarO 0) (dC (.int 1)))))) (dConsA (dV (dOp pyMul (dOp pyIx (dVarO 0) (dC (.int 1))) (dOp pyIx (dVarO 1) (dC (.int 1))))) dNilA))))
noncomputable def d_law_plus : FD := dFun 2 0 b_law_plus
theorem ok_law_plus {P : Program} {w : World} {K : Frg} {mg : Str → Option Value} {base : Heap} {f : Addr} {fd : FuncData} (T : Tx mg) (F : Fun K "_law_plus" "_law_plus" s_law_plus f fd) (D_law_ratio : Def P w K mg base 2 "_law_ratio" (d_law_ratio)) : FnOk P w K mg base CX0 3 f fd ["one", "other"] (spD K d_law_plus) :=
  def_ok F sc_law_plus rfl rfl fun cdv A outer s H E C hr => by
    have nd := sc_law_plus.nd
    exact (ss_one (s_ret (by exact (e_fn D_law_ratio (hr.mono (by decide)) (by exact (a_cons (v_of (e_op op_addA r_add (o_of (e_op op_mulA r_mul (o_of (e_ix (o_var 0) (o_of e_int))) (o_of (e_ix (o_var 1) (o_of e_int))))) (o_of (e_op op_mulA r_mul (o_of (e_ix (o_var 1) (o_of e_int))) (o_of (e_ix (o_var 0) (o_of e_int))))))) (a_cons (v_of (e_op op_mulA r_mul (o_of (e_ix (o_var 0) (o_of e_int))) (o_of (e_ix (o_var 1) (o_of e_int))))) a_nil)))))))
/-! ## _law_paid -/
abbrev s_law_paid : Stmt := topS 28
abbrev N_law_paid : List Str := ["price", "day", "needed", "paid", "owned", "today"]
theorem sc_law_paid : FnScope N_law_paid ["price", "day", "needed"] (defScope s_law_paid) := ⟨rfl, rfl, rfl, by decide +kernel, rfl, by decide +kernel, by decide +kernel⟩
noncomputable def law_paid_L1 : DS := (dIfS (dAndT (dNotT (dTru (dVarO 4))) (dTst pyEq (dVarO 5) (dVarO 1))) (dPar 3 4 (dOp pyAdd (dVarO 3) (dVarO 0)) (dC (.bool true))) (dIfS (dNotT (dTru (dVarO 4))) (dAsg 3 (dOp pyAdd (dVarO 3) (dC (.int 1)))) dNext))
noncomputable def b_law_paid : DS := (dSeq (dAsgG (gT (gCons' (gN 3) (gCons' (gN 4) gNil'))) (dTup (dCons (dC (.int 0)) (dCons (dC (.bool false)) dNil))))
  (dSeq (dFor (dRng2 (dC (.int 1)) (dOp pyAdd (dVarO 2) (dC (.int 1)))) (gN 5) law_paid_L1)
  (dRet (dVar 3))))
noncomputable def d_law_paid : FD := dFun 3 3 b_law_paid
theorem ok_law_paid {P : Program} {w : World} {K : Frg} {mg : Str → Option Value} {base : Heap} {f : Addr} {fd : FuncData} (T : Tx mg) (F : Fun K "_law_paid" "_law_paid" s_law_paid f fd)  : FnOk P w K mg base CX0 1 f fd ["price", "day", "needed"] (spD K d_law_paid) :=
  def_ok F sc_law_paid rfl rfl fun cdv A outer s H E C hr => by
    have nd := sc_law_paid.nd
    exact (ss_cons (s_asgG (by exact (e_tup (by exact (d_cons e_int (d_cons e_bl d_nil))))) (by exact (g_tup rfl (gs_cons (g_name 3 nd) (gs_cons (g_name 4 nd) gs_nil)) (glen_cons (glen_cons glen_nil)))))
  (ss_cons (s_for PassesOwn.never rfl (by exact (i_rng2 T.g_range (o_of e_int) (o_of (e_op op_addA r_add (o_var 2) (o_of e_int))))) (by exact (g_name 5 nd)) (ss_one (s_if (by exact ((w_and (t_not (t_tru (o_var 4))) (w_and1 (t_cmp (op_eqD hr.units) r_eq (nomark _) (o_var 5) (o_var 1)))).pt)) (ss_one (s_par 3 4 rfl nd (by decide) (by exact (e_op op_addA r_add (o_var 3) (o_var 0))) (by exact e_bl))) (ss_one (s_if (by exact (t_not (t_tru (o_var 4)))) (ss_one (s_set 3 nd (by exact (e_op op_addA r_add (o_var 3) (o_of e_int))))) ss_nil)))))
  (ss_one (s_ret (by exact (e_var 3))))))
/-! ## _law_times -/
abbrev s_law_times : Stmt := topS 26
abbrev N_law_times : List Str := ["one", "other"]
theorem sc_law_times : FnScope N_law_times ["one", "other"] (defScope s_law_times) := ⟨rfl, rfl, rfl, by decide +kernel, rfl, by decide +kernel, by decide +kernel⟩
noncomputable def b_law_times : DS := (dRet (dFn (d_law_ratio) (dConsA (dV (dOp pyMul (dOp pyIx (dVarO 0) (dC (.int 0))) (dOp pyIx (dVarO 1) (dC (.int 0))))) (dConsA (dV (dOp pyMul (dOp pyIx (dVarO 0) (dC (.int 1))) (dOp pyIx (dVarO 1) (dC (.int 1))))) dNilA))))
noncomputable def d_law_times : FD := dFun 2 0 b_law_times
theorem ok_law_times {P : Program} {w : World} {K : Frg} {mg : Str → Option Value} {base : Heap} {f : Addr} {fd : FuncData} (T : Tx mg) (F : Fun K "_law_times" "_law_times" s_law_times f fd) (D_law_ratio : Def P w K mg base 2 "_law_ratio" (d_law_ratio)) : FnOk P w K mg base CX0 3 f fd ["one", "other"] (spD K d_law_times) :=
  def_ok F sc_law_times rfl rfl fun cdv A outer s H E C hr => by
    have nd := sc_law_times.nd
    exact (ss_one (s_ret (by exact (e_fn D_law_ratio (hr.mono (by decide)) (by exact (a_cons (v_of (e_op op_mulA r_mul (o_of (e_ix (o_var 0) (o_of e_int))) (o_of (e_ix (o_var 1) (o_of e_int))))) (a_cons (v_of (e_op op_mulA r_mul (o_of (e_ix (o_var 0) (o_of e_int))) (o_of (e_ix (o_var 1) (o_of e_int))))) a_nil)))))))
/-! ## cost_hired -/
abbrev s_cost_hired : Stmt := topS 9
abbrev N_cost_hired : List Str := ["price", "day", "needed"]
theorem sc_cost_hired : FnScope N_cost_hired ["price", "day", "needed"] (defScope s_cost_hired) := ⟨rfl, rfl, rfl, by decide +kernel, rfl, by decide +kernel, by decide +kernel⟩
noncomputable def b_cost_hired : DS := (dRet (dIf (dTst pyLt (dVarO 2) (dVarO 1)) (dVar 2) (dOp pyAdd (dOp pySub (dVarO 1) (dC (.int 1))) (dVarO 0))))
noncomputable def d_cost_hired : FD := dFun 3 0 b_cost_hired
theorem ok_cost_hired {P : Program} {w : World} {K : Frg} {mg : Str → Option Value} {base : Heap} {f : Addr} {fd : FuncData} (T : Tx mg) (F : Fun K "cost_hired" "cost_hired" s_cost_hired f fd)  : FnOk P w K mg base CX0 1 f fd ["price", "day", "needed"] (spD K d_cost_hired) :=
  def_ok F sc_cost_hired rfl rfl fun cdv A outer s H E C hr => by
    have nd := sc_cost_hired.nd
    exact (ss_one (s_ret (by exact (e_if (t_cmp op_lt r_lt (nomark _) (o_var 2) (o_var 1)) (e_var 2) (e_op op_addA r_add (o_of (e_op op_sub r_sub (o_var 1) (o_of e_int))) (o_var 0))))))
/-! ## average_cost -/
abbrev s_average_cost : Stmt := topS 16
abbrev N_average_cost : List Str := ["price", "day", "chances", "total", "whole", "number", "chance", "cost"]
theorem sc_average_cost : FnScope N_average_cost ["price", "day", "chances"] (defScope s_average_cost) := ⟨rfl, rfl, rfl, by decide +kernel, rfl, by decide +kernel, by decide +kernel⟩
noncomputable def average_cost_L1 : DS := (dSeq (dAsg 7 (dFn (d_cost_hired) (dConsA (dVarV 0) (dConsA (dVarV 1) (dConsA (dV (dOp pyAdd (dVarO 5) (dC (.int 1)))) dNilA)))))
  (dSeq (dAsg 3 (dFn (d_ratio) (dConsA (dV (dOp pyAdd (dOp pyMul (dOp pyIx (dVarO 3) (dC (.int 0))) (dOp pyIx (dVarO 6) (dC (.int 1)))) (dOp pyMul (dOp pyMul (dVarO 7) (dOp pyIx (dVarO 6) (dC (.int 0)))) (dOp pyIx (dVarO 3) (dC (.int 1)))))) (dConsA (dV (dOp pyMul (dOp pyIx (dVarO 3) (dC (.int 1))) (dOp pyIx (dVarO 6) (dC (.int 1))))) dNilA))))
  (dAsg 4 (dFn (d_ratio) (dConsA (dV (dOp pyAdd (dOp pyMul (dOp pyIx (dVarO 4) (dC (.int 0))) (dOp pyIx (dVarO 6) (dC (.int 1)))) (dOp pyMul (dOp pyIx (dVarO 6) (dC (.int 0))) (dOp pyIx (dVarO 4) (dC (.int 1)))))) (dConsA (dV (dOp pyMul (dOp pyIx (dVarO 4) (dC (.int 1))) (dOp pyIx (dVarO 6) (dC (.int 1))))) dNilA))))))
noncomputable def b_average_cost : DS := (dSeq (dAsgG (gT (gCons' (gN 3) (gCons' (gN 4) gNil'))) (dTup (dCons (dTup (dCons (dC (.int 0)) (dCons (dC (.int 1)) dNil))) (dCons (dTup (dCons (dC (.int 0)) (dCons (dC (.int 1)) dNil))) dNil))))
  (dSeq (dFor (dEnum (dVar 2)) (gT (gCons' (gN 5) (gCons' (gN 6) gNil'))) average_cost_L1)
  (dRet (dFn (d_ratio) (dConsA (dV (dOp pyMul (dOp pyIx (dVarO 3) (dC (.int 0))) (dOp pyIx (dVarO 4) (dC (.int 1))))) (dConsA (dV (dOp pyMul (dOp pyIx (dVarO 3) (dC (.int 1))) (dOp pyIx (dVarO 4) (dC (.int 0))))) dNilA))))))
noncomputable def d_average_cost : FD := dFun 3 5 b_average_cost
theorem ok_average_cost {P : Program} {w : World} {K : Frg} {mg : Str → Option Value} {base : Heap} {f : Addr} {fd : FuncData} (T : Tx mg) (F : Fun K "average_cost" "average_cost" s_average_cost f fd) (D_ratio : Def P w K mg base 2 "ratio" (d_ratio)) (D_cost_hired : Def P w K mg base 1 "cost_hired" (d_cost_hired)) : FnOk P w K mg base CX0 3 f fd ["price", "day", "chances"] (spD K d_average_cost) :=
  def_ok F sc_average_cost rfl rfl fun cdv A outer s H E C hr => by
    have nd := sc_average_cost.nd
    exact (ss_cons (s_asgG (by exact (e_tup (by exact (d_cons (e_tup (by exact (d_cons e_int (d_cons e_int d_nil)))) (d_cons (e_tup (by exact (d_cons e_int (d_cons e_int d_nil)))) d_nil))))) (by exact (g_tup rfl (gs_cons (g_name 3 nd) (gs_cons (g_name 4 nd) gs_nil)) (glen_cons (glen_cons glen_nil)))))
  (ss_cons (s_for PassesOwn.never rfl (by exact (i_enum T.g_enumerate (e_var 2))) (by exact (g_tup rfl (gs_cons (g_name 5 nd) (gs_cons (g_name 6 nd) gs_nil)) (glen_cons (glen_cons glen_nil)))) (ss_cons (s_set 7 nd (by exact (e_fn D_cost_hired (hr.mono (by decide)) (by exact (a_cons (v_var 0) (a_cons (v_var 1) (a_cons (v_of (e_op op_addA r_add (o_var 5) (o_of e_int))) a_nil)))))))
  (ss_cons (s_set 3 nd (by exact (e_fn D_ratio (hr.mono (by decide)) (by exact (a_cons (v_of (e_op op_addA r_add (o_of (e_op op_mulA r_mul (o_of (e_ix (o_var 3) (o_of e_int))) (o_of (e_ix (o_var 6) (o_of e_int))))) (o_of (e_op op_mulA r_mul (o_of (e_op op_mulA r_mul (o_var 7) (o_of (e_ix (o_var 6) (o_of e_int))))) (o_of (e_ix (o_var 3) (o_of e_int))))))) (a_cons (v_of (e_op op_mulA r_mul (o_of (e_ix (o_var 3) (o_of e_int))) (o_of (e_ix (o_var 6) (o_of e_int))))) a_nil))))))
  (ss_one (s_set 4 nd (by exact (e_fn D_ratio (hr.mono (by decide)) (by exact (a_cons (v_of (e_op op_addA r_add (o_of (e_op op_mulA r_mul (o_of (e_ix (o_var 4) (o_of e_int))) (o_of (e_ix (o_var 6) (o_of e_int))))) (o_of (e_op op_mulA r_mul (o_of (e_ix (o_var 6) (o_of e_int))) (o_of (e_ix (o_var 4) (o_of e_int))))))) (a_cons (v_of (e_op op_mulA r_mul (o_of (e_ix (o_var 4) (o_of e_int))) (o_of (e_ix (o_var 6) (o_of e_int))))) a_nil))))))))))
  (ss_one (s_ret (by exact (e_fn D_ratio (hr.mono (by decide)) (by exact (a_cons (v_of (e_op op_mulA r_mul (o_of (e_ix (o_var 3) (o_of e_int))) (o_of (e_ix (o_var 4) (o_of e_int))))) (a_cons (v_of (e_op op_mulA r_mul (o_of (e_ix (o_var 3) (o_of e_int))) (o_of (e_ix (o_var 4) (o_of e_int))))) a_nil)))))))))
/-! ## best_on_average -/
abbrev s_best_on_average : Stmt := topS 17
abbrev N_best_on_average : List Str := ["price", "chances", "best", "day"]
theorem sc_best_on_average : FnScope N_best_on_average ["price", "chances"] (defScope s_best_on_average) := ⟨rfl, rfl, rfl, by decide +kernel, rfl, by decide +kernel, by decide +kernel⟩
noncomputable def best_on_average_L1 : DS := (dIfS (dTru (dFn (d_less) (dConsA (dV (dFn (d_average_cost) (dConsA (dVarV 0) (dConsA (dVarV 3) (dConsA (dVarV 1) dNilA))))) (dConsA (dV (dFn (d_average_cost) (dConsA (dVarV 0) (dConsA (dVarV 2) (dConsA (dVarV 1) dNilA))))) dNilA)))) (dAsg 2 (dVar 3)) dNext)
noncomputable def b_best_on_average : DS := (dSeq (dAsg 2 (dC (.int 1)))
  (dSeq (dFor (dRng2 (dC (.int 1)) (dOp pyAdd (dCl pyLen (dCons (dVarO 1) dNil)) (dC (.int 2)))) (gN 3) best_on_average_L1)
  (dRet (dVar 2))))
noncomputable def d_best_on_average : FD := dFun 2 2 b_best_on_average
theorem ok_best_on_average {P : Program} {w : World} {K : Frg} {mg : Str → Option Value} {base : Heap} {f : Addr} {fd : FuncData} (T : Tx mg) (F : Fun K "best_on_average" "best_on_average" s_best_on_average f fd) (D_less : Def P w K mg base 1 "less" (d_less)) (D_average_cost : Def P w K mg base 3 "average_cost" (d_average_cost)) : FnOk P w K mg base CX0 4 f fd ["price", "chances"] (spD K d_best_on_average) :=
  def_ok F sc_best_on_average rfl rfl fun cdv A outer s H E C hr => by
    have nd := sc_best_on_average.nd
    exact (ss_cons (s_set 2 nd (by exact e_int))
  (ss_cons (s_for PassesOwn.never rfl (by exact (i_rng2 T.g_range (o_of e_int) (o_of (e_op op_addA r_add (o_of (e_clB call_len r_len T.g_len PySem.boot_len (by exact (q_cons (o_var 1) q_nil)))) (o_of e_int))))) (by exact (g_name 3 nd)) (ss_one (s_if (by exact (t_tru (o_of (e_fn D_less (hr.mono (by decide)) (by exact (a_cons (v_of (e_fn D_average_cost (hr.mono (by decide)) (by exact (a_cons (v_var 0) (a_cons (v_var 3) (a_cons (v_var 1) a_nil)))))) (a_cons (v_of (e_fn D_average_cost (hr.mono (by decide)) (by exact (a_cons (v_var 0) (a_cons (v_var 2) (a_cons (v_var 1) a_nil)))))) a_nil))))))) (ss_one (s_set 2 nd (by exact (e_var 3)))) ss_nil)))
  (ss_one (s_ret (by exact (e_var 2))))))
/-! ## best_known -/
abbrev s_best_known : Stmt := topS 10
abbrev N_best_known : List Str := ["price", "needed"]
theorem sc_best_known : FnScope N_best_known ["price", "needed"] (defScope s_best_known) := ⟨rfl, rfl, rfl, by decide +kernel, rfl, by decide +kernel, by decide +kernel⟩
noncomputable def b_best_known : DS := (dRet (dCl pyMin2 (dCons (dVarO 0) (dCons (dVarO 1) dNil))))
noncomputable def d_best_known : FD := dFun 2 0 b_best_known
theorem ok_best_known {P : Program} {w : World} {K : Frg} {mg : Str → Option Value} {base : Heap} {f : Addr} {fd : FuncData} (T : Tx mg) (F : Fun K "best_known" "best_known" s_best_known f fd)  : FnOk P w K mg base CX0 1 f fd ["price", "needed"] (spD K d_best_known) :=
  def_ok F sc_best_known rfl rfl fun cdv A outer s H E C hr => by
    have nd := sc_best_known.nd
    exact (ss_one (s_ret (by exact (e_clB (call_min2 rfl) r_min2 T.g_min (by decide +kernel) (by exact (q_cons (o_var 0) (q_cons (o_var 1) q_nil)))))))
/-! ## beats -/
abbrev s_beats : Stmt := topS 15
abbrev N_beats : List Str := ["price", "one", "other"]
theorem sc_beats : FnScope N_beats ["price", "one", "other"] (defScope s_beats) := ⟨rfl, rfl, rfl, by decide +kernel, rfl, by decide +kernel, by decide +kernel⟩
noncomputable def b_beats : DS := (dRet (dFn (d_less) (dConsA (dV (dFn (d_worst_ratio) (dConsA (dVarV 0) (dConsA (dVarV 1) dNilA)))) (dConsA (dV (dFn (d_worst_ratio) (dConsA (dVarV 0) (dConsA (dVarV 2) dNilA)))) dNilA))))
noncomputable def d_beats : FD := dFun 3 0 b_beats
theorem ok_beats {P : Program} {w : World} {K : Frg} {mg : Str → Option Value} {base : Heap} {f : Addr} {fd : FuncData} (T : Tx mg) (F : Fun K "beats" "beats" s_beats f fd) (D_less : Def P w K mg base 1 "less" (d_less)) (D_worst_ratio : Def P w K mg base 3 "worst_ratio" (d_worst_ratio)) : FnOk P w K mg base CX0 4 f fd ["price", "one", "other"] (spD K d_beats) :=
  def_ok F sc_beats rfl rfl fun cdv A outer s H E C hr => by
    have nd := sc_beats.nd
    exact (ss_one (s_ret (by exact (e_fn D_less (hr.mono (by decide)) (by exact (a_cons (v_of (e_fn D_worst_ratio (hr.mono (by decide)) (by exact (a_cons (v_var 0) (a_cons (v_var 1) a_nil))))) (a_cons (v_of (e_fn D_worst_ratio (hr.mono (by decide)) (by exact (a_cons (v_var 0) (a_cons (v_var 2) a_nil))))) a_nil)))))))
/-! ## never_ratio -/
abbrev s_never_ratio : Stmt := topS 13
abbrev N_never_ratio : List Str := ["price", "needed"]
theorem sc_never_ratio : FnScope N_never_ratio ["price", "needed"] (defScope s_never_ratio) := ⟨rfl, rfl, rfl, by decide +kernel, rfl, by decide +kernel, by decide +kernel⟩
noncomputable def b_never_ratio : DS := (dRet (dFn (d_ratio) (dConsA (dVarV 1) (dConsA (dV (dFn (d_best_known) (dConsA (dVarV 0) (dConsA (dVarV 1) dNilA)))) dNilA))))
noncomputable def d_never_ratio : FD := dFun 2 0 b_never_ratio
theorem ok_never_ratio {P : Program} {w : World} {K : Frg} {mg : Str → Option Value} {base : Heap} {f : Addr} {fd : FuncData} (T : Tx mg) (F : Fun K "never_ratio" "never_ratio" s_never_ratio f fd) (D_ratio : Def P w K mg base 2 "ratio" (d_ratio)) (D_best_known : Def P w K mg base 1 "best_known" (d_best_known)) : FnOk P w K mg base CX0 3 f fd ["price", "needed"] (spD K d_never_ratio) :=
  def_ok F sc_never_ratio rfl rfl fun cdv A outer s H E C hr => by
    have nd := sc_never_ratio.nd
    exact (ss_one (s_ret (by exact (e_fn D_ratio (hr.mono (by decide)) (by exact (a_cons (v_var 1) (a_cons (v_of (e_fn D_best_known (hr.mono (by decide)) (by exact (a_cons (v_var 0) (a_cons (v_var 1) a_nil))))) a_nil)))))))
/-! ## adversary -/
abbrev s_adversary : Stmt := topS 14
abbrev N_adversary : List Str := ["price", "day"]
theorem sc_adversary : FnScope N_adversary ["price", "day"] (defScope s_adversary) := ⟨rfl, rfl, rfl, by decide +kernel, rfl, by decide +kernel, by decide +kernel⟩
noncomputable def b_adversary : DS := (dRet (dVar 1))
noncomputable def d_adversary : FD := dFun 2 0 b_adversary
theorem ok_adversary {P : Program} {w : World} {K : Frg} {mg : Str → Option Value} {base : Heap} {f : Addr} {fd : FuncData} (T : Tx mg) (F : Fun K "adversary" "adversary" s_adversary f fd)  : FnOk P w K mg base CX0 1 f fd ["price", "day"] (spD K d_adversary) :=
  def_ok F sc_adversary rfl rfl fun cdv A outer s H E C hr => by
    have nd := sc_adversary.nd
    exact (ss_one (s_ret (by exact (e_var 1))))
/-! ## law -/
abbrev s_law : Stmt := topS 29
abbrev N_law : List Str := ["script", "box", "turn", "price", "worst", "day", "most", "at", "needed", "paid", "one", "least", "best", "other", "due", "k", "chances", "whole", "chance", "means", "total", "cheap"]
theorem sc_law : FnScope N_law ["script"] (defScope s_law) := ⟨rfl, rfl, rfl, by decide +kernel, rfl, by decide +kernel, by decide +kernel⟩
noncomputable def law_L1 : DS := (dAsg 21 (dIf (dTru (dFn (d_law_less) (dConsA (dVarV 10) (dConsA (dVarV 21) dNilA)))) (dVar 10) (dVar 21)))
noncomputable def law_L2 : DS := (dAsg 20 (dFn (d_law_plus) (dConsA (dVarV 20) (dConsA (dV (dFn (d_law_times) (dConsA (dV (dOp pyIx (dVarO 16) (dVarO 15))) (dConsA (dV (dTup (dCons (dFn (d_law_paid) (dConsA (dVarV 3) (dConsA (dVarV 5) (dConsA (dV (dOp pyAdd (dVarO 15) (dC (.int 1)))) dNilA)))) (dCons (dC (.int 1)) dNil)))) dNilA)))) dNilA))))
noncomputable def law_L3 : DS := (dSeq (dAsg 20 (dTup (dCons (dC (.int 0)) (dCons (dC (.int 1)) dNil))))
  (dSeq (dFor (dRng1 (dCl pyLen (dCons (dVarO 16) dNil))) (gN 15) law_L2)
  (dSeq (dApp 19 (dFn (d_law_times) (dConsA (dVarV 20) (dConsA (dV (dTup (dCons (dOp pyIx (dVarO 17) (dC (.int 1))) (dCons (dOp pyIx (dVarO 17) (dC (.int 0))) dNil)))) dNilA))))
  (dIfS (dNotT (dTru (dFn (d_law_same 8) (dConsA (dV (dFn (d_average_cost) (dConsA (dVarV 3) (dConsA (dVarV 5) (dConsA (dVarV 16) dNilA))))) (dConsA (dV (dOp pyIx (dVarO 19) (dNeg (dC (.int 1))))) dNilA))))) (dRet (dC (.bool false))) dNext))))
noncomputable def law_L4 : DS := (dAsg 17 (dFn (d_law_plus) (dConsA (dVarV 17) (dConsA (dVarV 18) dNilA))))
noncomputable def law_L5 : DS := (dAsg 11 (dIf (dTru (dFn (d_law_less) (dConsA (dVarV 10) (dConsA (dVarV 11) dNilA)))) (dVar 10) (dVar 11)))
noncomputable def law_L6 : DS := (dSeq (dAsg 9 (dFn (d_law_paid) (dConsA (dVarV 3) (dConsA (dVarV 5) (dConsA (dVarV 8) dNilA)))))
  (dSeq (dAsg 10 (dFn (d_law_ratio) (dConsA (dVarV 9) (dConsA (dV (dCl pyMin2 (dCons (dVarO 3) (dCons (dVarO 8) dNil)))) dNilA))))
  (dAsgG (gT (gCons' (gN 6) (gCons' (gN 7) gNil'))) (dIf (dTru (dFn (d_law_less) (dConsA (dVarV 6) (dConsA (dVarV 10) dNilA)))) (dTup (dCons (dVar 10) (dCons (dVar 8) dNil))) (dTup (dCons (dVar 6) (dCons (dVar 7) dNil)))))))
noncomputable def law_L7 : DS := (dSeq (dAsgG (gT (gCons' (gN 6) (gCons' (gN 7) gNil'))) (dTup (dCons (dTup (dCons (dC (.int 0)) (dCons (dC (.int 1)) dNil))) (dCons (dC (.int 0)) dNil))))
  (dSeq (dFor (dRng2 (dC (.int 1)) (dOp pyAdd (dOp pyMul (dC (.int 3)) (dVarO 3)) (dC (.int 5)))) (gN 8) law_L6)
  (dSeq (dApp 4 (dVar 6))
  (dIfS (dNotT (dTru (dFn (d_law_same 8) (dConsA (dV (dTup (dCons (dFn (d_worst_ratio) (dConsA (dVarV 3) (dConsA (dVarV 5) dNilA))) (dCons (dFn (d_adversary) (dConsA (dVarV 3) (dConsA (dVarV 5) dNilA))) dNil)))) (dConsA (dV (dTup (dCons (dVar 6) (dCons (dVar 7) dNil)))) dNilA))))) (dRet (dC (.bool false))) dNext))))
noncomputable def law_L8 : DS := (dSeq (dAsg 3 (dOp pyAdd (dC (.int 1)) (dFn (d_law_draw) (dConsA (dVarV 1) (dConsA (dV (dC (.int 40))) dNilA)))))
  (dSeq (dAsgO 4 (dLst dNil))
  (dSeq (dFor (dRng2 (dC (.int 1)) (dOp pyAdd (dOp pyMul (dC (.int 2)) (dVarO 3)) (dC (.int 3)))) (gN 5) law_L7)
  (dSeq (dPar 8 5 (dOp pyAdd (dC (.int 1)) (dFn (d_law_draw) (dConsA (dVarV 1) (dConsA (dV (dC (.int 80))) dNilA)))) (dOp pyAdd (dC (.int 1)) (dFn (d_law_draw) (dConsA (dVarV 1) (dConsA (dV (dC (.int 80))) dNilA)))))
  (dSeq (dIfS (dNotT (dTru (dFn (d_law_same 8) (dConsA (dV (dTup (dCons (dFn (d_cost_hired) (dConsA (dVarV 3) (dConsA (dVarV 5) (dConsA (dVarV 8) dNilA)))) (dCons (dFn (d_best_known) (dConsA (dVarV 3) (dConsA (dVarV 8) dNilA))) dNil)))) (dConsA (dV (dTup (dCons (dFn (d_law_paid) (dConsA (dVarV 3) (dConsA (dVarV 5) (dConsA (dVarV 8) dNilA)))) (dCons (dCl pyMin2 (dCons (dVarO 3) (dCons (dVarO 8) dNil))) dNil)))) dNilA))))) (dRet (dC (.bool false))) dNext)
  (dSeq (dAsg 11 (dOp pyIx (dVarO 4) (dC (.int 0))))
  (dFz 4 (dSeq (dFor (dSeq' (dVar 4)) (gN 10) law_L5)
  (dSeq (dAsg 12 (dFn (d_best_day) (dConsA (dVarV 3) dNilA)))
  (dSeq (dIfS (dOrT (dNotT (dTru (dFn (d_law_same 8) (dConsA (dVarV 11) (dConsA (dV (dFn (d_law_ratio) (dConsA (dV (dOp pySub (dOp pyMul (dC (.int 2)) (dVarO 3)) (dC (.int 1)))) (dConsA (dVarV 3) dNilA)))) dNilA))))) (dOrT (dTst pyNe (dVarO 12) (dOp pyAdd (dIndex (dVarO 4) (dVarO 11)) (dC (.int 1)))) (dOrT (dTst pyNe (dVarO 12) (dVarO 3)) (dTst pyNe (dCl pyLen (dCons (dF (dCmp (dSeq' (dVarO 4)) (gN 10) (dTst pyEq (dVarO 10) (dVarO 11)) (dVar 10) [10])) dNil)) (dC (.int 1)))))) (dRet (dC (.bool false))) dNext)
  (dSeq (dAsg 13 (dOp pyAdd (dC (.int 1)) (dFn (d_law_draw) (dConsA (dVarV 1) (dConsA (dV (dOp pyAdd (dOp pyMul (dC (.int 2)) (dVarO 3)) (dC (.int 2)))) dNilA)))))
  (dSeq (dAsg 14 (dTup (dCons (dFn (d_law_less) (dConsA (dV (dFn (d_worst_ratio) (dConsA (dVarV 3) (dConsA (dVarV 5) dNilA)))) (dConsA (dV (dFn (d_worst_ratio) (dConsA (dVarV 3) (dConsA (dVarV 13) dNilA)))) dNilA))) (dCons (dFn (d_law_ratio) (dConsA (dVarV 8) (dConsA (dV (dCl pyMin2 (dCons (dVarO 3) (dCons (dVarO 8) dNil)))) dNilA))) dNil))))
  (dSeq (dIfS (dNotT (dTru (dFn (d_law_same 8) (dConsA (dV (dTup (dCons (dFn (d_beats) (dConsA (dVarV 3) (dConsA (dVarV 5) (dConsA (dVarV 13) dNilA)))) (dCons (dFn (d_never_ratio) (dConsA (dVarV 3) (dConsA (dVarV 8) dNilA))) dNil)))) (dConsA (dVarV 14) dNilA))))) (dRet (dC (.bool false))) dNext)
  (dSeq (dAsg 16 (dCl pyTuple (dCons (dF (dCmp (dRng1 (dOp pyAdd (dC (.int 1)) (dFn (d_law_draw) (dConsA (dVarV 1) (dConsA (dV (dC (.int 8))) dNilA))))) (gN 15) dYes (dFn (d_law_ratio) (dConsA (dV (dFn (d_law_draw) (dConsA (dVarV 1) (dConsA (dV (dC (.int 4))) dNilA)))) (dConsA (dV (dOp pyAdd (dC (.int 1)) (dFn (d_law_draw) (dConsA (dVarV 1) (dConsA (dV (dC (.int 3))) dNilA))))) dNilA))) [15])) dNil)))
  (dSeq (dAsg 17 (dTup (dCons (dC (.int 0)) (dCons (dC (.int 1)) dNil))))
  (dSeq (dFor (dSeq' (dVar 16)) (gN 18) law_L4)
  (dSeq (dIfS (dTst pyEq (dVarO 17) (dTup (dCons (dC (.int 0)) (dCons (dC (.int 1)) dNil)))) dCont dNext)
  (dSeq (dAsgO 19 (dLst dNil))
  (dSeq (dFor (dRng2 (dC (.int 1)) (dOp pyAdd (dCl pyLen (dCons (dVarO 16) dNil)) (dC (.int 2)))) (gN 5) law_L3)
  (dSeq (dAsg 21 (dOp pyIx (dVarO 19) (dC (.int 0))))
  (dFz 19 (dSeq (dFor (dSeq' (dVar 19)) (gN 10) law_L1)
  (dIfS (dNotT (dTru (dFn (d_law_same 8) (dConsA (dV (dFn (d_best_on_average) (dConsA (dVarV 3) (dConsA (dVarV 16) dNilA)))) (dConsA (dV (dOp pyAdd (dIndex (dVarO 19) (dVarO 21)) (dC (.int 1)))) dNilA))))) (dRet (dC (.bool false))) dNext)))))))))))))))))))))))
noncomputable def b_law : DS := (dSeq (dAsgV 1 (dFnV d_law_box (dConsA (dVarV 0) dNilA)))
  (dSeq (dIfS (dTst pyNe (dC (.int 1000)) (dC (.int 1000))) (dRet (dC (.bool false))) dNext)
  (dSeq (dFor (dRng1 (dC (.int 4))) (gN 2) law_L8)
  (dRet (dFn (d_law_same 8) (dConsA (dV (dTup (dCons (dFn (d_best_day) (dConsA (dV (dC (.int 5))) dNilA)) (dCons (dFn (d_worst_ratio) (dConsA (dV (dC (.int 5))) (dConsA (dV (dC (.int 5))) dNilA))) dNil)))) (dConsA (dV (dTup (dCons (dC (.int 5)) (dCons (dTup (dCons (dC (.int 9)) (dCons (dC (.int 5)) dNil))) dNil)))) dNilA)))))))
noncomputable def d_law : FD := dFun 1 21 b_law
theorem ok_law {P : Program} {w : World} {K : Frg} {mg : Str → Option Value} {base : Heap} {f : Addr} {fd : FuncData} (T : Tx mg) (F : Fun K "law" "law" s_law f fd) (D_law_box : Def P w K mg base 1 "_law_box" (d_law_box)) (D_law_same : Def P w K mg base 8 "_law_same" (d_law_same 8)) (D_best_day : Def P w K mg base 4 "best_day" (d_best_day)) (D_law_draw : Def P w K mg base 2 "_law_draw" (d_law_draw)) (D_law_less : Def P w K mg base 1 "_law_less" (d_law_less)) (D_law_ratio : Def P w K mg base 2 "_law_ratio" (d_law_ratio)) (D_law_plus : Def P w K mg base 3 "_law_plus" (d_law_plus)) (D_worst_ratio : Def P w K mg base 3 "worst_ratio" (d_worst_ratio)) (D_law_paid : Def P w K mg base 1 "_law_paid" (d_law_paid)) (D_law_times : Def P w K mg base 3 "_law_times" (d_law_times)) (D_best_on_average : Def P w K mg base 4 "best_on_average" (d_best_on_average)) (D_cost_hired : Def P w K mg base 1 "cost_hired" (d_cost_hired)) (D_best_known : Def P w K mg base 1 "best_known" (d_best_known)) (D_beats : Def P w K mg base 4 "beats" (d_beats)) (D_never_ratio : Def P w K mg base 3 "never_ratio" (d_never_ratio)) (D_average_cost : Def P w K mg base 3 "average_cost" (d_average_cost)) (D_adversary : Def P w K mg base 1 "adversary" (d_adversary)) : FnOk P w K mg base CX0 9 f fd ["script"] (spD K d_law) :=
  def_ok F sc_law rfl rfl fun cdv A outer s H E C hr => by
    have nd := sc_law.nd
    exact (ss_cons (s_setV 1 nd (v_fn D_law_box (hr.mono (by decide)) (by exact (a_cons (v_var 0) a_nil))))
  (ss_cons (s_if (by exact (t_cmp (op_neD hr.units) r_ne (nomark _) (o_of (e_gI T.g_MAX_HIRED)) (o_of e_int))) (ss_one (s_ret (by exact e_bl))) ss_nil)
  (ss_cons (s_for PassesOwn.never rfl (by exact (i_rng1 T.g_range (o_of e_int))) (by exact (g_name 2 nd)) (ss_cons (s_set 3 nd (by exact (e_op op_addA r_add (o_of e_int) (o_of (e_fn D_law_draw (hr.mono (by decide)) (by exact (a_cons (v_var 1) (a_cons (v_of e_int) a_nil))))))))
  (ss_cons (s_setO 4 nd (by exact (l_lst (by exact d_nil))))
  (ss_cons (s_for PassesOwn.never rfl (by exact (i_rng2 T.g_range (o_of e_int) (o_of (e_op op_addA r_add (o_of (e_op op_mulA r_mul (o_of e_int) (o_var 3))) (o_of e_int))))) (by exact (g_name 5 nd)) (ss_cons (s_asgG (by exact (e_tup (by exact (d_cons (e_tup (by exact (d_cons e_int (d_cons e_int d_nil)))) (d_cons e_int d_nil))))) (by exact (g_tup rfl (gs_cons (g_name 6 nd) (gs_cons (g_name 7 nd) gs_nil)) (glen_cons (glen_cons glen_nil)))))
  (ss_cons (s_for PassesOwn.never rfl (by exact (i_rng2 T.g_range (o_of e_int) (o_of (e_op op_addA r_add (o_of (e_op op_mulA r_mul (o_of e_int) (o_var 3))) (o_of e_int))))) (by exact (g_name 8 nd)) (ss_cons (s_set 9 nd (by exact (e_fn D_law_paid (hr.mono (by decide)) (by exact (a_cons (v_var 3) (a_cons (v_var 5) (a_cons (v_var 8) a_nil)))))))
  (ss_cons (s_set 10 nd (by exact (e_fn D_law_ratio (hr.mono (by decide)) (by exact (a_cons (v_var 9) (a_cons (v_of (e_clB (call_min2 rfl) r_min2 T.g_min (by decide +kernel) (by exact (q_cons (o_var 3) (q_cons (o_var 8) q_nil))))) a_nil))))))
  (ss_one (s_asgG (by exact (e_if (t_tru (o_of (e_fn D_law_less (hr.mono (by decide)) (by exact (a_cons (v_var 6) (a_cons (v_var 10) a_nil)))))) (e_tup (by exact (d_cons (e_var 10) (d_cons (e_var 8) d_nil)))) (e_tup (by exact (d_cons (e_var 6) (d_cons (e_var 7) d_nil)))))) (by exact (g_tup rfl (gs_cons (g_name 6 nd) (gs_cons (g_name 7 nd) gs_nil)) (glen_cons (glen_cons glen_nil)))))))))
  (ss_cons (s_app 4 (pe_bm PySem.F.plainAttrs_list PySem.F.slot_list_append PySem.F.type_list_append mt_append (pv 4) (pa_cons (e_var 6) pa_nil)))
  (ss_one (s_if (by exact (t_not (t_tru (o_of (e_fn D_law_same (hr.mono (by decide)) (by exact (a_cons (v_of (e_tup (by exact (d_cons (e_fn D_worst_ratio (hr.mono (by decide)) (by exact (a_cons (v_var 3) (a_cons (v_var 5) a_nil)))) (d_cons (e_fn D_adversary (hr.mono (by decide)) (by exact (a_cons (v_var 3) (a_cons (v_var 5) a_nil)))) d_nil))))) (a_cons (v_of (e_tup (by exact (d_cons (e_var 6) (d_cons (e_var 7) d_nil))))) a_nil)))))))) (ss_one (s_ret (by exact e_bl))) ss_nil))))))
  (ss_cons (s_par 8 5 rfl nd (by decide) (by exact (e_op op_addA r_add (o_of e_int) (o_of (e_fn D_law_draw (hr.mono (by decide)) (by exact (a_cons (v_var 1) (a_cons (v_of e_int) a_nil))))))) (by exact (e_op op_addA r_add (o_of e_int) (o_of (e_fn D_law_draw (hr.mono (by decide)) (by exact (a_cons (v_var 1) (a_cons (v_of e_int) a_nil))))))))
  (ss_cons (s_if (by exact (t_not (t_tru (o_of (e_fn D_law_same (hr.mono (by decide)) (by exact (a_cons (v_of (e_tup (by exact (d_cons (e_fn D_cost_hired (hr.mono (by decide)) (by exact (a_cons (v_var 3) (a_cons (v_var 5) (a_cons (v_var 8) a_nil))))) (d_cons (e_fn D_best_known (hr.mono (by decide)) (by exact (a_cons (v_var 3) (a_cons (v_var 8) a_nil)))) d_nil))))) (a_cons (v_of (e_tup (by exact (d_cons (e_fn D_law_paid (hr.mono (by decide)) (by exact (a_cons (v_var 3) (a_cons (v_var 5) (a_cons (v_var 8) a_nil))))) (d_cons (e_clB (call_min2 rfl) r_min2 T.g_min (by decide +kernel) (by exact (q_cons (o_var 3) (q_cons (o_var 8) q_nil)))) d_nil))))) a_nil)))))))) (ss_one (s_ret (by exact e_bl))) ss_nil)
  (ss_cons (s_set 11 nd (by exact (e_ix (o_var 4) (o_of e_int))))
  (ss_fz 4 (ss_cons (s_for PassesOwn.never rfl (by exact (i_seq (e_var 4))) (by exact (g_name 10 nd)) (ss_one (s_set 11 nd (by exact (e_if (t_tru (o_of (e_fn D_law_less (hr.mono (by decide)) (by exact (a_cons (v_var 10) (a_cons (v_var 11) a_nil)))))) (e_var 10) (e_var 11))))))
  (ss_cons (s_set 12 nd (by exact (e_fn D_best_day (hr.mono (by decide)) (by exact (a_cons (v_var 3) a_nil)))))
  (ss_cons (s_if (by exact ((w_or (t_not (t_tru (o_of (e_fn D_law_same (hr.mono (by decide)) (by exact (a_cons (v_var 11) (a_cons (v_of (e_fn D_law_ratio (hr.mono (by decide)) (by exact (a_cons (v_of (e_op op_sub r_sub (o_of (e_op op_mulA r_mul (o_of e_int) (o_var 3))) (o_of e_int))) (a_cons (v_var 3) a_nil))))) a_nil))))))) (w_or (t_cmp (op_neD hr.units) r_ne (nomark _) (o_var 12) (o_of (e_op op_addA r_add (o_of (e_index (pe_bm PySem.F.plainAttrs_list PySem.F.slot_list_index PySem.F.type_list_index (mt_indexD (u65 hr)) (o_var 4) (pa_cons (o_var 11) pa_nil)))) (o_of e_int)))) (w_or (t_cmp (op_neD hr.units) r_ne (nomark _) (o_var 12) (o_var 3)) (w_or1 (t_cmp (op_neD hr.units) r_ne (nomark _) (o_of (e_clB call_len r_len T.g_len PySem.boot_len (by exact (q_cons (o_of (f_of (l_lc rfl nd (by exact (i_seqo (o_var 4))) (blkOk_by (own := [("one", 10)]) (N := N_law) (sc := defScope s_law) (by decide +kernel)) (fun _ _ _ _ _ => (by exact (g_name 10 nd))) (fun _ _ _ _ _ => (by exact (ts_one (t_cmp (op_eqD hr.units) r_eq (nomark _) (o_var 10) (o_var 11))))) (fun _ _ _ _ _ => (by exact (e_var 10)))))) q_nil)))) (o_of e_int)))))).pt)) (ss_one (s_ret (by exact e_bl))) ss_nil)
  (ss_cons (s_set 13 nd (by exact (e_op op_addA r_add (o_of e_int) (o_of (e_fn D_law_draw (hr.mono (by decide)) (by exact (a_cons (v_var 1) (a_cons (v_of (e_op op_addA r_add (o_of (e_op op_mulA r_mul (o_of e_int) (o_var 3))) (o_of e_int))) a_nil))))))))
  (ss_cons (s_set 14 nd (by exact (e_tup (by exact (d_cons (e_fn D_law_less (hr.mono (by decide)) (by exact (a_cons (v_of (e_fn D_worst_ratio (hr.mono (by decide)) (by exact (a_cons (v_var 3) (a_cons (v_var 5) a_nil))))) (a_cons (v_of (e_fn D_worst_ratio (hr.mono (by decide)) (by exact (a_cons (v_var 3) (a_cons (v_var 13) a_nil))))) a_nil)))) (d_cons (e_fn D_law_ratio (hr.mono (by decide)) (by exact (a_cons (v_var 8) (a_cons (v_of (e_clB (call_min2 rfl) r_min2 T.g_min (by decide +kernel) (by exact (q_cons (o_var 3) (q_cons (o_var 8) q_nil))))) a_nil)))) d_nil))))))
  (ss_cons (s_if (by exact (t_not (t_tru (o_of (e_fn D_law_same (hr.mono (by decide)) (by exact (a_cons (v_of (e_tup (by exact (d_cons (e_fn D_beats (hr.mono (by decide)) (by exact (a_cons (v_var 3) (a_cons (v_var 5) (a_cons (v_var 13) a_nil))))) (d_cons (e_fn D_never_ratio (hr.mono (by decide)) (by exact (a_cons (v_var 3) (a_cons (v_var 8) a_nil)))) d_nil))))) (a_cons (v_var 14) a_nil)))))))) (ss_one (s_ret (by exact e_bl))) ss_nil)
  (ss_cons (s_set 16 nd (by exact (e_clT call_tuple_of r_tuple T.g_tuple PyProof.Rows.boot_tuple (by exact (q_cons (o_of (f_of (l_lc rfl nd (by exact (io_of (i_rng1 T.g_range (o_of (e_op op_addA r_add (o_of e_int) (o_of (e_fn D_law_draw (hr.mono (by decide)) (by exact (a_cons (v_var 1) (a_cons (v_of e_int) a_nil)))))))))) (blkOk_by (own := [("k", 15)]) (N := N_law) (sc := defScope s_law) (by decide +kernel)) (fun _ _ _ _ _ => (by exact (g_name 15 nd))) (fun _ _ _ _ _ => (by exact ts_nil)) (fun _ _ _ _ _ => (by exact (e_fn D_law_ratio (hr.mono (by decide)) (by exact (a_cons (v_of (e_fn D_law_draw (hr.mono (by decide)) (by exact (a_cons (v_var 1) (a_cons (v_of e_int) a_nil))))) (a_cons (v_of (e_op op_addA r_add (o_of e_int) (o_of (e_fn D_law_draw (hr.mono (by decide)) (by exact (a_cons (v_var 1) (a_cons (v_of e_int) a_nil))))))) a_nil))))))))) q_nil)))))
  (ss_cons (s_set 17 nd (by exact (e_tup (by exact (d_cons e_int (d_cons e_int d_nil))))))
  (ss_cons (s_for PassesOwn.never rfl (by exact (i_seq (e_var 16))) (by exact (g_name 18 nd)) (ss_one (s_set 17 nd (by exact (e_fn D_law_plus (hr.mono (by decide)) (by exact (a_cons (v_var 17) (a_cons (v_var 18) a_nil))))))))
  (ss_cons (s_if (by exact (t_cmp (op_eqD hr.units) r_eq (nomark _) (o_var 17) (o_of (e_tup (by exact (d_cons e_int (d_cons e_int d_nil))))))) (ss_one s_cont) ss_nil)
  (ss_cons (s_setO 19 nd (by exact (l_lst (by exact d_nil))))
  (ss_cons (s_for PassesOwn.never rfl (by exact (i_rng2 T.g_range (o_of e_int) (o_of (e_op op_addA r_add (o_of (e_clB call_len r_len T.g_len PySem.boot_len (by exact (q_cons (o_var 16) q_nil)))) (o_of e_int))))) (by exact (g_name 5 nd)) (ss_cons (s_set 20 nd (by exact (e_tup (by exact (d_cons e_int (d_cons e_int d_nil))))))
  (ss_cons (s_for PassesOwn.never rfl (by exact (i_rng1 T.g_range (o_of (e_clB call_len r_len T.g_len PySem.boot_len (by exact (q_cons (o_var 16) q_nil)))))) (by exact (g_name 15 nd)) (ss_one (s_set 20 nd (by exact (e_fn D_law_plus (hr.mono (by decide)) (by exact (a_cons (v_var 20) (a_cons (v_of (e_fn D_law_times (hr.mono (by decide)) (by exact (a_cons (v_of (e_ix (o_var 16) (o_var 15))) (a_cons (v_of (e_tup (by exact (d_cons (e_fn D_law_paid (hr.mono (by decide)) (by exact (a_cons (v_var 3) (a_cons (v_var 5) (a_cons (v_of (e_op op_addA r_add (o_var 15) (o_of e_int))) a_nil))))) (d_cons e_int d_nil))))) a_nil))))) a_nil))))))))
  (ss_cons (s_app 19 (pe_bm PySem.F.plainAttrs_list PySem.F.slot_list_append PySem.F.type_list_append mt_append (pv 19) (pa_cons (e_fn D_law_times (hr.mono (by decide)) (by exact (a_cons (v_var 20) (a_cons (v_of (e_tup (by exact (d_cons (e_ix (o_var 17) (o_of e_int)) (d_cons (e_ix (o_var 17) (o_of e_int)) d_nil))))) a_nil)))) pa_nil)))
  (ss_one (s_if (by exact (t_not (t_tru (o_of (e_fn D_law_same (hr.mono (by decide)) (by exact (a_cons (v_of (e_fn D_average_cost (hr.mono (by decide)) (by exact (a_cons (v_var 3) (a_cons (v_var 5) (a_cons (v_var 16) a_nil)))))) (a_cons (v_of (e_ix (o_var 19) (o_of (e_neg e_int)))) a_nil)))))))) (ss_one (s_ret (by exact e_bl))) ss_nil))))))
  (ss_cons (s_set 21 nd (by exact (e_ix (o_var 19) (o_of e_int))))
  (ss_fz 19 (ss_cons (s_for PassesOwn.never rfl (by exact (i_seq (e_var 19))) (by exact (g_name 10 nd)) (ss_one (s_set 21 nd (by exact (e_if (t_tru (o_of (e_fn D_law_less (hr.mono (by decide)) (by exact (a_cons (v_var 10) (a_cons (v_var 21) a_nil)))))) (e_var 10) (e_var 21))))))
  (ss_one (s_if (by exact (t_not (t_tru (o_of (e_fn D_law_same (hr.mono (by decide)) (by exact (a_cons (v_of (e_fn D_best_on_average (hr.mono (by decide)) (by exact (a_cons (v_var 3) (a_cons (v_var 16) a_nil))))) (a_cons (v_of (e_op op_addA r_add (o_of (e_index (pe_bm PySem.F.plainAttrs_list PySem.F.slot_list_index PySem.F.type_list_index (mt_indexD (u65 hr)) (o_var 19) (pa_cons (o_var 21) pa_nil)))) (o_of e_int))) a_nil)))))))) (ss_one (s_ret (by exact e_bl))) ss_nil)))))))))))))))))))))))))
  (ss_one (s_ret (by exact (e_fn D_law_same (hr.mono (by decide)) (by exact (a_cons (v_of (e_tup (by exact (d_cons (e_fn D_best_day (hr.mono (by decide)) (by exact (a_cons (v_of e_int) a_nil))) (d_cons (e_fn D_worst_ratio (hr.mono (by decide)) (by exact (a_cons (v_of e_int) (a_cons (v_of e_int) a_nil)))) d_nil))))) (a_cons (v_of (e_tup (by exact (d_cons e_int (d_cons (e_tup (by exact (d_cons e_int (d_cons e_int d_nil)))) d_nil))))) a_nil))))))))))
end Dn

set_option Elab.async false
set_option linter.all false
set_option autoImplicit false
set_option maxRecDepth 100000
set_option maxHeartbeats 1000000
/-! Reckoning with denotations, from the inside out (for simp only): each combinator applied, then a helper on what its parts gave. -/
namespace Dn
open PySem
abbrev OE := Option (PyData × Bx)
section
variable {da db : DE} {dv : DV} {ta tb : DT} {dl : DL} {ds : DA} {sl s2 : Sl} {B B1 B2 : Bx} {x y z : PyData} {xs ys : List PyData} {v : Sv} {vs : List Sv} {b c : Bool} {d1 d2 : DS}
theorem k_dC : dC x sl B = some (x, B) := id rfl
theorem k_var_ap {i : Nat} : dVar i sl B = (match sl[i]? with | some (some (.dat d)) => some (d, B) | _ => none) := id rfl
theorem k_varO_ap {i : Nat} : dVarO i sl B = (match sl[i]? with | some (some (.dat d)) => some (d, B) | some (some (.own xs)) => some (.list xs, B) | _ => none) := id rfl
theorem k_varV_ap {i : Nat} : dVarV i sl B = (match sl[i]? with | some (some (.own _)) => none | some (some s) => some (s, B) | _ => none) := id rfl
/-! operators -/
def kOp1 (f : PyData → PyData → Option PyData) (db : DE) (sl : Sl) : OE → OE
  | some (x, B) => (db sl B).bind fun q => (f x q.1).map fun z => (z, q.2)
  | none => none
def kOp2 (f : PyData → PyData → Option PyData) (x : PyData) : OE → OE
  | some (y, B) => (f x y).map fun z => (z, B)
  | none => none
def kFin (B : Bx) : Option PyData → OE
  | some z => some (z, B)
  | none => none
theorem k_op {f : PyData → PyData → Option PyData} : dOp f da db sl B = kOp1 f db sl (da sl B) := by
  cases hh : da sl B <;> simp [dOp, kOp1, hh]
theorem k_op1 {f : PyData → PyData → Option PyData} : kOp1 f db sl (some (x, B)) = kOp2 f x (db sl B) := by
  cases hh : db sl B <;> simp [kOp1, kOp2, hh]
theorem k_op2 {f : PyData → PyData → Option PyData} : kOp2 f x (some (y, B)) = kFin B (f x y) := by
  cases hh : f x y <;> simp [kOp2, kFin, hh]
theorem k_fin : kFin B (some z) = some (z, B) := id rfl
def kT1 (f : PyData → PyData → Option Bool) (db : DE) (sl : Sl) : OE → Option (Bool × Bx)
  | some (x, B) => (db sl B).bind fun q => (f x q.1).map fun z => (z, q.2)
  | none => none
def kT2 (f : PyData → PyData → Option Bool) (x : PyData) : OE → Option (Bool × Bx)
  | some (y, B) => (f x y).map fun z => (z, B)
  | none => none
def kTF (B : Bx) : Option Bool → Option (Bool × Bx)
  | some z => some (z, B)
  | none => none
theorem k_tst {f : PyData → PyData → Option Bool} : dTst f da db sl B = kT1 f db sl (da sl B) := by
  cases hh : da sl B <;> simp [dTst, kT1, hh]
theorem k_t1 {f : PyData → PyData → Option Bool} : kT1 f db sl (some (x, B)) = kT2 f x (db sl B) := by
  cases hh : db sl B <;> simp [kT1, kT2, hh]
theorem k_t2 {f : PyData → PyData → Option Bool} : kT2 f x (some (y, B)) = kTF B (f x y) := by
  cases hh : f x y <;> simp [kT2, kTF, hh]
theorem k_tF : kTF B (some b) = some (b, B) := id rfl
def kB : Option (Bool × Bx) → OE
  | some (b, B) => some (.bool b, B)
  | none => none
theorem k_opB {f : PyData → PyData → Option Bool} : dOpB f da db sl B = kB (kT1 f db sl (da sl B)) := by
  unfold dOpB kT1
  cases da sl B with
  | none => rfl
  | some p =>
    show (db sl p.2).bind _ = kB ((db sl p.2).bind _)
    cases db sl p.2 with
    | none => rfl
    | some q =>
      show (f p.1 q.1).map _ = kB ((f p.1 q.1).map _)
      cases f p.1 q.1 <;> rfl
theorem k_B : kB (some (b, B)) = some (.bool b, B) := id rfl
def kNeg : OE → OE
  | some (.int i, B) => some (.int (-i), B)
  | _ => none
theorem k_neg : dNeg da sl B = kNeg (da sl B) := by
  unfold dNeg kNeg
  cases da sl B with
  | none => rfl
  | some p => obtain ⟨x, B1⟩ := p; cases x <;> rfl
theorem k_neg1 {i : Int} : kNeg (some (.int i, B)) = some (.int (-i), B) := id rfl
/-! tests -/
def kAnd (u : DT) (sl : Sl) : Option (Bool × Bx) → Option (Bool × Bx)
  | some (true, B) => u sl B
  | some (false, B) => some (false, B)
  | none => none
def kOr (u : DT) (sl : Sl) : Option (Bool × Bx) → Option (Bool × Bx)
  | some (true, B) => some (true, B)
  | some (false, B) => u sl B
  | none => none
def kNot : Option (Bool × Bx) → Option (Bool × Bx)
  | some (b, B) => some (!b, B)
  | none => none
theorem k_andT : dAndT ta tb sl B = kAnd tb sl (ta sl B) := by
  unfold dAndT kAnd
  cases ta sl B with
  | none => rfl
  | some p => obtain ⟨x, B1⟩ := p; cases x <;> rfl
theorem k_orT : dOrT ta tb sl B = kOr tb sl (ta sl B) := by
  unfold dOrT kOr
  cases ta sl B with
  | none => rfl
  | some p => obtain ⟨x, B1⟩ := p; cases x <;> rfl
theorem k_notT : dNotT ta sl B = kNot (ta sl B) := by
  cases hh : ta sl B <;> simp [dNotT, kNot, hh]
theorem k_and1 : kAnd tb sl (some (true, B)) = tb sl B := id rfl
theorem k_and0 : kAnd tb sl (some (false, B)) = some (false, B) := id rfl
theorem k_or1 : kOr tb sl (some (true, B)) = some (true, B) := id rfl
theorem k_or0 : kOr tb sl (some (false, B)) = tb sl B := id rfl
theorem k_not1 : kNot (some (b, B)) = some (!b, B) := id rfl
def kTru : OE → Option (Bool × Bx)
  | some (x, B) => kTF B (truD x)
  | none => none
theorem k_tru : dTru da sl B = kTru (da sl B) := by
  unfold dTru kTru
  cases da sl B with
  | none => rfl
  | some p => show (truD p.1).map _ = kTF p.2 (truD p.1); cases truD p.1 <;> rfl
theorem k_tru1 : kTru (some (x, B)) = kTF B (truD x) := id rfl
def kAndV (db : DE) (sl : Sl) : OE → OE
  | some (.bool true, B) => db sl B
  | some (.bool false, B) => some (.bool false, B)
  | _ => none
def kOrV (db : DE) (sl : Sl) : OE → OE
  | some (.bool true, B) => some (.bool true, B)
  | some (.bool false, B) => db sl B
  | _ => none
def kNotV : OE → OE
  | some (.bool b, B) => some (.bool (!b), B)
  | _ => none
theorem k_andV : dAndV da db sl B = kAndV db sl (da sl B) := by
  unfold dAndV kAndV
  cases da sl B with
  | none => rfl
  | some p =>
    obtain ⟨x, B1⟩ := p
    cases x with
    | bool k => cases k <;> rfl
    | _ => rfl
theorem k_orV : dOrV da db sl B = kOrV db sl (da sl B) := by
  unfold dOrV kOrV
  cases da sl B with
  | none => rfl
  | some p =>
    obtain ⟨x, B1⟩ := p
    cases x with
    | bool k => cases k <;> rfl
    | _ => rfl
theorem k_notV : dNotV da sl B = kNotV (da sl B) := by
  unfold dNotV kNotV
  cases da sl B with
  | none => rfl
  | some p => obtain ⟨x, B1⟩ := p; cases x <;> rfl
theorem k_andV1 : kAndV db sl (some (.bool true, B)) = db sl B := id rfl
theorem k_andV0 : kAndV db sl (some (.bool false, B)) = some (.bool false, B) := id rfl
theorem k_orV1 : kOrV db sl (some (.bool true, B)) = some (.bool true, B) := id rfl
theorem k_orV0 : kOrV db sl (some (.bool false, B)) = db sl B := id rfl
theorem k_notV1 : kNotV (some (.bool b, B)) = some (.bool (!b), B) := id rfl
def kIf (da db : DE) (sl : Sl) : Option (Bool × Bx) → OE
  | some (true, B) => da sl B
  | some (false, B) => db sl B
  | none => none
theorem k_if : dIf ta da db sl B = kIf da db sl (ta sl B) := by
  unfold dIf kIf
  cases ta sl B with
  | none => rfl
  | some p => obtain ⟨x, B1⟩ := p; cases x <;> rfl
theorem k_if1 : kIf da db sl (some (true, B)) = da sl B := id rfl
theorem k_if0 : kIf da db sl (some (false, B)) = db sl B := id rfl
theorem k_ifD {p : Prop} [Decidable p] : kIf da db sl (some (decide p, B)) = if p then da sl B else db sl B := by
  by_cases h : p
  · rw [decide_eq_true h, if_pos h]; rfl
  · rw [decide_eq_false h, if_neg h]; rfl
/-! argument lists, displays -/
def kCons (dl : DL) (sl : Sl) : OE → Option (List PyData × Bx)
  | some (x, B) => (dl sl B).map fun q => (x :: q.1, q.2)
  | none => none
def kCons2 (x : PyData) : Option (List PyData × Bx) → Option (List PyData × Bx)
  | some (xs, B) => some (x :: xs, B)
  | none => none
theorem k_nil : dNil sl B = some ([], B) := id rfl
theorem k_cons : dCons da dl sl B = kCons dl sl (da sl B) := by
  cases hh : da sl B <;> simp [dCons, kCons, hh]
theorem k_cons1 : kCons dl sl (some (x, B)) = kCons2 x (dl sl B) := by
  cases hh : dl sl B <;> simp [kCons, kCons2, hh]
theorem k_cons2 : kCons2 x (some (xs, B)) = some (x :: xs, B) := id rfl
def kConsA (ds : DA) (sl : Sl) : Option (Sv × Bx) → Option (List Sv × Bx)
  | some (x, B) => (ds sl B).map fun q => (x :: q.1, q.2)
  | none => none
def kConsA2 (x : Sv) : Option (List Sv × Bx) → Option (List Sv × Bx)
  | some (xs, B) => some (x :: xs, B)
  | none => none
theorem k_nilA : dNilA sl B = some ([], B) := id rfl
theorem k_consA : dConsA dv ds sl B = kConsA ds sl (dv sl B) := by
  cases hh : dv sl B <;> simp [dConsA, kConsA, hh]
theorem k_consA1 : kConsA ds sl (some (v, B)) = kConsA2 v (ds sl B) := by
  cases hh : ds sl B <;> simp [kConsA, kConsA2, hh]
theorem k_consA2 : kConsA2 v (some (vs, B)) = some (v :: vs, B) := id rfl
def kV : OE → Option (Sv × Bx)
  | some (x, B) => some (.dat x, B)
  | none => none
theorem k_V : dV da sl B = kV (da sl B) := by
  cases hh : da sl B <;> simp [dV, kV, hh]
theorem k_V1 : kV (some (x, B)) = some (.dat x, B) := id rfl
def kF : Option (List PyData × Bx) → OE
  | some (xs, B) => some (.list xs, B)
  | none => none
theorem k_F : dF dl sl B = kF (dl sl B) := by
  cases hh : dl sl B <;> simp [dF, kF, hh]
theorem k_F1 : kF (some (xs, B)) = some (.list xs, B) := id rfl
def kTup : Option (List PyData × Bx) → OE
  | some (xs, B) => if xs.length ≤ sizeLine then some (.tuple xs, B) else none
  | none => none
theorem k_tup : dTup dl sl B = kTup (dl sl B) := by
  cases hh : dl sl B <;> simp [dTup, kTup, hh]
theorem k_tup1 (h : xs.length ≤ sizeLine) : kTup (some (xs, B)) = some (.tuple xs, B) := if_pos h
def kLst : Option (List PyData × Bx) → Option (List PyData × Bx)
  | some (xs, B) => if xs.length ≤ sizeLine then some (xs, B) else none
  | none => none
theorem k_lst : dLst dl sl B = kLst (dl sl B) := by
  cases hh : dl sl B <;> simp [dLst, kLst, hh]
theorem k_lst1 (h : xs.length ≤ sizeLine) : kLst (some (xs, B)) = some (xs, B) := if_pos h
/-! built-ins -/
def kCl (f : List PyData → Option PyData) : Option (List PyData × Bx) → OE
  | some (xs, B) => kFin B (f xs)
  | none => none
theorem k_cl {f : List PyData → Option PyData} : dCl f dl sl B = kCl f (dl sl B) := by
  unfold dCl kCl
  cases dl sl B with
  | none => rfl
  | some p => show (f p.1).map _ = kFin p.2 (f p.1); cases f p.1 <;> rfl
theorem k_cl1 {f : List PyData → Option PyData} : kCl f (some (xs, B)) = kFin B (f xs) := id rfl
def kFinL (B : Bx) : Option (List PyData) → Option (List PyData × Bx)
  | some z => some (z, B)
  | none => none
def kClL (f : List PyData → Option (List PyData)) : Option (List PyData × Bx) → Option (List PyData × Bx)
  | some (xs, B) => kFinL B (f xs)
  | none => none
theorem k_clL {f : List PyData → Option (List PyData)} : dClL f dl sl B = kClL f (dl sl B) := by
  unfold dClL kClL
  cases dl sl B with
  | none => rfl
  | some p => show (f p.1).map _ = kFinL p.2 (f p.1); cases f p.1 <;> rfl
theorem k_clL1 {f : List PyData → Option (List PyData)} : kClL f (some (xs, B)) = kFinL B (f xs) := id rfl
theorem k_finL : kFinL B (some xs) = some (xs, B) := id rfl
def kIsi (T : String) : OE → OE
  | some (x, B) => some (.bool (isTy T x), B)
  | none => none
theorem k_isi {T : String} : dIsi T da sl B = kIsi T (da sl B) := by
  cases hh : da sl B <;> simp [dIsi, kIsi, hh]
theorem k_isi1 {T : String} : kIsi T (some (x, B)) = some (.bool (isTy T x), B) := id rfl
def kDat : Option (Sv × Bx) → OE
  | some (.dat z, B) => some (z, B)
  | _ => none
def kFn (f : FD) : Option (List Sv × Bx) → OE
  | some (ss, B) => kDat (f ss B)
  | none => none
theorem k_fn {f : FD} : dFn f ds sl B = kFn f (ds sl B) := by
  unfold dFn kFn
  cases ds sl B with
  | none => rfl
  | some p =>
    show (f p.1 p.2).bind _ = kDat (f p.1 p.2)
    cases f p.1 p.2 with
    | none => rfl
    | some q => obtain ⟨v, B1⟩ := q; cases v <;> rfl
theorem k_fn1 {f : FD} : kFn f (some (vs, B)) = kDat (f vs B) := id rfl
theorem k_dat : kDat (some (.dat z, B)) = some (z, B) := id rfl
def kFnV (f : FD) : Option (List Sv × Bx) → Option (Sv × Bx)
  | some (ss, B) => f ss B
  | none => none
theorem k_fnV {f : FD} : dFnV f ds sl B = kFnV f (ds sl B) := by
  cases hh : ds sl B <;> simp [dFnV, kFnV, hh]
theorem k_fnV1 {f : FD} : kFnV f (some (vs, B)) = f vs B := id rfl
def kSeqI : OE → Option (List PyData × Bx)
  | some (.list xs, B) => some (xs, B)
  | some (.tuple xs, B) => some (xs, B)
  | _ => none
theorem k_seqI : dSeq' da sl B = kSeqI (da sl B) := by
  unfold dSeq' kSeqI
  cases da sl B with
  | none => rfl
  | some p => obtain ⟨v, B1⟩ := p; cases v <;> rfl
theorem k_seqI1 : kSeqI (some (.list xs, B)) = some (xs, B) := id rfl
theorem k_seqI2 : kSeqI (some (.tuple xs, B)) = some (xs, B) := id rfl
def kRng1 : OE → Option (List PyData × Bx)
  | some (.int j, B) => if -(2 ^ 62) ≤ j ∧ j < 2 ^ 62 then some (rngD 0 j.toNat, B) else none
  | _ => none
theorem k_rng1 : dRng1 da sl B = kRng1 (da sl B) := by
  unfold dRng1 kRng1
  cases da sl B with
  | none => rfl
  | some p => obtain ⟨v, B1⟩ := p; cases v <;> rfl
theorem k_rng1' {j : Int} (h : -(2 ^ 62) ≤ j ∧ j < 2 ^ 62) : kRng1 (some (.int j, B)) = some (rngD 0 j.toNat, B) := if_pos h
def kRng2 (db : DE) (sl : Sl) : OE → Option (List PyData × Bx)
  | some (x, B) => (db sl B).bind fun q => match x, q.1 with
    | .int i, .int j => if -(2 ^ 62) ≤ i ∧ i < 2 ^ 62 ∧ -(2 ^ 62) ≤ j ∧ j < 2 ^ 62 then some (rngD i (j - i).toNat, q.2) else none
    | _, _ => none
  | none => none
def kRng2' (i : Int) : OE → Option (List PyData × Bx)
  | some (.int j, B) => if -(2 ^ 62) ≤ i ∧ i < 2 ^ 62 ∧ -(2 ^ 62) ≤ j ∧ j < 2 ^ 62 then some (rngD i (j - i).toNat, B) else none
  | _ => none
theorem k_rng2 : dRng2 da db sl B = kRng2 db sl (da sl B) := by
  unfold dRng2
  cases da sl B <;> rfl
theorem k_rng2a {i : Int} : kRng2 db sl (some (.int i, B)) = kRng2' i (db sl B) := by
  cases hh : db sl B with
  | none => simp [kRng2, kRng2', hh]
  | some p => obtain ⟨v, B1⟩ := p; cases v <;> simp [kRng2, kRng2', hh]
theorem k_rng2b {i j : Int} (h : -(2 ^ 62) ≤ i ∧ i < 2 ^ 62 ∧ -(2 ^ 62) ≤ j ∧ j < 2 ^ 62) : kRng2' i (some (.int j, B)) = some (rngD i (j - i).toNat, B) := if_pos h
def kEnum : Option (List PyData × Bx) → Option (List PyData × Bx)
  | some (xs, B) => some (enumD 0 xs, B)
  | none => none
theorem k_enum : dEnum da sl B = kEnum (dSeq' da sl B) := by
  cases hh : dSeq' da sl B <;> simp [dEnum, kEnum, hh]
theorem k_enum1 : kEnum (some (xs, B)) = some (enumD 0 xs, B) := id rfl
def kZip (db : DE) (sl : Sl) : Option (List PyData × Bx) → Option (List PyData × Bx)
  | some (xs, B) => (dSeq' db sl B).map fun q => (zipD xs q.1, q.2)
  | none => none
def kZip2 (xs : List PyData) : Option (List PyData × Bx) → Option (List PyData × Bx)
  | some (ys, B) => some (zipD xs ys, B)
  | none => none
theorem k_zip : dZip da db sl B = kZip db sl (dSeq' da sl B) := by
  cases hh : dSeq' da sl B <;> simp [dZip, kZip, hh]
theorem k_zip1 : kZip db sl (some (xs, B)) = kZip2 xs (dSeq' db sl B) := by
  cases hh : dSeq' db sl B <;> simp [kZip, kZip2, hh]
theorem k_zip2 : kZip2 xs (some (ys, B)) = some (zipD xs ys, B) := id rfl
/-! slices -/
def kP : OE → Option (Option Int × Bx)
  | some (.int i, B) => some (some i, B)
  | _ => none
theorem k_P : dPart da sl B = kP (da sl B) := by
  unfold dPart kP
  cases da sl B with
  | none => rfl
  | some p => obtain ⟨v, B1⟩ := p; cases v <;> rfl
theorem k_P1 {i : Int} : kP (some (.int i, B)) = some (some i, B) := id rfl
theorem k_noP : dNoP sl B = some (none, B) := id rfl
def kSl1 (f : PyData → Option Int → Option Int → Option PyData) (l h : DP) (sl : Sl) : OE → OE
  | some (x, B) => (l sl B).bind fun q => (h sl q.2).bind fun r => (f x q.1 r.1).map fun z => (z, r.2)
  | none => none
def kSl2 (f : PyData → Option Int → Option Int → Option PyData) (x : PyData) (h : DP) (sl : Sl) : Option (Option Int × Bx) → OE
  | some (a, B) => (h sl B).bind fun r => (f x a r.1).map fun z => (z, r.2)
  | none => none
def kSl3 (f : PyData → Option Int → Option Int → Option PyData) (x : PyData) (a : Option Int) : Option (Option Int × Bx) → OE
  | some (c, B) => kFin B (f x a c)
  | none => none
theorem k_sl {f : PyData → Option Int → Option Int → Option PyData} {l h : DP} : dSl f da l h sl B = kSl1 f l h sl (da sl B) := by
  cases hh : da sl B <;> simp [dSl, kSl1, hh]
theorem k_sl1 {f : PyData → Option Int → Option Int → Option PyData} {l h : DP} : kSl1 f l h sl (some (x, B)) = kSl2 f x h sl (l sl B) := by
  cases hh : l sl B <;> simp [kSl1, kSl2, hh]
theorem k_sl2 {f : PyData → Option Int → Option Int → Option PyData} {h : DP} {a : Option Int} : kSl2 f x h sl (some (a, B)) = kSl3 f x a (h sl B) := by
  cases hh : h sl B with
  | none => simp [kSl2, kSl3, hh]
  | some p =>
    simp only [kSl2, kSl3, hh, Option.bind_some]
    cases f x a p.1 <;> rfl
theorem k_sl3 {f : PyData → Option Int → Option Int → Option PyData} {a c : Option Int} : kSl3 f x a (some (c, B)) = kFin B (f x a c) := id rfl
/-! comprehensions -/
def kCmp (tg : DG) (t : DT) (e : DE) (sw : Sl) : Option (List PyData × Bx) → Option (List PyData × Bx)
  | some (xs, B) => if xs.length < sizeLine then cmpGo tg t e sw xs B else none
  | none => none
theorem k_cmp {it : DL} {tg : DG} {t : DT} {e : DE} {ws : List Nat} : dCmp it tg t e ws sl B = kCmp tg t e (wipeD sl ws) (it sl B) := by
  cases hh : it sl B <;> simp [dCmp, kCmp, hh]
theorem k_cmp1 {tg : DG} {t : DT} {e : DE} {sw : Sl} (h : xs.length < sizeLine) : kCmp tg t e sw (some (xs, B)) = cmpGo tg t e sw xs B := if_pos h
theorem k_yes : dYes sl B = some (true, B) := id rfl
/-! statements -/
def kSeq (d2 : DS) : Option Out → Option Out
  | some (.nx s B) => d2 s B
  | o => o
theorem k_seq : dSeq d1 d2 sl B = kSeq d2 (d1 sl B) := by
  unfold dSeq kSeq
  cases d1 sl B with
  | none => rfl
  | some o => cases o <;> rfl
theorem k_seq1 : kSeq d2 (some (.nx sl B)) = d2 sl B := id rfl
theorem k_seq2 : kSeq d2 (some (.rt v B)) = some (.rt v B) := id rfl
theorem k_seq3 : kSeq d2 (some (.bk sl B)) = some (.bk sl B) := id rfl
theorem k_seq4 : kSeq d2 (some (.ct sl B)) = some (.ct sl B) := id rfl
theorem k_next : dNext sl B = some (.nx sl B) := id rfl
theorem k_brk : dBreak sl B = some (.bk sl B) := id rfl
theorem k_cont : dCont sl B = some (.ct sl B) := id rfl
theorem k_retN : dRetN sl B = some (.rt (.dat .none) B) := id rfl
def kAsg (i : Nat) (sl : Sl) : OE → Option Out
  | some (x, B) => some (.nx (sl.set i (some (.dat x))) B)
  | none => none
theorem k_asg {i : Nat} : dAsg i da sl B = kAsg i sl (da sl B) := by
  cases hh : da sl B <;> simp [dAsg, kAsg, hh]
theorem k_asg1 {i : Nat} : kAsg i sl (some (x, B)) = some (.nx (sl.set i (some (.dat x))) B) := id rfl
def kAsgV (i : Nat) (sl : Sl) : Option (Sv × Bx) → Option Out
  | some (.own _, _) => none
  | some (x, B) => some (.nx (sl.set i (some x)) B)
  | none => none
theorem k_asgV {i : Nat} : dAsgV i dv sl B = kAsgV i sl (dv sl B) := by
  unfold dAsgV kAsgV
  cases dv sl B with
  | none => rfl
  | some p => obtain ⟨x, B1⟩ := p; cases x <;> rfl
theorem k_asgV1 {i : Nat} : kAsgV i sl (some (.dat x, B)) = some (.nx (sl.set i (some (.dat x))) B) := id rfl
theorem k_asgV2 {i : Nat} : kAsgV i sl (some (.box, B)) = some (.nx (sl.set i (some .box)) B) := id rfl
theorem k_asgV3 {i : Nat} : kAsgV i sl (some (.cells, B)) = some (.nx (sl.set i (some .cells)) B) := id rfl
def kAsgO (i : Nat) (sl : Sl) : Option (List PyData × Bx) → Option Out
  | some (x, B) => some (.nx (sl.set i (some (.own x))) B)
  | none => none
theorem k_asgO {i : Nat} : dAsgO i dl sl B = kAsgO i sl (dl sl B) := by
  cases hh : dl sl B <;> simp [dAsgO, kAsgO, hh]
theorem k_asgO1 {i : Nat} : kAsgO i sl (some (xs, B)) = some (.nx (sl.set i (some (.own xs))) B) := id rfl
def kNx (B : Bx) : Option Sl → Option Out
  | some s => some (.nx s B)
  | none => none
def kAsgG (tg : DG) (sl : Sl) : OE → Option Out
  | some (x, B) => kNx B (tg x sl)
  | none => none
theorem k_asgG {tg : DG} : dAsgG tg da sl B = kAsgG tg sl (da sl B) := by
  unfold dAsgG kAsgG
  cases da sl B with
  | none => rfl
  | some p => show (tg p.1 sl).map _ = kNx p.2 (tg p.1 sl); cases tg p.1 sl <;> rfl
theorem k_asgG1 {tg : DG} : kAsgG tg sl (some (x, B)) = kNx B (tg x sl) := id rfl
theorem k_nx : kNx B (some sl) = some (.nx sl B) := id rfl
theorem k_gN {i : Nat} : gN i x sl = some (sl.set i (some (.dat x))) := id rfl
def kG (ds : DGs) (xs : List PyData) : Option Sl → Option Sl
  | some s => ds xs s
  | none => none
theorem k_gT {ds : DGs} : gT ds (.tuple xs) sl = ds xs sl := id rfl
theorem k_gC {d : DG} {ds : DGs} : gCons' d ds (x :: xs) sl = kG ds xs (d x sl) := by
  unfold kG
  show (d x sl).bind _ = _
  cases d x sl <;> rfl
theorem k_g1 {ds : DGs} : kG ds xs (some sl) = ds xs sl := id rfl
theorem k_g0 : gNil' [] sl = some sl := id rfl
def kPar (i j : Nat) (db : DE) (sl : Sl) : OE → Option Out
  | some (x, B) => (db sl B).map fun q => .nx ((sl.set i (some (.dat x))).set j (some (.dat q.1))) q.2
  | none => none
def kPar2 (i j : Nat) (sl : Sl) (x : PyData) : OE → Option Out
  | some (y, B) => some (.nx ((sl.set i (some (.dat x))).set j (some (.dat y))) B)
  | none => none
theorem k_par {i j : Nat} : dPar i j da db sl B = kPar i j db sl (da sl B) := by
  cases hh : da sl B <;> simp [dPar, kPar, hh]
theorem k_par1 {i j : Nat} : kPar i j db sl (some (x, B)) = kPar2 i j sl x (db sl B) := by
  cases hh : db sl B <;> simp [kPar, kPar2, hh]
theorem k_par2 {i j : Nat} : kPar2 i j sl x (some (y, B)) = some (.nx ((sl.set i (some (.dat x))).set j (some (.dat y))) B) := id rfl
def kDrop (sl : Sl) : OE → Option Out
  | some (_, B) => some (.nx sl B)
  | none => none
theorem k_drop : dDrop da sl B = kDrop sl (da sl B) := by
  cases hh : da sl B <;> simp [dDrop, kDrop, hh]
theorem k_drop1 : kDrop sl (some (x, B)) = some (.nx sl B) := id rfl
def kRet : OE → Option Out
  | some (x, B) => some (.rt (.dat x) B)
  | none => none
theorem k_ret : dRet da sl B = kRet (da sl B) := by
  cases hh : da sl B <;> simp [dRet, kRet, hh]
theorem k_ret1 : kRet (some (x, B)) = some (.rt (.dat x) B) := id rfl
def kRetV : Option (Sv × Bx) → Option Out
  | some (x, B) => some (.rt x B)
  | none => none
theorem k_retV : dRetV dv sl B = kRetV (dv sl B) := by
  cases hh : dv sl B <;> simp [dRetV, kRetV, hh]
theorem k_retV1 : kRetV (some (v, B)) = some (.rt v B) := id rfl
def kIfS (d1 d2 : DS) (sl : Sl) : Option (Bool × Bx) → Option Out
  | some (true, B) => d1 sl B
  | some (false, B) => d2 sl B
  | none => none
theorem k_ifS : dIfS ta d1 d2 sl B = kIfS d1 d2 sl (ta sl B) := by
  unfold dIfS kIfS
  cases ta sl B with
  | none => rfl
  | some p => obtain ⟨x, B1⟩ := p; cases x <;> rfl
theorem k_ifS1 : kIfS d1 d2 sl (some (true, B)) = d1 sl B := id rfl
theorem k_ifS0 : kIfS d1 d2 sl (some (false, B)) = d2 sl B := id rfl
theorem k_ifSD {p : Prop} [Decidable p] : kIfS d1 d2 sl (some (decide p, B)) = if p then d1 sl B else d2 sl B := by
  by_cases h : p
  · rw [decide_eq_true h, if_pos h]; rfl
  · rw [decide_eq_false h, if_neg h]; rfl
theorem k_fz_ap {i : Nat} : dFz i d1 sl B = (match sl[i]? with | some (some (.own xs)) => d1 (sl.set i (some (.dat (.list xs)))) B | _ => d1 sl B) := id rfl
def kApp (j : Nat) (sl : Sl) : OE → Option Out
  | some (x, B) => match sl[j]? with
    | some (some (.own xs)) => if xs.length < sizeLine then some (.nx (sl.set j (some (.own (xs ++ [x])))) B) else none
    | _ => none
  | none => none
theorem k_app {j : Nat} : dApp j da sl B = kApp j sl (da sl B) := by
  unfold dApp kApp
  cases da sl B <;> rfl
theorem k_app1 {j : Nat} : kApp j sl (some (x, B)) = (match sl[j]? with | some (some (.own xs)) => if xs.length < sizeLine then some (.nx (sl.set j (some (.own (xs ++ [x])))) B) else none | _ => none) := id rfl
def kFor (tg : DG) (body : DS) (sl : Sl) : Option (List PyData × Bx) → Option Out
  | some (xs, B) => forGo tg body xs sl B
  | none => none
theorem k_for {it : DL} {tg : DG} {body : DS} : dFor it tg body sl B = kFor tg body sl (it sl B) := by
  cases hh : it sl B <;> simp [dFor, kFor, hh]
theorem k_for1 {tg : DG} {body : DS} : kFor tg body sl (some (xs, B)) = forGo tg body xs sl B := id rfl
def kAug (f : Int → Int → Int) (i : Nat) (sl : Sl) (a : Int) : OE → Option Out
  | some (.int c, B) => some (.nx (sl.set i (some (.dat (.int (f a c))))) B)
  | _ => none
theorem k_aug {f : Int → Int → Int} {i : Nat} {a : Int} (h : sl[i]? = some (some (.dat (.int a)))) : dAug f i da sl B = kAug f i sl a (da sl B) := by
  unfold dAug
  rw [h]
  show (da sl B).bind _ = _
  cases hh : da sl B with
  | none => rfl
  | some p => obtain ⟨x, B1⟩ := p; cases x <;> rfl
theorem k_aug1 {f : Int → Int → Int} {i : Nat} {a c : Int} : kAug f i sl a (some (.int c, B)) = some (.nx (sl.set i (some (.dat (.int (f a c))))) B) := id rfl
def kFun : Option Out → Option (Sv × Bx)
  | some (.rt r B) => some (r, B)
  | some (.nx _ B) => some (.dat .none, B)
  | _ => none
theorem k_fun {n m : Nat} {body : DS} (h : (vs.length = n ∧ vs.all nown = true) = True) : dFun n m body vs B = kFun (body (vs.map some ++ List.replicate m none) B) := by
  unfold dFun kFun
  rw [if_pos (of_eq_true h)]
  cases body (vs.map some ++ List.replicate m none) B with
  | none => rfl
  | some o => cases o <;> rfl
theorem k_fun1 : kFun (some (.rt v B)) = some (v, B) := id rfl
theorem k_fun2 : kFun (some (.nx sl B)) = some (.dat .none, B) := id rfl
/-! index -/
def kIdx (db : DE) (sl : Sl) : OE → OE
  | some (.list xs, B) => (db sl B).bind fun q => (pyIndex xs q.1).map fun z => (z, q.2)
  | _ => none
def kIdx2 (xs : List PyData) : OE → OE
  | some (y, B) => kFin B (pyIndex xs y)
  | none => none
theorem k_idx : dIndex da db sl B = kIdx db sl (da sl B) := by
  unfold dIndex kIdx
  cases da sl B with
  | none => rfl
  | some p =>
    obtain ⟨x, B1⟩ := p
    cases x <;> (cases hh : db sl B1 <;> simp [hh])
theorem k_idx1 : kIdx db sl (some (.list xs, B)) = kIdx2 xs (db sl B) := by
  cases hh : db sl B with
  | none => simp [kIdx, kIdx2, hh]
  | some p =>
    simp only [kIdx, kIdx2, hh, Option.bind_some]
    cases pyIndex xs p.1 <;> rfl
theorem k_idx2 : kIdx2 xs (some (y, B)) = kFin B (pyIndex xs y) := id rfl
/-! the box -/
theorem k_bget_ap {i : Nat} {k : Int} : dBget i k sl B = (match sl[i]? with | some (some .box) => if 1 ≤ k then (B.regs[(k - 1).toNat]?).map fun n => (.int n, B) else none | _ => none) := id rfl
theorem k_bcells_ap {i : Nat} : dBcells i sl B = (match sl[i]? with | some (some .box) => some (.cells, B) | _ => none) := id rfl
def kLenC : Option (Sv × Bx) → OE
  | some (.cells, B) => some (.int (B.cells.length : Int), B)
  | _ => none
theorem k_lenC : dLenC dv sl B = kLenC (dv sl B) := by
  unfold dLenC kLenC
  cases dv sl B with
  | none => rfl
  | some p => obtain ⟨x, B1⟩ := p; cases x <;> rfl
theorem k_lenC1 : kLenC (some (.cells, B)) = some (.int (B.cells.length : Int), B) := id rfl
def kPopC : Option (Sv × Bx) → OE
  | some (.cells, B) => match B.cells with
    | c :: r => some (.int c, { B with cells := r })
    | [] => none
  | _ => none
theorem k_popC : dPopC dv sl B = kPopC (dv sl B) := by
  unfold dPopC kPopC
  cases dv sl B with
  | none => rfl
  | some p => obtain ⟨x, B1⟩ := p; cases x <;> rfl
theorem k_popC1 : kPopC (some (.cells, B)) = (match B.cells with | c :: r => some (.int c, { B with cells := r }) | [] => none) := id rfl
def kBset (i : Nat) (k : Int) (sl : Sl) : OE → Option Out
  | some (.int n, B) => match sl[i]? with
    | some (some .box) => if 1 ≤ k ∧ (k - 1).toNat < B.regs.length then some (.nx sl { B with regs := B.regs.set (k - 1).toNat n }) else none
    | _ => none
  | _ => none
theorem k_bset {i : Nat} {k : Int} : dBset i k da sl B = kBset i k sl (da sl B) := by
  unfold dBset kBset
  cases da sl B with
  | none => rfl
  | some p =>
    obtain ⟨x, B1⟩ := p
    cases x with
    | int n =>
      show (match PyData.int n, sl[i]? with | .int n, some (some .box) => _ | _, _ => none) = (match sl[i]? with | some (some .box) => _ | _ => none)
      cases sl[i]? with
      | none => rfl
      | some w =>
        cases w with
        | none => rfl
        | some u => cases u <;> rfl
    | _ => rfl
theorem k_bset1 {i : Nat} {k n : Int} : kBset i k sl (some (.int n, B)) = (match sl[i]? with | some (some .box) => if 1 ≤ k ∧ (k - 1).toNat < B.regs.length then some (.nx sl { B with regs := B.regs.set (k - 1).toNat n }) else none | _ => none) := id rfl
def kGetC (d : DE) (sl : Sl) : Option (Sv × Bx) → OE
  | some (.cells, B) => (d sl B).bind fun q => match q.1 with
    | .int k => (L2.atI q.2.cells k).map fun n => (.int n, q.2)
    | _ => none
  | _ => none
def kGetC2 : OE → OE
  | some (.int k, B) => (L2.atI B.cells k).map fun n => (.int n, B)
  | _ => none
theorem k_getC : dGetC dv da sl B = kGetC da sl (dv sl B) := by
  unfold dGetC kGetC
  cases dv sl B with
  | none => rfl
  | some p => obtain ⟨x, B1⟩ := p; cases x <;> rfl
theorem k_getC1 : kGetC da sl (some (.cells, B)) = kGetC2 (da sl B) := by
  cases hh : da sl B with
  | none => simp [kGetC, kGetC2, hh]
  | some p => obtain ⟨x, B1⟩ := p; cases x <;> simp [kGetC, kGetC2, hh]
theorem k_getC2 {k : Int} : kGetC2 (some (.int k, B)) = (L2.atI B.cells k).map fun n => (.int n, B) := id rfl
end
/-! equality of plain data -/
theorem sh_int {i : Int} : SeqAt.shaped (.int i) = true := rfl
theorem sh_bool {i : Bool} : SeqAt.shaped (.bool i) = true := rfl
theorem sh_none : SeqAt.shaped .none = true := rfl
theorem eqv_ii {i j : Int} : PyData.eqv (.int i) (.int j) = (i == j) := by unfold PyData.eqv; rfl
theorem eqv_bb {i j : Bool} : PyData.eqv (.bool i) (.bool j) = (i == j) := by unfold PyData.eqv; rfl
theorem eqI {i j : Int} : pyEq (.int i) (.int j) = some (decide (i = j)) := by
  unfold pyEq
  rw [if_pos ⟨sh_int, sh_int⟩, eqv_ii]
  congr 1
theorem neI {i j : Int} : pyNe (.int i) (.int j) = some (decide (i ≠ j)) := by
  unfold pyNe
  rw [if_pos ⟨sh_int, sh_int⟩, eqv_ii]
  congr 1
  by_cases h : i = j
  · subst h; simp
  · simp [h]
theorem addI {i j : Int} : pyAdd (.int i) (.int j) = some (.int (i + j)) := id rfl
theorem subI {i j : Int} : pySub (.int i) (.int j) = some (.int (i - j)) := id rfl
theorem ltI {i j : Int} : pyLt (.int i) (.int j) = some (decide (i < j)) := id rfl
theorem leI {i j : Int} : pyLe (.int i) (.int j) = some (decide (i ≤ j)) := id rfl
theorem gtI {i j : Int} : pyGt (.int i) (.int j) = some (decide (j < i)) := id rfl
theorem geI {i j : Int} : pyGe (.int i) (.int j) = some (decide (j ≤ i)) := id rfl
theorem modI {i j : Int} (h : 0 < j) : pyMod (.int i) (.int j) = some (.int (i % j)) := if_pos h
theorem divI {i j : Int} (h : 0 < j) (h2 : j.natAbs.log2 < 9000) : pyDiv (.int i) (.int j) = some (.int (i / j)) := if_pos ⟨h, h2⟩
theorem mulI {i j : Int} (h : mulOk i j = true) : pyMul (.int i) (.int j) = some (.int (i * j)) := if_pos h
theorem log2_small {n k : Nat} (h : n < 2 ^ k) (hk : 0 < k) : n.log2 < k := by
  by_cases z : n = 0
  · subst z; simpa using hk
  · exact (Nat.log2_lt z).mpr h
theorem mulOk_l {i j : Int} (h1 : -(2 ^ 64) < i) (h2 : i < 2 ^ 64) : mulOk i j = true := by
  unfold mulOk
  rw [decide_eq_true (.inl ⟨h1, h2⟩)]
  rfl
theorem mulOk_r {i j : Int} (h1 : -(2 ^ 64) < j) (h2 : j < 2 ^ 64) : mulOk i j = true := by
  unfold mulOk
  rw [decide_eq_true (.inr ⟨h1, h2⟩)]
  rfl
theorem mulOk_w {i j : Int} {a b : Nat} (h1 : i.natAbs < 2 ^ a) (h2 : j.natAbs < 2 ^ b) (ha : 0 < a) (hb : 0 < b) (h : a + b ≤ 1000000) : mulOk i j = true := by
  unfold mulOk
  have q1 := log2_small h1 ha
  have q2 := log2_small h2 hb
  have : i.natAbs.log2 + j.natAbs.log2 < 1000000 := by omega
  rw [decide_eq_true this, Bool.or_true]
/-! loops -/
theorem forGo_nil {tg : DG} {body : DS} {sl : Sl} {B : Bx} : forGo tg body [] sl B = some (.nx sl B) := rfl
theorem forGo_step {tg : DG} {body : DS} {x : PyData} {xs : List PyData} {sl s1 s2 : Sl} {B B2 : Bx} (h1 : tg x sl = some s1) (h2 : body s1 B = some (.nx s2 B2)) : forGo tg body (x :: xs) sl B = forGo tg body xs s2 B2 := by
  show (tg x sl).bind _ = _
  rw [h1]
  show (body s1 B).bind _ = _
  rw [h2]
  rfl
theorem forGo_stepC {tg : DG} {body : DS} {x : PyData} {xs : List PyData} {sl s1 s2 : Sl} {B B2 : Bx} (h1 : tg x sl = some s1) (h2 : body s1 B = some (.ct s2 B2)) : forGo tg body (x :: xs) sl B = forGo tg body xs s2 B2 := by
  show (tg x sl).bind _ = _
  rw [h1]
  show (body s1 B).bind _ = _
  rw [h2]
  rfl
theorem forGo_brk {tg : DG} {body : DS} {x : PyData} {xs : List PyData} {sl s1 s2 : Sl} {B B2 : Bx} (h1 : tg x sl = some s1) (h2 : body s1 B = some (.bk s2 B2)) : forGo tg body (x :: xs) sl B = some (.nx s2 B2) := by
  show (tg x sl).bind _ = _
  rw [h1]
  show (body s1 B).bind _ = _
  rw [h2]
  rfl
theorem forGo_ret {tg : DG} {body : DS} {x : PyData} {xs : List PyData} {sl s1 : Sl} {r : Sv} {B B2 : Bx} (h1 : tg x sl = some s1) (h2 : body s1 B = some (.rt r B2)) : forGo tg body (x :: xs) sl B = some (.rt r B2) := by
  show (tg x sl).bind _ = _
  rw [h1]
  show (body s1 B).bind _ = _
  rw [h2]
  rfl
/-- a loop by an invariant over (turn, slots, box) -/
theorem forGo_inv {tg : DG} {body : DS} (xs : List PyData) (Pv : Nat → Sl → Bx → Prop) (step : ∀ i x sl B, xs[i]? = some x → Pv i sl B → ∃ s1 s2 B2, tg x sl = some s1 ∧ (body s1 B = some (.nx s2 B2) ∨ body s1 B = some (.ct s2 B2)) ∧ Pv (i + 1) s2 B2) :
    ∀ (k : Nat) (sl : Sl) (B : Bx), k ≤ xs.length → Pv k sl B → ∃ s2 B2, forGo tg body (xs.drop k) sl B = some (.nx s2 B2) ∧ Pv xs.length s2 B2 := by
  intro k
  generalize hm : xs.length - k = m
  induction m generalizing k with
  | zero =>
    intro sl B hk h
    have : k = xs.length := by omega
    subst this
    rw [List.drop_length]
    exact ⟨sl, B, rfl, h⟩
  | succ m ih =>
    intro sl B hk h
    have hlt : k < xs.length := by omega
    rw [List.drop_eq_getElem_cons hlt]
    obtain ⟨s1, s2, B2, h1, h2, h3⟩ := step k _ sl B (List.getElem?_eq_getElem hlt) h
    obtain ⟨s3, B3, h4, h5⟩ := ih (k + 1) (by omega) s2 B2 hlt h3
    refine ⟨s3, B3, ?_, h5⟩
    rcases h2 with h2 | h2
    · rw [forGo_step h1 h2]; exact h4
    · rw [forGo_stepC h1 h2]; exact h4
theorem cmpGo_nil {tg : DG} {t : DT} {e : DE} {sw : Sl} {B : Bx} : cmpGo tg t e sw [] B = some ([], B) := rfl
/-- a comprehension without a state -/
theorem cmpGo_pure {tg : DG} {t : DT} {e : DE} {sw : Sl} {B : Bx} (f : PyData → Bool) (g : PyData → PyData) : ∀ (xs : List PyData), (∀ x ∈ xs, ∃ s2, tg x sw = some s2 ∧ t s2 B = some (f x, B) ∧ (f x = true → e s2 B = some (g x, B))) → cmpGo tg t e sw xs B = some ((xs.filter f).map g, B)
  | [], _ => rfl
  | x :: xs, h => by
    obtain ⟨s2, h1, h2, h3⟩ := h x List.mem_cons_self
    have ih := cmpGo_pure f g xs fun y hy => h y (List.mem_cons_of_mem _ hy)
    unfold cmpGo
    rw [h1]
    show (t s2 B).bind _ = _
    rw [h2]
    show (if f x = true then _ else _) = _
    cases hf : f x with
    | true =>
      rw [if_pos rfl]
      show (e s2 B).bind _ = _
      rw [h3 hf]
      show (cmpGo tg t e sw xs B).map _ = _
      rw [ih, List.filter_cons_of_pos hf]
      rfl
    | false =>
      rw [if_neg Bool.false_ne_true, List.filter_cons_of_neg (by rw [hf]; exact Bool.false_ne_true)]
      exact ih
theorem cmpGo_map {tg : DG} {e : DE} {sw : Sl} {B : Bx} (g : PyData → PyData) (xs : List PyData) (h : ∀ x ∈ xs, ∃ s2, tg x sw = some s2 ∧ e s2 B = some (g x, B)) : cmpGo tg dYes e sw xs B = some (xs.map g, B) := by
  have := cmpGo_pure (tg := tg) (t := dYes) (e := e) (sw := sw) (B := B) (fun _ => true) g xs fun x hx => by
    obtain ⟨s2, h1, h2⟩ := h x hx
    exact ⟨s2, h1, rfl, fun _ => h2⟩
  rw [this, List.filter_eq_self.mpr (fun _ _ => rfl)]
theorem rngD_get {lo : Int} {n i : Nat} {x : PyData} (h : (rngD lo n)[i]? = some x) : i < n ∧ x = .int (lo + (i : Int)) := by
  unfold rngD at h
  rw [List.getElem?_map] at h
  obtain ⟨j, e1, e2⟩ := mpd h
  have hi : i < n := by
    rcases Nat.lt_or_ge i n with z | z
    · exact z
    · rw [List.getElem?_eq_none (by simpa using z)] at e1; cases e1
  rw [List.getElem?_range hi] at e1
  cases e1
  exact ⟨hi, e2.symm⟩
theorem rngD_length (lo : Int) (n : Nat) : (rngD lo n).length = n := by simp [rngD]
theorem rngD_mem {lo : Int} {n : Nat} {x : PyData} (h : x ∈ rngD lo n) : ∃ i, i < n ∧ x = .int (lo + (i : Int)) := by
  obtain ⟨i, hi⟩ := List.getElem?_of_mem h
  exact ⟨i, rngD_get hi⟩
theorem sz {n : Nat} (h : n ≤ 1000000) : n ≤ sizeLine := Nat.le_trans h (by decide)
theorem szlt {n : Nat} (h : n < 1000000) : n < sizeLine := Nat.lt_of_lt_of_le h (by decide)
theorem k_at0 {α : Type} {x : α} {xs : List α} : L2.atI (x :: xs) 0 = some x := L2.atI_nat (j := 0) rfl
theorem k_at1 {α : Type} {x y : α} {xs : List α} : L2.atI (x :: y :: xs) 1 = some y := L2.atI_nat (j := 1) rfl
theorem k_at2 {α : Type} {x y z : α} {xs : List α} : L2.atI (x :: y :: z :: xs) 2 = some z := L2.atI_nat (j := 2) rfl
theorem at_nat {α : Type} {xs : List α} {i : Nat} (h : i < xs.length) : L2.atI xs (i : Int) = some xs[i] := L2.atI_nat (List.getElem?_eq_getElem h)
theorem sz0 : 0 ≤ sizeLine := Nat.zero_le _
theorem sz1 : 1 ≤ sizeLine := sz (by decide)
theorem sz2 : 2 ≤ sizeLine := sz (by decide)
theorem sz3 : 3 ≤ sizeLine := sz (by decide)
theorem sz4 : 4 ≤ sizeLine := sz (by decide)
theorem sz5 : 5 ≤ sizeLine := sz (by decide)
theorem sz6 : 6 ≤ sizeLine := sz (by decide)
theorem rng_ok {n : Nat} (h : n < 1000000) : (-(2 ^ 62) ≤ (n : Int) ∧ (n : Int) < 2 ^ 62) = True := by
  have e : (2 : Int) ^ 62 = 4611686018427387904 := by decide
  rw [e]
  exact eq_true (by omega)
theorem rng_okI {i : Int} (h1 : -1000000 < i) (h : i < 1000000) : (-(2 ^ 62) ≤ i ∧ i < 2 ^ 62) = True := by
  have e : (2 : Int) ^ 62 = 4611686018427387904 := by decide
  rw [e]
  exact eq_true (by omega)
theorem rng_ok2 {i j : Int} (h1 : -1000000 < i) (h : i < 1000000) (h3 : -1000000 < j) (h4 : j < 1000000) : (-(2 ^ 62) ≤ i ∧ i < 2 ^ 62 ∧ -(2 ^ 62) ≤ j ∧ j < 2 ^ 62) = True := by
  have e : (2 : Int) ^ 62 = 4611686018427387904 := by decide
  rw [e]
  exact eq_true (by omega)
/-! the draw box of two numbers -/
section
variable {cs : List Int} {c x y n : Int} {on : Bool} {sl : Sl}
theorem k_bg1 : dBget 0 1 (some .box :: sl) ⟨cs, [x, y], on⟩ = some (.int x, ⟨cs, [x, y], on⟩) := id rfl
theorem k_bg2 : dBget 0 2 (some .box :: sl) ⟨cs, [x, y], on⟩ = some (.int y, ⟨cs, [x, y], on⟩) := id rfl
theorem k_bs1 : kBset 0 1 (some .box :: sl) (some (.int n, ⟨cs, [x, y], on⟩)) = some (.nx (some .box :: sl) ⟨cs, [n, y], on⟩) := id rfl
theorem k_bs2 : kBset 0 2 (some .box :: sl) (some (.int n, ⟨cs, [x, y], on⟩)) = some (.nx (some .box :: sl) ⟨cs, [x, n], on⟩) := id rfl
theorem k_bc : dBcells 0 (some .box :: sl) ⟨cs, [x, y], on⟩ = some (.cells, ⟨cs, [x, y], on⟩) := id rfl
theorem k_pop1 : kPopC (some (.cells, ⟨c :: cs, [x, y], on⟩)) = some (.int c, ⟨cs, [x, y], on⟩) := id rfl
end
/-- a draw box that can be drawn from -/
def BI (B : Bx) : Prop := ∃ cs x y, B = ⟨cs, [x, y], true⟩ ∧ 0 ≤ x ∧ 0 ≤ y
theorem eqI_self {i : Int} : pyEq (.int i) (.int i) = some true := by rw [eqI]; simp
end Dn

set_option Elab.async false
set_option linter.all false
set_option autoImplicit false
set_option maxRecDepth 100000
set_option maxHeartbeats 4000000
set_option exponentiation.threshold 100000
namespace Dn
open PySem
def ratD (r : Rat) : PyData := .tuple [.int r.num, .int (r.den : Int)]
theorem bne_dec (b : Int) : (b != 0) = decide (b ≠ 0) := by
  by_cases h : b = 0
  · subst h; rfl
  · simp [h]
theorem two_le : (1 + 1 : Nat) ≤ sizeLine := by decide
theorem two_le' : (2 : Nat) ≤ sizeLine := by decide
theorem gcd_em (a b : Int) (ha : 0 ≤ a) (hb : 0 ≤ b) : Int.gcd a b = Int.gcd b (a % b) := by
  obtain ⟨m, rfl⟩ := Int.eq_ofNat_of_zero_le ha
  obtain ⟨n, rfl⟩ := Int.eq_ofNat_of_zero_le hb
  rw [← Int.natCast_emod, Int.gcd_natCast_natCast, Int.gcd_natCast_natCast, Nat.gcd_comm m n, Nat.gcd_rec n m, Nat.gcd_comm]
theorem absI (p : Int) : (if p < 0 then -p else p) = (p.natAbs : Int) := by
  split <;> omega
/-- the greatest common divisor by remainders -/
theorem gcd_loop (t : DT) (ht : ∀ (a b : Int) (B : Bx), t [some (.dat (.int a)), some (.dat (.int b))] B = some (decide (b ≠ 0), B)) (bd : DS) (k : Nat) (hb : ∀ (a b : Int) (B : Bx), 0 ≤ a → 0 < b → a < 2 ^ k → b < 2 ^ k → bd [some (.dat (.int a)), some (.dat (.int b))] B = some (.nx [some (.dat (.int b)), some (.dat (.int (a % b)))] B)) (B : Bx) :
    ∀ (n : Nat) (a b : Int), b.toNat ≤ n → 0 ≤ a → 0 ≤ b → a < 2 ^ k → b < 2 ^ k → dWhile t bd [some (.dat (.int a)), some (.dat (.int b))] B = some (.nx [some (.dat (.int (Int.gcd a b : Int))), some (.dat (.int 0))] B) := by
  intro n
  induction n with
  | zero =>
    intro a b hn ha hb0 _ _
    have : b = 0 := by omega
    subst this
    rw [Int.gcd_zero_right, Int.natAbs_of_nonneg ha]
    refine dWhile_end ?_
    rw [ht]
    rfl
  | succ n ih =>
    intro a b hn ha hb0 hka hkb
    by_cases z : b = 0
    · subst z
      rw [Int.gcd_zero_right, Int.natAbs_of_nonneg ha]
      refine dWhile_end ?_
      rw [ht]
      rfl
    · have hpos : 0 < b := by omega
      have hm := Int.emod_lt_of_pos a hpos
      have hm0 := Int.emod_nonneg a (by omega : b ≠ 0)
      refine dWhile_turn (by rw [ht, decide_eq_true z]) (hb a b B ha hpos hka hkb) ?_
      have := ih b (a % b) (by omega) hb0 hm0 hkb (by omega)
      rw [this, gcd_em a b ha hb0]
theorem pow_nat (x : Int) : ∃ k : Nat, (x.natAbs : Int) < 2 ^ k := ⟨x.natAbs, by exact_mod_cast Nat.lt_two_pow_self⟩
theorem pow_mono {k l : Nat} (h : k ≤ l) : (2 : Int) ^ k ≤ 2 ^ l := by exact_mod_cast Nat.pow_le_pow_right (by decide) h
theorem sp_common_divisor (p q : Int) (B : Bx) : d_common_divisor [.dat (.int p), .dat (.int q)] B = some (.dat (.int (Int.gcd p q : Int)), B) := by
  obtain ⟨k, hk⟩ := pow_nat p
  obtain ⟨l, hl⟩ := pow_nat q
  have h := gcd_loop (dTru (dVarO 1)) (fun a b B => by simp only [k_dC, k_var_ap, k_varO_ap, k_varV_ap, k_op, k_op1, k_op2, k_fin, k_tst, k_t1, k_t2, k_tF, k_opB, k_B, k_neg, k_neg1, k_andT, k_orT, k_notT, k_and1, k_and0, k_or1, k_or0, k_not1, k_tru, k_tru1, k_andV, k_orV, k_notV, k_andV1, k_andV0, k_orV1, k_orV0, k_notV1, k_if, k_if1, k_if0, k_ifD, k_nil, k_cons, k_cons1, k_cons2, k_nilA, k_consA, k_consA1, k_consA2, k_V, k_V1, k_F, k_F1, k_tup, k_tup1, k_lst, k_lst1, k_cl, k_cl1, k_clL, k_clL1, k_finL, k_isi, k_isi1, k_fn, k_fn1, k_dat, k_fnV, k_fnV1, k_seqI, k_seqI1, k_seqI2, k_rng1, k_rng1', k_rng2, k_rng2a, k_rng2b, k_enum, k_enum1, k_zip, k_zip1, k_zip2, k_P, k_P1, k_noP, k_sl, k_sl1, k_sl2, k_sl3, k_cmp, k_cmp1, k_yes, k_seq, k_seq1, k_seq2, k_seq3, k_seq4, k_next, k_brk, k_cont, k_retN, k_asg, k_asg1, k_asgV, k_asgV1, k_asgV2, k_asgV3, k_asgO, k_asgO1, k_asgG, k_asgG1, k_nx, k_gN, k_gT, k_gC, k_g1, k_g0, k_par, k_par1, k_par2, k_drop, k_drop1, k_ret, k_ret1, k_retV, k_retV1, k_ifS, k_ifS1, k_ifS0, k_ifSD, k_fz_ap, k_app, k_app1, k_for, k_for1, k_aug1, k_fun1, k_fun2, k_idx, k_idx1, k_idx2, k_lenC, k_lenC1, k_popC, k_bset, k_getC, k_getC1, k_getC2, k_at0, k_at1, k_at2, k_bg1, k_bg2, k_bs1, k_bs2, k_bc, k_pop1, sz0, sz1, sz2, sz3, sz4, sz5, sz6, k_fun, eqI, neI, addI, subI, ltI, leI, gtI, geI, truD, isTy, tyName, pyLen, pyAbs, pyMin2, pyMax2, pyInt, pyTuple, pyList, pyIx, pyIs, pyIsNot, isNon, nown, wipeD, Option.map_some, List.getElem?_cons_zero, List.getElem?_cons_succ, List.set_cons_zero, List.set_cons_succ, List.map_cons, List.map_nil, List.cons_append, List.nil_append, List.length_cons, List.length_nil, List.all_cons, List.all_nil, List.replicate_succ, List.replicate_zero, Bool.and_true, Bool.true_and, Bool.and_self, Bool.not_true, Bool.not_false, and_self, and_true, true_and, if_true, if_false, reduceIte, reduceCtorEq, decide_true, decide_false, Bool.false_eq_true, Nat.reduceAdd, Nat.reduceEqDiff]; rw [bne_dec]) common_divisor_W1 (max k l) (fun a b B ha hb _ _ => by simp only [k_dC, k_var_ap, k_varO_ap, k_varV_ap, k_op, k_op1, k_op2, k_fin, k_tst, k_t1, k_t2, k_tF, k_opB, k_B, k_neg, k_neg1, k_andT, k_orT, k_notT, k_and1, k_and0, k_or1, k_or0, k_not1, k_tru, k_tru1, k_andV, k_orV, k_notV, k_andV1, k_andV0, k_orV1, k_orV0, k_notV1, k_if, k_if1, k_if0, k_ifD, k_nil, k_cons, k_cons1, k_cons2, k_nilA, k_consA, k_consA1, k_consA2, k_V, k_V1, k_F, k_F1, k_tup, k_tup1, k_lst, k_lst1, k_cl, k_cl1, k_clL, k_clL1, k_finL, k_isi, k_isi1, k_fn, k_fn1, k_dat, k_fnV, k_fnV1, k_seqI, k_seqI1, k_seqI2, k_rng1, k_rng1', k_rng2, k_rng2a, k_rng2b, k_enum, k_enum1, k_zip, k_zip1, k_zip2, k_P, k_P1, k_noP, k_sl, k_sl1, k_sl2, k_sl3, k_cmp, k_cmp1, k_yes, k_seq, k_seq1, k_seq2, k_seq3, k_seq4, k_next, k_brk, k_cont, k_retN, k_asg, k_asg1, k_asgV, k_asgV1, k_asgV2, k_asgV3, k_asgO, k_asgO1, k_asgG, k_asgG1, k_nx, k_gN, k_gT, k_gC, k_g1, k_g0, k_par, k_par1, k_par2, k_drop, k_drop1, k_ret, k_ret1, k_retV, k_retV1, k_ifS, k_ifS1, k_ifS0, k_ifSD, k_fz_ap, k_app, k_app1, k_for, k_for1, k_aug1, k_fun1, k_fun2, k_idx, k_idx1, k_idx2, k_lenC, k_lenC1, k_popC, k_bset, k_getC, k_getC1, k_getC2, k_at0, k_at1, k_at2, k_bg1, k_bg2, k_bs1, k_bs2, k_bc, k_pop1, sz0, sz1, sz2, sz3, sz4, sz5, sz6, k_fun, eqI, neI, addI, subI, ltI, leI, gtI, geI, truD, isTy, tyName, pyLen, pyAbs, pyMin2, pyMax2, pyInt, pyTuple, pyList, pyIx, pyIs, pyIsNot, isNon, nown, wipeD, Option.map_some, List.getElem?_cons_zero, List.getElem?_cons_succ, List.set_cons_zero, List.set_cons_succ, List.map_cons, List.map_nil, List.cons_append, List.nil_append, List.length_cons, List.length_nil, List.all_cons, List.all_nil, List.replicate_succ, List.replicate_zero, Bool.and_true, Bool.true_and, Bool.and_self, Bool.not_true, Bool.not_false, and_self, and_true, true_and, if_true, if_false, reduceIte, reduceCtorEq, decide_true, decide_false, Bool.false_eq_true, Nat.reduceAdd, Nat.reduceEqDiff, common_divisor_W1, modI hb]) B q.natAbs p.natAbs q.natAbs (by omega) (by omega) (by omega)
    (Int.lt_of_lt_of_le hk (pow_mono (Nat.le_max_left k l))) (Int.lt_of_lt_of_le hl (pow_mono (Nat.le_max_right k l)))
  simp only [k_dC, k_var_ap, k_varO_ap, k_varV_ap, k_op, k_op1, k_op2, k_fin, k_tst, k_t1, k_t2, k_tF, k_opB, k_B, k_neg, k_neg1, k_andT, k_orT, k_notT, k_and1, k_and0, k_or1, k_or0, k_not1, k_tru, k_tru1, k_andV, k_orV, k_notV, k_andV1, k_andV0, k_orV1, k_orV0, k_notV1, k_if, k_if1, k_if0, k_ifD, k_nil, k_cons, k_cons1, k_cons2, k_nilA, k_consA, k_consA1, k_consA2, k_V, k_V1, k_F, k_F1, k_tup, k_tup1, k_lst, k_lst1, k_cl, k_cl1, k_clL, k_clL1, k_finL, k_isi, k_isi1, k_fn, k_fn1, k_dat, k_fnV, k_fnV1, k_seqI, k_seqI1, k_seqI2, k_rng1, k_rng1', k_rng2, k_rng2a, k_rng2b, k_enum, k_enum1, k_zip, k_zip1, k_zip2, k_P, k_P1, k_noP, k_sl, k_sl1, k_sl2, k_sl3, k_cmp, k_cmp1, k_yes, k_seq, k_seq1, k_seq2, k_seq3, k_seq4, k_next, k_brk, k_cont, k_retN, k_asg, k_asg1, k_asgV, k_asgV1, k_asgV2, k_asgV3, k_asgO, k_asgO1, k_asgG, k_asgG1, k_nx, k_gN, k_gT, k_gC, k_g1, k_g0, k_par, k_par1, k_par2, k_drop, k_drop1, k_ret, k_ret1, k_retV, k_retV1, k_ifS, k_ifS1, k_ifS0, k_ifSD, k_fz_ap, k_app, k_app1, k_for, k_for1, k_aug1, k_fun1, k_fun2, k_idx, k_idx1, k_idx2, k_lenC, k_lenC1, k_popC, k_bset, k_getC, k_getC1, k_getC2, k_at0, k_at1, k_at2, k_bg1, k_bg2, k_bs1, k_bs2, k_bc, k_pop1, sz0, sz1, sz2, sz3, sz4, sz5, sz6, k_fun, eqI, neI, addI, subI, ltI, leI, gtI, geI, truD, isTy, tyName, pyLen, pyAbs, pyMin2, pyMax2, pyInt, pyTuple, pyList, pyIx, pyIs, pyIsNot, isNon, nown, wipeD, Option.map_some, List.getElem?_cons_zero, List.getElem?_cons_succ, List.set_cons_zero, List.set_cons_succ, List.map_cons, List.map_nil, List.cons_append, List.nil_append, List.length_cons, List.length_nil, List.all_cons, List.all_nil, List.replicate_succ, List.replicate_zero, Bool.and_true, Bool.true_and, Bool.and_self, Bool.not_true, Bool.not_false, and_self, and_true, true_and, if_true, if_false, reduceIte, reduceCtorEq, decide_true, decide_false, Bool.false_eq_true, Nat.reduceAdd, Nat.reduceEqDiff, d_common_divisor, b_common_divisor, absI, h]
  rfl
def big : Nat := 2 ^ 4000
theorem sp_law_divisor (p q : Int) (B : Bx) (hp0 : 0 ≤ p) (hq0 : 0 ≤ q) (hp : p < 2 ^ 4000) (hq : q < 2 ^ 4000) : d_law_divisor [.dat (.int p), .dat (.int q)] B = some (.dat (.int (Int.gcd p q : Int)), B) := by
  have h := gcd_loop (dTst pyNe (dVarO 1) (dC (.int 0))) (fun a b B => by simp only [k_dC, k_var_ap, k_varO_ap, k_varV_ap, k_op, k_op1, k_op2, k_fin, k_tst, k_t1, k_t2, k_tF, k_opB, k_B, k_neg, k_neg1, k_andT, k_orT, k_notT, k_and1, k_and0, k_or1, k_or0, k_not1, k_tru, k_tru1, k_andV, k_orV, k_notV, k_andV1, k_andV0, k_orV1, k_orV0, k_notV1, k_if, k_if1, k_if0, k_ifD, k_nil, k_cons, k_cons1, k_cons2, k_nilA, k_consA, k_consA1, k_consA2, k_V, k_V1, k_F, k_F1, k_tup, k_tup1, k_lst, k_lst1, k_cl, k_cl1, k_clL, k_clL1, k_finL, k_isi, k_isi1, k_fn, k_fn1, k_dat, k_fnV, k_fnV1, k_seqI, k_seqI1, k_seqI2, k_rng1, k_rng1', k_rng2, k_rng2a, k_rng2b, k_enum, k_enum1, k_zip, k_zip1, k_zip2, k_P, k_P1, k_noP, k_sl, k_sl1, k_sl2, k_sl3, k_cmp, k_cmp1, k_yes, k_seq, k_seq1, k_seq2, k_seq3, k_seq4, k_next, k_brk, k_cont, k_retN, k_asg, k_asg1, k_asgV, k_asgV1, k_asgV2, k_asgV3, k_asgO, k_asgO1, k_asgG, k_asgG1, k_nx, k_gN, k_gT, k_gC, k_g1, k_g0, k_par, k_par1, k_par2, k_drop, k_drop1, k_ret, k_ret1, k_retV, k_retV1, k_ifS, k_ifS1, k_ifS0, k_ifSD, k_fz_ap, k_app, k_app1, k_for, k_for1, k_aug1, k_fun1, k_fun2, k_idx, k_idx1, k_idx2, k_lenC, k_lenC1, k_popC, k_bset, k_getC, k_getC1, k_getC2, k_at0, k_at1, k_at2, k_bg1, k_bg2, k_bs1, k_bs2, k_bc, k_pop1, sz0, sz1, sz2, sz3, sz4, sz5, sz6, k_fun, eqI, neI, addI, subI, ltI, leI, gtI, geI, truD, isTy, tyName, pyLen, pyAbs, pyMin2, pyMax2, pyInt, pyTuple, pyList, pyIx, pyIs, pyIsNot, isNon, nown, wipeD, Option.map_some, List.getElem?_cons_zero, List.getElem?_cons_succ, List.set_cons_zero, List.set_cons_succ, List.map_cons, List.map_nil, List.cons_append, List.nil_append, List.length_cons, List.length_nil, List.all_cons, List.all_nil, List.replicate_succ, List.replicate_zero, Bool.and_true, Bool.true_and, Bool.and_self, Bool.not_true, Bool.not_false, and_self, and_true, true_and, if_true, if_false, reduceIte, reduceCtorEq, decide_true, decide_false, Bool.false_eq_true, Nat.reduceAdd, Nat.reduceEqDiff]) law_divisor_W1 4000 (fun a b B ha hb h1 h2 => by
    have k1 : b.natAbs < 2 ^ 4000 := by
      have : (b.natAbs : Int) < 2 ^ 4000 := by rw [Int.natAbs_of_nonneg (by omega)]; exact h2
      exact_mod_cast this
    have k2 : (a / b).natAbs < 2 ^ 4000 := by
      have e0 : 0 ≤ a / b := Int.ediv_nonneg ha (by omega)
      have e1 : a / b ≤ a := Int.ediv_le_self _ ha
      have : ((a / b).natAbs : Int) < 2 ^ 4000 := by rw [Int.natAbs_of_nonneg e0]; exact Int.lt_of_le_of_lt e1 h1
      exact_mod_cast this
    simp only [k_dC, k_var_ap, k_varO_ap, k_varV_ap, k_op, k_op1, k_op2, k_fin, k_tst, k_t1, k_t2, k_tF, k_opB, k_B, k_neg, k_neg1, k_andT, k_orT, k_notT, k_and1, k_and0, k_or1, k_or0, k_not1, k_tru, k_tru1, k_andV, k_orV, k_notV, k_andV1, k_andV0, k_orV1, k_orV0, k_notV1, k_if, k_if1, k_if0, k_ifD, k_nil, k_cons, k_cons1, k_cons2, k_nilA, k_consA, k_consA1, k_consA2, k_V, k_V1, k_F, k_F1, k_tup, k_tup1, k_lst, k_lst1, k_cl, k_cl1, k_clL, k_clL1, k_finL, k_isi, k_isi1, k_fn, k_fn1, k_dat, k_fnV, k_fnV1, k_seqI, k_seqI1, k_seqI2, k_rng1, k_rng1', k_rng2, k_rng2a, k_rng2b, k_enum, k_enum1, k_zip, k_zip1, k_zip2, k_P, k_P1, k_noP, k_sl, k_sl1, k_sl2, k_sl3, k_cmp, k_cmp1, k_yes, k_seq, k_seq1, k_seq2, k_seq3, k_seq4, k_next, k_brk, k_cont, k_retN, k_asg, k_asg1, k_asgV, k_asgV1, k_asgV2, k_asgV3, k_asgO, k_asgO1, k_asgG, k_asgG1, k_nx, k_gN, k_gT, k_gC, k_g1, k_g0, k_par, k_par1, k_par2, k_drop, k_drop1, k_ret, k_ret1, k_retV, k_retV1, k_ifS, k_ifS1, k_ifS0, k_ifSD, k_fz_ap, k_app, k_app1, k_for, k_for1, k_aug1, k_fun1, k_fun2, k_idx, k_idx1, k_idx2, k_lenC, k_lenC1, k_popC, k_bset, k_getC, k_getC1, k_getC2, k_at0, k_at1, k_at2, k_bg1, k_bg2, k_bs1, k_bs2, k_bc, k_pop1, sz0, sz1, sz2, sz3, sz4, sz5, sz6, k_fun, eqI, neI, addI, subI, ltI, leI, gtI, geI, truD, isTy, tyName, pyLen, pyAbs, pyMin2, pyMax2, pyInt, pyTuple, pyList, pyIx, pyIs, pyIsNot, isNon, nown, wipeD, Option.map_some, List.getElem?_cons_zero, List.getElem?_cons_succ, List.set_cons_zero, List.set_cons_succ, List.map_cons, List.map_nil, List.cons_append, List.nil_append, List.length_cons, List.length_nil, List.all_cons, List.all_nil, List.replicate_succ, List.replicate_zero, Bool.and_true, Bool.true_and, Bool.and_self, Bool.not_true, Bool.not_false, and_self, and_true, true_and, if_true, if_false, reduceIte, reduceCtorEq, decide_true, decide_false, Bool.false_eq_true, Nat.reduceAdd, Nat.reduceEqDiff, law_divisor_W1, divI hb (Nat.lt_trans (log2_small k1 (by decide)) (by decide)), mulI (mulOk_w k2 k1 (by decide) (by decide) (by decide))]
    have := Int.emod_def a b
    rw [this, Int.mul_comm]) B q.toNat p q (by omega) hp0 hq0 hp hq
  simp only [k_dC, k_var_ap, k_varO_ap, k_varV_ap, k_op, k_op1, k_op2, k_fin, k_tst, k_t1, k_t2, k_tF, k_opB, k_B, k_neg, k_neg1, k_andT, k_orT, k_notT, k_and1, k_and0, k_or1, k_or0, k_not1, k_tru, k_tru1, k_andV, k_orV, k_notV, k_andV1, k_andV0, k_orV1, k_orV0, k_notV1, k_if, k_if1, k_if0, k_ifD, k_nil, k_cons, k_cons1, k_cons2, k_nilA, k_consA, k_consA1, k_consA2, k_V, k_V1, k_F, k_F1, k_tup, k_tup1, k_lst, k_lst1, k_cl, k_cl1, k_clL, k_clL1, k_finL, k_isi, k_isi1, k_fn, k_fn1, k_dat, k_fnV, k_fnV1, k_seqI, k_seqI1, k_seqI2, k_rng1, k_rng1', k_rng2, k_rng2a, k_rng2b, k_enum, k_enum1, k_zip, k_zip1, k_zip2, k_P, k_P1, k_noP, k_sl, k_sl1, k_sl2, k_sl3, k_cmp, k_cmp1, k_yes, k_seq, k_seq1, k_seq2, k_seq3, k_seq4, k_next, k_brk, k_cont, k_retN, k_asg, k_asg1, k_asgV, k_asgV1, k_asgV2, k_asgV3, k_asgO, k_asgO1, k_asgG, k_asgG1, k_nx, k_gN, k_gT, k_gC, k_g1, k_g0, k_par, k_par1, k_par2, k_drop, k_drop1, k_ret, k_ret1, k_retV, k_retV1, k_ifS, k_ifS1, k_ifS0, k_ifSD, k_fz_ap, k_app, k_app1, k_for, k_for1, k_aug1, k_fun1, k_fun2, k_idx, k_idx1, k_idx2, k_lenC, k_lenC1, k_popC, k_bset, k_getC, k_getC1, k_getC2, k_at0, k_at1, k_at2, k_bg1, k_bg2, k_bs1, k_bs2, k_bc, k_pop1, sz0, sz1, sz2, sz3, sz4, sz5, sz6, k_fun, eqI, neI, addI, subI, ltI, leI, gtI, geI, truD, isTy, tyName, pyLen, pyAbs, pyMin2, pyMax2, pyInt, pyTuple, pyList, pyIx, pyIs, pyIsNot, isNon, nown, wipeD, Option.map_some, List.getElem?_cons_zero, List.getElem?_cons_succ, List.set_cons_zero, List.set_cons_succ, List.map_cons, List.map_nil, List.cons_append, List.nil_append, List.length_cons, List.length_nil, List.all_cons, List.all_nil, List.replicate_succ, List.replicate_zero, Bool.and_true, Bool.true_and, Bool.and_self, Bool.not_true, Bool.not_false, and_self, and_true, true_and, if_true, if_false, reduceIte, reduceCtorEq, decide_true, decide_false, Bool.false_eq_true, Nat.reduceAdd, Nat.reduceEqDiff, d_law_divisor, b_law_divisor, h]
theorem rat_of (p q : Int) (hq : 0 < q) : PyData.tuple [.int (p / (Int.gcd p q : Int)), .int (q / (Int.gcd p q : Int))] = ratD (mkRat p q.toNat) := by
  unfold ratD
  rw [Rat.num_mkRat, Rat.den_mkRat, if_neg (by omega), if_neg (by omega)]
  have e : Nat.gcd q.toNat p.natAbs = Int.gcd p q := by
    unfold Int.gcd
    rw [Nat.gcd_comm]
    congr 1
    omega
  rw [e]
  have e2 : ((q.toNat / Int.gcd p q : Nat) : Int) = q / (Int.gcd p q : Int) := by
    rw [Int.natCast_ediv, Int.toNat_of_nonneg (by omega)]
  rw [e2]
theorem gcd_small (p q : Int) (hq : 0 < q) (hb : q < 2 ^ 4000) : 0 < (Int.gcd p q : Int) ∧ (Int.gcd p q : Int).natAbs.log2 < 9000 := by
  have h1 : Int.gcd p q ∣ q.natAbs := Int.gcd_dvd_natAbs_right p q
  have h2 : Int.gcd p q ≤ q.natAbs := Nat.le_of_dvd (by omega) h1
  have h3 : 0 < Int.gcd p q := Nat.pos_of_dvd_of_pos h1 (by omega)
  have h4 : q.natAbs < 2 ^ 4000 := by
    have : (q.natAbs : Int) < 2 ^ 4000 := by rw [Int.natAbs_of_nonneg (by omega)]; exact hb
    exact_mod_cast this
  refine ⟨by omega, ?_⟩
  rw [Int.natAbs_natCast]
  exact Nat.lt_trans (log2_small (Nat.lt_of_le_of_lt h2 h4) (by decide)) (by decide)
theorem sp_ratio (p q : Int) (B : Bx) (hq : 0 < q) (hb : q < 2 ^ 4000) : d_ratio [.dat (.int p), .dat (.int q)] B = some (.dat (ratD (mkRat p q.toNat)), B) := by
  have hg := gcd_small p q hq hb
  have n0 : (q = 0) = False := eq_false (by omega)
  have n1 : (q < 0) = False := eq_false (by omega)
  simp only [k_dC, k_var_ap, k_varO_ap, k_varV_ap, k_op, k_op1, k_op2, k_fin, k_tst, k_t1, k_t2, k_tF, k_opB, k_B, k_neg, k_neg1, k_andT, k_orT, k_notT, k_and1, k_and0, k_or1, k_or0, k_not1, k_tru, k_tru1, k_andV, k_orV, k_notV, k_andV1, k_andV0, k_orV1, k_orV0, k_notV1, k_if, k_if1, k_if0, k_ifD, k_nil, k_cons, k_cons1, k_cons2, k_nilA, k_consA, k_consA1, k_consA2, k_V, k_V1, k_F, k_F1, k_tup, k_tup1, k_lst, k_lst1, k_cl, k_cl1, k_clL, k_clL1, k_finL, k_isi, k_isi1, k_fn, k_fn1, k_dat, k_fnV, k_fnV1, k_seqI, k_seqI1, k_seqI2, k_rng1, k_rng1', k_rng2, k_rng2a, k_rng2b, k_enum, k_enum1, k_zip, k_zip1, k_zip2, k_P, k_P1, k_noP, k_sl, k_sl1, k_sl2, k_sl3, k_cmp, k_cmp1, k_yes, k_seq, k_seq1, k_seq2, k_seq3, k_seq4, k_next, k_brk, k_cont, k_retN, k_asg, k_asg1, k_asgV, k_asgV1, k_asgV2, k_asgV3, k_asgO, k_asgO1, k_asgG, k_asgG1, k_nx, k_gN, k_gT, k_gC, k_g1, k_g0, k_par, k_par1, k_par2, k_drop, k_drop1, k_ret, k_ret1, k_retV, k_retV1, k_ifS, k_ifS1, k_ifS0, k_ifSD, k_fz_ap, k_app, k_app1, k_for, k_for1, k_aug1, k_fun1, k_fun2, k_idx, k_idx1, k_idx2, k_lenC, k_lenC1, k_popC, k_bset, k_getC, k_getC1, k_getC2, k_at0, k_at1, k_at2, k_bg1, k_bg2, k_bs1, k_bs2, k_bc, k_pop1, sz0, sz1, sz2, sz3, sz4, sz5, sz6, k_fun, eqI, neI, addI, subI, ltI, leI, gtI, geI, truD, isTy, tyName, pyLen, pyAbs, pyMin2, pyMax2, pyInt, pyTuple, pyList, pyIx, pyIs, pyIsNot, isNon, nown, wipeD, Option.map_some, List.getElem?_cons_zero, List.getElem?_cons_succ, List.set_cons_zero, List.set_cons_succ, List.map_cons, List.map_nil, List.cons_append, List.nil_append, List.length_cons, List.length_nil, List.all_cons, List.all_nil, List.replicate_succ, List.replicate_zero, Bool.and_true, Bool.true_and, Bool.and_self, Bool.not_true, Bool.not_false, and_self, and_true, true_and, if_true, if_false, reduceIte, reduceCtorEq, decide_true, decide_false, Bool.false_eq_true, Nat.reduceAdd, Nat.reduceEqDiff, d_ratio, b_ratio, n0, n1, sp_common_divisor, divI hg.1 hg.2]
  rw [rat_of p q hq]
theorem sp_law_ratio (p q : Int) (B : Bx) (hq : 0 < q) (hb : q < 2 ^ 4000) (hp : (p.natAbs : Int) < 2 ^ 4000) : d_law_ratio [.dat (.int p), .dat (.int q)] B = some (.dat (ratD (mkRat p q.toNat)), B) := by
  have hg := gcd_small p q hq hb
  have n1 : (0 < q) = True := eq_true hq
  have hab : (q.natAbs : Int) < 2 ^ 4000 := by rw [Int.natAbs_of_nonneg (by omega)]; exact hb
  have hd := sp_law_divisor p.natAbs q.natAbs B (by omega) (by omega) hp hab
  rw [show Int.gcd (p.natAbs : Int) (q.natAbs : Int) = Int.gcd p q from rfl] at hd
  simp only [k_dC, k_var_ap, k_varO_ap, k_varV_ap, k_op, k_op1, k_op2, k_fin, k_tst, k_t1, k_t2, k_tF, k_opB, k_B, k_neg, k_neg1, k_andT, k_orT, k_notT, k_and1, k_and0, k_or1, k_or0, k_not1, k_tru, k_tru1, k_andV, k_orV, k_notV, k_andV1, k_andV0, k_orV1, k_orV0, k_notV1, k_if, k_if1, k_if0, k_ifD, k_nil, k_cons, k_cons1, k_cons2, k_nilA, k_consA, k_consA1, k_consA2, k_V, k_V1, k_F, k_F1, k_tup, k_tup1, k_lst, k_lst1, k_cl, k_cl1, k_clL, k_clL1, k_finL, k_isi, k_isi1, k_fn, k_fn1, k_dat, k_fnV, k_fnV1, k_seqI, k_seqI1, k_seqI2, k_rng1, k_rng1', k_rng2, k_rng2a, k_rng2b, k_enum, k_enum1, k_zip, k_zip1, k_zip2, k_P, k_P1, k_noP, k_sl, k_sl1, k_sl2, k_sl3, k_cmp, k_cmp1, k_yes, k_seq, k_seq1, k_seq2, k_seq3, k_seq4, k_next, k_brk, k_cont, k_retN, k_asg, k_asg1, k_asgV, k_asgV1, k_asgV2, k_asgV3, k_asgO, k_asgO1, k_asgG, k_asgG1, k_nx, k_gN, k_gT, k_gC, k_g1, k_g0, k_par, k_par1, k_par2, k_drop, k_drop1, k_ret, k_ret1, k_retV, k_retV1, k_ifS, k_ifS1, k_ifS0, k_ifSD, k_fz_ap, k_app, k_app1, k_for, k_for1, k_aug1, k_fun1, k_fun2, k_idx, k_idx1, k_idx2, k_lenC, k_lenC1, k_popC, k_bset, k_getC, k_getC1, k_getC2, k_at0, k_at1, k_at2, k_bg1, k_bg2, k_bs1, k_bs2, k_bc, k_pop1, sz0, sz1, sz2, sz3, sz4, sz5, sz6, k_fun, eqI, neI, addI, subI, ltI, leI, gtI, geI, truD, isTy, tyName, pyLen, pyAbs, pyMin2, pyMax2, pyInt, pyTuple, pyList, pyIx, pyIs, pyIsNot, isNon, nown, wipeD, Option.map_some, List.getElem?_cons_zero, List.getElem?_cons_succ, List.set_cons_zero, List.set_cons_succ, List.map_cons, List.map_nil, List.cons_append, List.nil_append, List.length_cons, List.length_nil, List.all_cons, List.all_nil, List.replicate_succ, List.replicate_zero, Bool.and_true, Bool.true_and, Bool.and_self, Bool.not_true, Bool.not_false, and_self, and_true, true_and, if_true, if_false, reduceIte, reduceCtorEq, decide_true, decide_false, Bool.false_eq_true, Nat.reduceAdd, Nat.reduceEqDiff, d_law_ratio, b_law_ratio, n1, absI, hd, divI hg.1 hg.2]
  rw [rat_of p q hq]
/-- numbers of a ratio are not too great -/
def Bd (k : Nat) (r : Rat) : Prop := r.num.natAbs < 2 ^ k ∧ r.den < 2 ^ k
theorem Bd.mono {k l : Nat} {r : Rat} (h : Bd k r) (hl : k ≤ l) : Bd l r :=
  ⟨Nat.lt_of_lt_of_le h.1 (Nat.pow_le_pow_right (by decide) hl), Nat.lt_of_lt_of_le h.2 (Nat.pow_le_pow_right (by decide) hl)⟩
theorem Bd_mk {n : Int} {d k : Nat} (h1 : n.natAbs < 2 ^ k) (h2 : d < 2 ^ k) (hd : 0 < d) : Bd k (mkRat n d) := by
  refine ⟨?_, ?_⟩
  · rw [Rat.num_mkRat, if_neg (by omega)]
    refine Nat.lt_of_le_of_lt ?_ h1
    exact Int.natAbs_ediv_le_natAbs n _
  · rw [Rat.den_mkRat, if_neg (by omega)]
    exact Nat.lt_of_le_of_lt (Nat.div_le_self _ _) h2
theorem prod_lt {a b k l : Nat} (h1 : a < 2 ^ k) (h2 : b < 2 ^ l) : a * b < 2 ^ (k + l) := by
  rw [Nat.pow_add]
  exact Nat.mul_lt_mul_of_lt_of_lt h1 h2
theorem iprod_lt {a b : Int} {k l : Nat} (h1 : a.natAbs < 2 ^ k) (h2 : b.natAbs < 2 ^ l) : (a * b).natAbs < 2 ^ (k + l) := by
  rw [Int.natAbs_mul]
  exact prod_lt h1 h2
theorem Bd_add {a b : Rat} {k l : Nat} (ha : Bd k a) (hb : Bd l b) : Bd (k + l + 1) (a + b) := by
  rw [Rat.add_def']
  have h1 : (a.num * b.den).natAbs < 2 ^ (k + l) := iprod_lt ha.1 hb.2
  have h2 : (b.num * a.den).natAbs < 2 ^ (l + k) := iprod_lt hb.1 ha.2
  rw [Nat.add_comm l k] at h2
  refine Bd_mk ?_ ?_ (Nat.mul_pos a.den_pos b.den_pos)
  · have := Int.natAbs_add_le (a.num * b.den) (b.num * a.den)
    rw [Nat.pow_succ]
    omega
  · exact Nat.lt_of_lt_of_le (prod_lt ha.2 hb.2) (Nat.pow_le_pow_right (by decide) (by omega))
theorem Bd_mul {a b : Rat} {k l : Nat} (ha : Bd k a) (hb : Bd l b) : Bd (k + l) (a * b) := by
  rw [Rat.mul_def']
  exact Bd_mk (iprod_lt ha.1 hb.1) (prod_lt ha.2 hb.2) (Nat.mul_pos a.den_pos b.den_pos)
theorem bd_mulOk {i j : Int} {k l : Nat} (h1 : i.natAbs < 2 ^ k) (h2 : j.natAbs < 2 ^ l) (h : k + l ≤ 8000) : mulOk i j = true :=
  mulOk_w (a := k + 1) (b := l + 1) (Nat.lt_of_lt_of_le h1 (Nat.pow_le_pow_right (by decide) (by omega))) (Nat.lt_of_lt_of_le h2 (Nat.pow_le_pow_right (by decide) (by omega))) (by omega) (by omega) (by omega)
theorem toI {n k : Nat} (h : n < 2 ^ k) : (n : Int) < 2 ^ k := by exact_mod_cast h
theorem sp_less (a b : Rat) (B : Bx) {k l : Nat} (ha : Bd k a) (hb : Bd l b) (h : k + l ≤ 3900) : d_less [.dat (ratD a), .dat (ratD b)] B = some (.dat (.bool (decide (a < b))), B) := by
  simp only [k_dC, k_var_ap, k_varO_ap, k_varV_ap, k_op, k_op1, k_op2, k_fin, k_tst, k_t1, k_t2, k_tF, k_opB, k_B, k_neg, k_neg1, k_andT, k_orT, k_notT, k_and1, k_and0, k_or1, k_or0, k_not1, k_tru, k_tru1, k_andV, k_orV, k_notV, k_andV1, k_andV0, k_orV1, k_orV0, k_notV1, k_if, k_if1, k_if0, k_ifD, k_nil, k_cons, k_cons1, k_cons2, k_nilA, k_consA, k_consA1, k_consA2, k_V, k_V1, k_F, k_F1, k_tup, k_tup1, k_lst, k_lst1, k_cl, k_cl1, k_clL, k_clL1, k_finL, k_isi, k_isi1, k_fn, k_fn1, k_dat, k_fnV, k_fnV1, k_seqI, k_seqI1, k_seqI2, k_rng1, k_rng1', k_rng2, k_rng2a, k_rng2b, k_enum, k_enum1, k_zip, k_zip1, k_zip2, k_P, k_P1, k_noP, k_sl, k_sl1, k_sl2, k_sl3, k_cmp, k_cmp1, k_yes, k_seq, k_seq1, k_seq2, k_seq3, k_seq4, k_next, k_brk, k_cont, k_retN, k_asg, k_asg1, k_asgV, k_asgV1, k_asgV2, k_asgV3, k_asgO, k_asgO1, k_asgG, k_asgG1, k_nx, k_gN, k_gT, k_gC, k_g1, k_g0, k_par, k_par1, k_par2, k_drop, k_drop1, k_ret, k_ret1, k_retV, k_retV1, k_ifS, k_ifS1, k_ifS0, k_ifSD, k_fz_ap, k_app, k_app1, k_for, k_for1, k_aug1, k_fun1, k_fun2, k_idx, k_idx1, k_idx2, k_lenC, k_lenC1, k_popC, k_bset, k_getC, k_getC1, k_getC2, k_at0, k_at1, k_at2, k_bg1, k_bg2, k_bs1, k_bs2, k_bc, k_pop1, sz0, sz1, sz2, sz3, sz4, sz5, sz6, k_fun, eqI, neI, addI, subI, ltI, leI, gtI, geI, truD, isTy, tyName, pyLen, pyAbs, pyMin2, pyMax2, pyInt, pyTuple, pyList, pyIx, pyIs, pyIsNot, isNon, nown, wipeD, Option.map_some, List.getElem?_cons_zero, List.getElem?_cons_succ, List.set_cons_zero, List.set_cons_succ, List.map_cons, List.map_nil, List.cons_append, List.nil_append, List.length_cons, List.length_nil, List.all_cons, List.all_nil, List.replicate_succ, List.replicate_zero, Bool.and_true, Bool.true_and, Bool.and_self, Bool.not_true, Bool.not_false, and_self, and_true, true_and, if_true, if_false, reduceIte, reduceCtorEq, decide_true, decide_false, Bool.false_eq_true, Nat.reduceAdd, Nat.reduceEqDiff, d_less, b_less, ratD, k_at0, k_at1, mulI (bd_mulOk (j := (b.den : Int)) ha.1 hb.2 (by omega)), mulI (bd_mulOk (j := (a.den : Int)) hb.1 ha.2 (by omega))]
  rw [decide_eq_decide.mpr (Rat.lt_iff a b)]
theorem sp_law_less (a b : Rat) (B : Bx) {k l : Nat} (ha : Bd k a) (hb : Bd l b) (h : k + l ≤ 3900) : d_law_less [.dat (ratD a), .dat (ratD b)] B = some (.dat (.bool (decide (a < b))), B) := by
  simp only [k_dC, k_var_ap, k_varO_ap, k_varV_ap, k_op, k_op1, k_op2, k_fin, k_tst, k_t1, k_t2, k_tF, k_opB, k_B, k_neg, k_neg1, k_andT, k_orT, k_notT, k_and1, k_and0, k_or1, k_or0, k_not1, k_tru, k_tru1, k_andV, k_orV, k_notV, k_andV1, k_andV0, k_orV1, k_orV0, k_notV1, k_if, k_if1, k_if0, k_ifD, k_nil, k_cons, k_cons1, k_cons2, k_nilA, k_consA, k_consA1, k_consA2, k_V, k_V1, k_F, k_F1, k_tup, k_tup1, k_lst, k_lst1, k_cl, k_cl1, k_clL, k_clL1, k_finL, k_isi, k_isi1, k_fn, k_fn1, k_dat, k_fnV, k_fnV1, k_seqI, k_seqI1, k_seqI2, k_rng1, k_rng1', k_rng2, k_rng2a, k_rng2b, k_enum, k_enum1, k_zip, k_zip1, k_zip2, k_P, k_P1, k_noP, k_sl, k_sl1, k_sl2, k_sl3, k_cmp, k_cmp1, k_yes, k_seq, k_seq1, k_seq2, k_seq3, k_seq4, k_next, k_brk, k_cont, k_retN, k_asg, k_asg1, k_asgV, k_asgV1, k_asgV2, k_asgV3, k_asgO, k_asgO1, k_asgG, k_asgG1, k_nx, k_gN, k_gT, k_gC, k_g1, k_g0, k_par, k_par1, k_par2, k_drop, k_drop1, k_ret, k_ret1, k_retV, k_retV1, k_ifS, k_ifS1, k_ifS0, k_ifSD, k_fz_ap, k_app, k_app1, k_for, k_for1, k_aug1, k_fun1, k_fun2, k_idx, k_idx1, k_idx2, k_lenC, k_lenC1, k_popC, k_bset, k_getC, k_getC1, k_getC2, k_at0, k_at1, k_at2, k_bg1, k_bg2, k_bs1, k_bs2, k_bc, k_pop1, sz0, sz1, sz2, sz3, sz4, sz5, sz6, k_fun, eqI, neI, addI, subI, ltI, leI, gtI, geI, truD, isTy, tyName, pyLen, pyAbs, pyMin2, pyMax2, pyInt, pyTuple, pyList, pyIx, pyIs, pyIsNot, isNon, nown, wipeD, Option.map_some, List.getElem?_cons_zero, List.getElem?_cons_succ, List.set_cons_zero, List.set_cons_succ, List.map_cons, List.map_nil, List.cons_append, List.nil_append, List.length_cons, List.length_nil, List.all_cons, List.all_nil, List.replicate_succ, List.replicate_zero, Bool.and_true, Bool.true_and, Bool.and_self, Bool.not_true, Bool.not_false, and_self, and_true, true_and, if_true, if_false, reduceIte, reduceCtorEq, decide_true, decide_false, Bool.false_eq_true, Nat.reduceAdd, Nat.reduceEqDiff, d_law_less, b_law_less, ratD, k_at0, k_at1, mulI (bd_mulOk (j := (b.den : Int)) ha.1 hb.2 (by omega)), mulI (bd_mulOk (j := (a.den : Int)) hb.1 ha.2 (by omega))]
  rw [decide_eq_decide.mpr (Rat.lt_iff a b)]
theorem sp_law_plus (a b : Rat) (B : Bx) {k l : Nat} (ha : Bd k a) (hb : Bd l b) (h : k + l ≤ 3900) : d_law_plus [.dat (ratD a), .dat (ratD b)] B = some (.dat (ratD (a + b)), B) := by
  have h1 : (a.num * b.den).natAbs < 2 ^ (k + l) := iprod_lt ha.1 hb.2
  have h2 : (b.num * a.den).natAbs < 2 ^ (l + k) := iprod_lt hb.1 ha.2
  have h3 : a.den * b.den < 2 ^ (k + l) := prod_lt ha.2 hb.2
  rw [Nat.add_comm l k] at h2
  have q := sp_law_ratio (a.num * b.den + b.num * a.den) ((a.den : Int) * b.den) B (by exact_mod_cast Nat.mul_pos a.den_pos b.den_pos)
    (by exact_mod_cast Nat.lt_of_lt_of_le h3 (Nat.pow_le_pow_right (by decide) (by omega)))
    (by
      have := Int.natAbs_add_le (a.num * b.den) (b.num * a.den)
      refine toI (Nat.lt_of_lt_of_le (m := 2 ^ (k + l + 1)) ?_ (Nat.pow_le_pow_right (by decide) (by omega)))
      rw [Nat.pow_succ]
      omega)
  simp only [k_dC, k_var_ap, k_varO_ap, k_varV_ap, k_op, k_op1, k_op2, k_fin, k_tst, k_t1, k_t2, k_tF, k_opB, k_B, k_neg, k_neg1, k_andT, k_orT, k_notT, k_and1, k_and0, k_or1, k_or0, k_not1, k_tru, k_tru1, k_andV, k_orV, k_notV, k_andV1, k_andV0, k_orV1, k_orV0, k_notV1, k_if, k_if1, k_if0, k_ifD, k_nil, k_cons, k_cons1, k_cons2, k_nilA, k_consA, k_consA1, k_consA2, k_V, k_V1, k_F, k_F1, k_tup, k_tup1, k_lst, k_lst1, k_cl, k_cl1, k_clL, k_clL1, k_finL, k_isi, k_isi1, k_fn, k_fn1, k_dat, k_fnV, k_fnV1, k_seqI, k_seqI1, k_seqI2, k_rng1, k_rng1', k_rng2, k_rng2a, k_rng2b, k_enum, k_enum1, k_zip, k_zip1, k_zip2, k_P, k_P1, k_noP, k_sl, k_sl1, k_sl2, k_sl3, k_cmp, k_cmp1, k_yes, k_seq, k_seq1, k_seq2, k_seq3, k_seq4, k_next, k_brk, k_cont, k_retN, k_asg, k_asg1, k_asgV, k_asgV1, k_asgV2, k_asgV3, k_asgO, k_asgO1, k_asgG, k_asgG1, k_nx, k_gN, k_gT, k_gC, k_g1, k_g0, k_par, k_par1, k_par2, k_drop, k_drop1, k_ret, k_ret1, k_retV, k_retV1, k_ifS, k_ifS1, k_ifS0, k_ifSD, k_fz_ap, k_app, k_app1, k_for, k_for1, k_aug1, k_fun1, k_fun2, k_idx, k_idx1, k_idx2, k_lenC, k_lenC1, k_popC, k_bset, k_getC, k_getC1, k_getC2, k_at0, k_at1, k_at2, k_bg1, k_bg2, k_bs1, k_bs2, k_bc, k_pop1, sz0, sz1, sz2, sz3, sz4, sz5, sz6, k_fun, eqI, neI, addI, subI, ltI, leI, gtI, geI, truD, isTy, tyName, pyLen, pyAbs, pyMin2, pyMax2, pyInt, pyTuple, pyList, pyIx, pyIs, pyIsNot, isNon, nown, wipeD, Option.map_some, List.getElem?_cons_zero, List.getElem?_cons_succ, List.set_cons_zero, List.set_cons_succ, List.map_cons, List.map_nil, List.cons_append, List.nil_append, List.length_cons, List.length_nil, List.all_cons, List.all_nil, List.replicate_succ, List.replicate_zero, Bool.and_true, Bool.true_and, Bool.and_self, Bool.not_true, Bool.not_false, and_self, and_true, true_and, if_true, if_false, reduceIte, reduceCtorEq, decide_true, decide_false, Bool.false_eq_true, Nat.reduceAdd, Nat.reduceEqDiff, d_law_plus, b_law_plus, ratD, k_at0, k_at1, mulI (bd_mulOk (j := (b.den : Int)) ha.1 hb.2 (by omega)), mulI (bd_mulOk (j := (a.den : Int)) hb.1 ha.2 (by omega)), mulI (bd_mulOk (i := (a.den : Int)) (j := (b.den : Int)) ha.2 hb.2 (by omega)), q]
  rw [Rat.add_def' a b]
  rfl
theorem sp_law_times (a b : Rat) (B : Bx) {k l : Nat} (ha : Bd k a) (hb : Bd l b) (h : k + l ≤ 3900) : d_law_times [.dat (ratD a), .dat (ratD b)] B = some (.dat (ratD (a * b)), B) := by
  have h1 : (a.num * b.num).natAbs < 2 ^ (k + l) := iprod_lt ha.1 hb.1
  have h3 : a.den * b.den < 2 ^ (k + l) := prod_lt ha.2 hb.2
  have q := sp_law_ratio (a.num * b.num) ((a.den : Int) * b.den) B (by exact_mod_cast Nat.mul_pos a.den_pos b.den_pos)
    (by exact_mod_cast Nat.lt_of_lt_of_le h3 (Nat.pow_le_pow_right (by decide) (by omega)))
    (toI (Nat.lt_of_lt_of_le h1 (Nat.pow_le_pow_right (by decide) (by omega))))
  simp only [k_dC, k_var_ap, k_varO_ap, k_varV_ap, k_op, k_op1, k_op2, k_fin, k_tst, k_t1, k_t2, k_tF, k_opB, k_B, k_neg, k_neg1, k_andT, k_orT, k_notT, k_and1, k_and0, k_or1, k_or0, k_not1, k_tru, k_tru1, k_andV, k_orV, k_notV, k_andV1, k_andV0, k_orV1, k_orV0, k_notV1, k_if, k_if1, k_if0, k_ifD, k_nil, k_cons, k_cons1, k_cons2, k_nilA, k_consA, k_consA1, k_consA2, k_V, k_V1, k_F, k_F1, k_tup, k_tup1, k_lst, k_lst1, k_cl, k_cl1, k_clL, k_clL1, k_finL, k_isi, k_isi1, k_fn, k_fn1, k_dat, k_fnV, k_fnV1, k_seqI, k_seqI1, k_seqI2, k_rng1, k_rng1', k_rng2, k_rng2a, k_rng2b, k_enum, k_enum1, k_zip, k_zip1, k_zip2, k_P, k_P1, k_noP, k_sl, k_sl1, k_sl2, k_sl3, k_cmp, k_cmp1, k_yes, k_seq, k_seq1, k_seq2, k_seq3, k_seq4, k_next, k_brk, k_cont, k_retN, k_asg, k_asg1, k_asgV, k_asgV1, k_asgV2, k_asgV3, k_asgO, k_asgO1, k_asgG, k_asgG1, k_nx, k_gN, k_gT, k_gC, k_g1, k_g0, k_par, k_par1, k_par2, k_drop, k_drop1, k_ret, k_ret1, k_retV, k_retV1, k_ifS, k_ifS1, k_ifS0, k_ifSD, k_fz_ap, k_app, k_app1, k_for, k_for1, k_aug1, k_fun1, k_fun2, k_idx, k_idx1, k_idx2, k_lenC, k_lenC1, k_popC, k_bset, k_getC, k_getC1, k_getC2, k_at0, k_at1, k_at2, k_bg1, k_bg2, k_bs1, k_bs2, k_bc, k_pop1, sz0, sz1, sz2, sz3, sz4, sz5, sz6, k_fun, eqI, neI, addI, subI, ltI, leI, gtI, geI, truD, isTy, tyName, pyLen, pyAbs, pyMin2, pyMax2, pyInt, pyTuple, pyList, pyIx, pyIs, pyIsNot, isNon, nown, wipeD, Option.map_some, List.getElem?_cons_zero, List.getElem?_cons_succ, List.set_cons_zero, List.set_cons_succ, List.map_cons, List.map_nil, List.cons_append, List.nil_append, List.length_cons, List.length_nil, List.all_cons, List.all_nil, List.replicate_succ, List.replicate_zero, Bool.and_true, Bool.true_and, Bool.and_self, Bool.not_true, Bool.not_false, and_self, and_true, true_and, if_true, if_false, reduceIte, reduceCtorEq, decide_true, decide_false, Bool.false_eq_true, Nat.reduceAdd, Nat.reduceEqDiff, d_law_times, b_law_times, ratD, k_at0, k_at1, mulI (bd_mulOk ha.1 hb.1 (by omega)), mulI (bd_mulOk (i := (a.den : Int)) (j := (b.den : Int)) ha.2 hb.2 (by omega)), q]
  rw [Rat.mul_def' a b]
  rfl
end Dn

set_option Elab.async false
set_option linter.all false
set_option autoImplicit false
set_option maxRecDepth 100000
set_option maxHeartbeats 4000000
namespace Dn
open PySem
/-! ### plain equality -/
mutual
def pln : PyData → Bool
  | .none | .bool _ | .int _ => true
  | .tuple xs => decide (xs.length < 1000) && plnAll xs
  | _ => false
def plnAll : List PyData → Bool
  | [] => true
  | x :: xs => pln x && plnAll xs
end
mutual
def dep : PyData → Nat
  | .tuple xs => depAll xs + 1
  | _ => 0
def depAll : List PyData → Nat
  | [] => 0
  | x :: xs => max (dep x) (depAll xs)
end
theorem pln_mem : ∀ {xs : List PyData}, plnAll xs = true → ∀ x ∈ xs, pln x = true
  | [], _, x, h => by cases h
  | y :: ys, h, x, hx => by
    unfold plnAll at h
    rw [Bool.and_eq_true] at h
    rcases List.mem_cons.mp hx with e | e
    · rw [e]; exact h.1
    · exact pln_mem h.2 x e
theorem dep_mem : ∀ {xs : List PyData}, ∀ x ∈ xs, dep x ≤ depAll xs
  | [], x, h => by cases h
  | y :: ys, x, hx => by
    unfold depAll
    rcases List.mem_cons.mp hx with e | e
    · rw [e]; exact Nat.le_max_left _ _
    · exact Nat.le_trans (dep_mem x e) (Nat.le_max_right _ _)
theorem all_true {α : Type} (xs : List α) : (xs.map fun _ => true).all id = true := by
  induction xs with
  | nil => rfl
  | cons x r ih => simp
theorem ty_none_tuple  : isTy "tuple" .none = false := by unfold isTy tyName; decide
theorem ty_none_list  : isTy "list" .none = false := by unfold isTy tyName; decide
theorem ty_none_bool  : isTy "bool" .none = false := by unfold isTy tyName; decide
theorem ty_none_int  : isTy "int" .none = false := by unfold isTy tyName; decide
theorem ty_none_str  : isTy "str" .none = false := by unfold isTy tyName; decide
theorem ty_bool_tuple {b : Bool} : isTy "tuple" (.bool b) = false := by rw [show isTy "tuple" (.bool b) = ("bool" == "tuple" || ("tuple" == "int" && "bool" == "bool")) from rfl]; decide
theorem ty_bool_list {b : Bool} : isTy "list" (.bool b) = false := by rw [show isTy "list" (.bool b) = ("bool" == "list" || ("list" == "int" && "bool" == "bool")) from rfl]; decide
theorem ty_bool_bool {b : Bool} : isTy "bool" (.bool b) = true := by rw [show isTy "bool" (.bool b) = ("bool" == "bool" || ("bool" == "int" && "bool" == "bool")) from rfl]; decide
theorem ty_bool_int {b : Bool} : isTy "int" (.bool b) = true := by rw [show isTy "int" (.bool b) = ("bool" == "int" || ("int" == "int" && "bool" == "bool")) from rfl]; decide
theorem ty_bool_str {b : Bool} : isTy "str" (.bool b) = false := by rw [show isTy "str" (.bool b) = ("bool" == "str" || ("str" == "int" && "bool" == "bool")) from rfl]; decide
theorem ty_int_tuple {b : Int} : isTy "tuple" (.int b) = false := by rw [show isTy "tuple" (.int b) = ("int" == "tuple" || ("tuple" == "int" && "int" == "bool")) from rfl]; decide
theorem ty_int_list {b : Int} : isTy "list" (.int b) = false := by rw [show isTy "list" (.int b) = ("int" == "list" || ("list" == "int" && "int" == "bool")) from rfl]; decide
theorem ty_int_bool {b : Int} : isTy "bool" (.int b) = false := by rw [show isTy "bool" (.int b) = ("int" == "bool" || ("bool" == "int" && "int" == "bool")) from rfl]; decide
theorem ty_int_int {b : Int} : isTy "int" (.int b) = true := by rw [show isTy "int" (.int b) = ("int" == "int" || ("int" == "int" && "int" == "bool")) from rfl]; decide
theorem ty_int_str {b : Int} : isTy "str" (.int b) = false := by rw [show isTy "str" (.int b) = ("int" == "str" || ("str" == "int" && "int" == "bool")) from rfl]; decide
theorem ty_str_tuple {b : Str} : isTy "tuple" (.str b) = false := by rw [show isTy "tuple" (.str b) = ("str" == "tuple" || ("tuple" == "int" && "str" == "bool")) from rfl]; decide
theorem ty_str_list {b : Str} : isTy "list" (.str b) = false := by rw [show isTy "list" (.str b) = ("str" == "list" || ("list" == "int" && "str" == "bool")) from rfl]; decide
theorem ty_str_bool {b : Str} : isTy "bool" (.str b) = false := by rw [show isTy "bool" (.str b) = ("str" == "bool" || ("bool" == "int" && "str" == "bool")) from rfl]; decide
theorem ty_str_int {b : Str} : isTy "int" (.str b) = false := by rw [show isTy "int" (.str b) = ("str" == "int" || ("int" == "int" && "str" == "bool")) from rfl]; decide
theorem ty_str_str {b : Str} : isTy "str" (.str b) = true := by rw [show isTy "str" (.str b) = ("str" == "str" || ("str" == "int" && "str" == "bool")) from rfl]; decide
theorem ty_list_tuple {b : List PyData} : isTy "tuple" (.list b) = false := by rw [show isTy "tuple" (.list b) = ("list" == "tuple" || ("tuple" == "int" && "list" == "bool")) from rfl]; decide
theorem ty_list_list {b : List PyData} : isTy "list" (.list b) = true := by rw [show isTy "list" (.list b) = ("list" == "list" || ("list" == "int" && "list" == "bool")) from rfl]; decide
theorem ty_list_bool {b : List PyData} : isTy "bool" (.list b) = false := by rw [show isTy "bool" (.list b) = ("list" == "bool" || ("bool" == "int" && "list" == "bool")) from rfl]; decide
theorem ty_list_int {b : List PyData} : isTy "int" (.list b) = false := by rw [show isTy "int" (.list b) = ("list" == "int" || ("int" == "int" && "list" == "bool")) from rfl]; decide
theorem ty_list_str {b : List PyData} : isTy "str" (.list b) = false := by rw [show isTy "str" (.list b) = ("list" == "str" || ("str" == "int" && "list" == "bool")) from rfl]; decide
theorem ty_tuple_tuple {b : List PyData} : isTy "tuple" (.tuple b) = true := by rw [show isTy "tuple" (.tuple b) = ("tuple" == "tuple" || ("tuple" == "int" && "tuple" == "bool")) from rfl]; decide
theorem ty_tuple_list {b : List PyData} : isTy "list" (.tuple b) = false := by rw [show isTy "list" (.tuple b) = ("tuple" == "list" || ("list" == "int" && "tuple" == "bool")) from rfl]; decide
theorem ty_tuple_bool {b : List PyData} : isTy "bool" (.tuple b) = false := by rw [show isTy "bool" (.tuple b) = ("tuple" == "bool" || ("bool" == "int" && "tuple" == "bool")) from rfl]; decide
theorem ty_tuple_int {b : List PyData} : isTy "int" (.tuple b) = false := by rw [show isTy "int" (.tuple b) = ("tuple" == "int" || ("int" == "int" && "tuple" == "bool")) from rfl]; decide
theorem ty_tuple_str {b : List PyData} : isTy "str" (.tuple b) = false := by rw [show isTy "str" (.tuple b) = ("tuple" == "str" || ("str" == "int" && "tuple" == "bool")) from rfl]; decide
theorem eqB {i j : Bool} : pyEq (.bool i) (.bool j) = some (i == j) := by
  unfold pyEq
  rw [if_pos ⟨sh_bool, sh_bool⟩, eqv_bb]
theorem same_nil (n : Nat) (B : Bx) : d_law_same (n + 1) [.dat .none, .dat .none] B = some (.dat (.bool true), B) := by
  simp only [k_dC, k_var_ap, k_varO_ap, k_varV_ap, k_op, k_op1, k_op2, k_fin, k_tst, k_t1, k_t2, k_tF, k_opB, k_B, k_neg, k_neg1, k_andT, k_orT, k_notT, k_and1, k_and0, k_or1, k_or0, k_not1, k_tru, k_tru1, k_andV, k_orV, k_notV, k_andV1, k_andV0, k_orV1, k_orV0, k_notV1, k_if, k_if1, k_if0, k_ifD, k_nil, k_cons, k_cons1, k_cons2, k_nilA, k_consA, k_consA1, k_consA2, k_V, k_V1, k_F, k_F1, k_tup, k_tup1, k_lst, k_lst1, k_cl, k_cl1, k_clL, k_clL1, k_finL, k_isi, k_isi1, k_fn, k_fn1, k_dat, k_fnV, k_fnV1, k_seqI, k_seqI1, k_seqI2, k_rng1, k_rng1', k_rng2, k_rng2a, k_rng2b, k_enum, k_enum1, k_zip, k_zip1, k_zip2, k_P, k_P1, k_noP, k_sl, k_sl1, k_sl2, k_sl3, k_cmp, k_cmp1, k_yes, k_seq, k_seq1, k_seq2, k_seq3, k_seq4, k_next, k_brk, k_cont, k_retN, k_asg, k_asg1, k_asgV, k_asgV1, k_asgV2, k_asgV3, k_asgO, k_asgO1, k_asgG, k_asgG1, k_nx, k_gN, k_gT, k_gC, k_g1, k_g0, k_par, k_par1, k_par2, k_drop, k_drop1, k_ret, k_ret1, k_retV, k_retV1, k_ifS, k_ifS1, k_ifS0, k_ifSD, k_fz_ap, k_app, k_app1, k_for, k_for1, k_aug1, k_fun1, k_fun2, k_idx, k_idx1, k_idx2, k_lenC, k_lenC1, k_popC, k_bset, k_getC, k_getC1, k_getC2, k_at0, k_at1, k_at2, k_bg1, k_bg2, k_bs1, k_bs2, k_bc, k_pop1, sz0, sz1, sz2, sz3, sz4, sz5, sz6, k_fun, eqI, neI, addI, subI, ltI, leI, gtI, geI, truD, pyLen, pyAbs, pyMin2, pyMax2, pyInt, pyTuple, pyList, pyIx, pyIs, pyIsNot, isNon, nown, wipeD, Option.map_some, List.getElem?_cons_zero, List.getElem?_cons_succ, List.set_cons_zero, List.set_cons_succ, List.map_cons, List.map_nil, List.cons_append, List.nil_append, List.length_cons, List.length_nil, List.all_cons, List.all_nil, List.replicate_succ, List.replicate_zero, Bool.and_true, Bool.true_and, Bool.and_self, Bool.not_true, Bool.not_false, and_self, and_true, true_and, if_true, if_false, reduceIte, reduceCtorEq, decide_true, decide_false, Bool.false_eq_true, Nat.reduceAdd, Nat.reduceEqDiff, ty_none_tuple, ty_none_list, ty_none_bool, ty_none_int, ty_none_str, ty_bool_tuple, ty_bool_list, ty_bool_bool, ty_bool_int, ty_bool_str, ty_int_tuple, ty_int_list, ty_int_bool, ty_int_int, ty_int_str, ty_str_tuple, ty_str_list, ty_str_bool, ty_str_int, ty_str_str, ty_list_tuple, ty_list_list, ty_list_bool, ty_list_int, ty_list_str, ty_tuple_tuple, ty_tuple_list, ty_tuple_bool, ty_tuple_int, ty_tuple_str, d_law_same, b_law_same]
theorem same_bool (n : Nat) (b : Bool) (B : Bx) : d_law_same (n + 1) [.dat (.bool b), .dat (.bool b)] B = some (.dat (.bool true), B) := by
  simp only [k_dC, k_var_ap, k_varO_ap, k_varV_ap, k_op, k_op1, k_op2, k_fin, k_tst, k_t1, k_t2, k_tF, k_opB, k_B, k_neg, k_neg1, k_andT, k_orT, k_notT, k_and1, k_and0, k_or1, k_or0, k_not1, k_tru, k_tru1, k_andV, k_orV, k_notV, k_andV1, k_andV0, k_orV1, k_orV0, k_notV1, k_if, k_if1, k_if0, k_ifD, k_nil, k_cons, k_cons1, k_cons2, k_nilA, k_consA, k_consA1, k_consA2, k_V, k_V1, k_F, k_F1, k_tup, k_tup1, k_lst, k_lst1, k_cl, k_cl1, k_clL, k_clL1, k_finL, k_isi, k_isi1, k_fn, k_fn1, k_dat, k_fnV, k_fnV1, k_seqI, k_seqI1, k_seqI2, k_rng1, k_rng1', k_rng2, k_rng2a, k_rng2b, k_enum, k_enum1, k_zip, k_zip1, k_zip2, k_P, k_P1, k_noP, k_sl, k_sl1, k_sl2, k_sl3, k_cmp, k_cmp1, k_yes, k_seq, k_seq1, k_seq2, k_seq3, k_seq4, k_next, k_brk, k_cont, k_retN, k_asg, k_asg1, k_asgV, k_asgV1, k_asgV2, k_asgV3, k_asgO, k_asgO1, k_asgG, k_asgG1, k_nx, k_gN, k_gT, k_gC, k_g1, k_g0, k_par, k_par1, k_par2, k_drop, k_drop1, k_ret, k_ret1, k_retV, k_retV1, k_ifS, k_ifS1, k_ifS0, k_ifSD, k_fz_ap, k_app, k_app1, k_for, k_for1, k_aug1, k_fun1, k_fun2, k_idx, k_idx1, k_idx2, k_lenC, k_lenC1, k_popC, k_bset, k_getC, k_getC1, k_getC2, k_at0, k_at1, k_at2, k_bg1, k_bg2, k_bs1, k_bs2, k_bc, k_pop1, sz0, sz1, sz2, sz3, sz4, sz5, sz6, k_fun, eqI, neI, addI, subI, ltI, leI, gtI, geI, truD, pyLen, pyAbs, pyMin2, pyMax2, pyInt, pyTuple, pyList, pyIx, pyIs, pyIsNot, isNon, nown, wipeD, Option.map_some, List.getElem?_cons_zero, List.getElem?_cons_succ, List.set_cons_zero, List.set_cons_succ, List.map_cons, List.map_nil, List.cons_append, List.nil_append, List.length_cons, List.length_nil, List.all_cons, List.all_nil, List.replicate_succ, List.replicate_zero, Bool.and_true, Bool.true_and, Bool.and_self, Bool.not_true, Bool.not_false, and_self, and_true, true_and, if_true, if_false, reduceIte, reduceCtorEq, decide_true, decide_false, Bool.false_eq_true, Nat.reduceAdd, Nat.reduceEqDiff, ty_none_tuple, ty_none_list, ty_none_bool, ty_none_int, ty_none_str, ty_bool_tuple, ty_bool_list, ty_bool_bool, ty_bool_int, ty_bool_str, ty_int_tuple, ty_int_list, ty_int_bool, ty_int_int, ty_int_str, ty_str_tuple, ty_str_list, ty_str_bool, ty_str_int, ty_str_str, ty_list_tuple, ty_list_list, ty_list_bool, ty_list_int, ty_list_str, ty_tuple_tuple, ty_tuple_list, ty_tuple_bool, ty_tuple_int, ty_tuple_str, d_law_same, b_law_same, eqB]
  rw [beq_self_eq_true]
theorem same_int (n : Nat) (b : Int) (B : Bx) : d_law_same (n + 1) [.dat (.int b), .dat (.int b)] B = some (.dat (.bool true), B) := by
  simp only [k_dC, k_var_ap, k_varO_ap, k_varV_ap, k_op, k_op1, k_op2, k_fin, k_tst, k_t1, k_t2, k_tF, k_opB, k_B, k_neg, k_neg1, k_andT, k_orT, k_notT, k_and1, k_and0, k_or1, k_or0, k_not1, k_tru, k_tru1, k_andV, k_orV, k_notV, k_andV1, k_andV0, k_orV1, k_orV0, k_notV1, k_if, k_if1, k_if0, k_ifD, k_nil, k_cons, k_cons1, k_cons2, k_nilA, k_consA, k_consA1, k_consA2, k_V, k_V1, k_F, k_F1, k_tup, k_tup1, k_lst, k_lst1, k_cl, k_cl1, k_clL, k_clL1, k_finL, k_isi, k_isi1, k_fn, k_fn1, k_dat, k_fnV, k_fnV1, k_seqI, k_seqI1, k_seqI2, k_rng1, k_rng1', k_rng2, k_rng2a, k_rng2b, k_enum, k_enum1, k_zip, k_zip1, k_zip2, k_P, k_P1, k_noP, k_sl, k_sl1, k_sl2, k_sl3, k_cmp, k_cmp1, k_yes, k_seq, k_seq1, k_seq2, k_seq3, k_seq4, k_next, k_brk, k_cont, k_retN, k_asg, k_asg1, k_asgV, k_asgV1, k_asgV2, k_asgV3, k_asgO, k_asgO1, k_asgG, k_asgG1, k_nx, k_gN, k_gT, k_gC, k_g1, k_g0, k_par, k_par1, k_par2, k_drop, k_drop1, k_ret, k_ret1, k_retV, k_retV1, k_ifS, k_ifS1, k_ifS0, k_ifSD, k_fz_ap, k_app, k_app1, k_for, k_for1, k_aug1, k_fun1, k_fun2, k_idx, k_idx1, k_idx2, k_lenC, k_lenC1, k_popC, k_bset, k_getC, k_getC1, k_getC2, k_at0, k_at1, k_at2, k_bg1, k_bg2, k_bs1, k_bs2, k_bc, k_pop1, sz0, sz1, sz2, sz3, sz4, sz5, sz6, k_fun, eqI, neI, addI, subI, ltI, leI, gtI, geI, truD, pyLen, pyAbs, pyMin2, pyMax2, pyInt, pyTuple, pyList, pyIx, pyIs, pyIsNot, isNon, nown, wipeD, Option.map_some, List.getElem?_cons_zero, List.getElem?_cons_succ, List.set_cons_zero, List.set_cons_succ, List.map_cons, List.map_nil, List.cons_append, List.nil_append, List.length_cons, List.length_nil, List.all_cons, List.all_nil, List.replicate_succ, List.replicate_zero, Bool.and_true, Bool.true_and, Bool.and_self, Bool.not_true, Bool.not_false, and_self, and_true, true_and, if_true, if_false, reduceIte, reduceCtorEq, decide_true, decide_false, Bool.false_eq_true, Nat.reduceAdd, Nat.reduceEqDiff, ty_none_tuple, ty_none_list, ty_none_bool, ty_none_int, ty_none_str, ty_bool_tuple, ty_bool_list, ty_bool_bool, ty_bool_int, ty_bool_str, ty_int_tuple, ty_int_list, ty_int_bool, ty_int_int, ty_int_str, ty_str_tuple, ty_str_list, ty_str_bool, ty_str_int, ty_str_str, ty_list_tuple, ty_list_list, ty_list_bool, ty_list_int, ty_list_str, ty_tuple_tuple, ty_tuple_list, ty_tuple_bool, ty_tuple_int, ty_tuple_str, d_law_same, b_law_same]
theorem bols_true (ys : List PyData) : bolsOf (ys.map fun _ => PyData.bool true) = some (ys.map fun _ => true) := by
  induction ys with
  | nil => rfl
  | cons y r ih => unfold bolsOf; simp only [List.map_cons]; rw [ih]; rfl
theorem all_trues (ys : List PyData) : pyAll [.list (ys.map fun _ => PyData.bool true)] = some (.bool true) := by
  have e : pyAll [.list (ys.map fun _ => PyData.bool true)] = (bolsOf (ys.map fun _ => PyData.bool true)).map fun ns => PyData.bool (ns.all id) := rfl
  rw [e, bols_true, Option.map_some, all_true]
theorem st_1 (n : Nat) (xs : List PyData) (B : Bx) (i : Nat) (hi : i < xs.length) (ih : d_law_same n [.dat xs[i], .dat xs[i]] B = some (.dat (.bool true), B)) : (dFn (d_law_same n) (dConsA (dV (dOp pyIx (dVarO 0) (dVarO 2))) (dConsA (dV (dOp pyIx (dVarO 1) (dVarO 2))) dNilA))) [some (.dat (.tuple xs)), some (.dat (.tuple xs)), some (.dat (.int (0 + i)))] B = some (.bool true, B) := by
    simp only [k_dC, k_var_ap, k_varO_ap, k_varV_ap, k_op, k_op1, k_op2, k_fin, k_tst, k_t1, k_t2, k_tF, k_opB, k_B, k_neg, k_neg1, k_andT, k_orT, k_notT, k_and1, k_and0, k_or1, k_or0, k_not1, k_tru, k_tru1, k_andV, k_orV, k_notV, k_andV1, k_andV0, k_orV1, k_orV0, k_notV1, k_if, k_if1, k_if0, k_ifD, k_nil, k_cons, k_cons1, k_cons2, k_nilA, k_consA, k_consA1, k_consA2, k_V, k_V1, k_F, k_F1, k_tup, k_tup1, k_lst, k_lst1, k_cl, k_cl1, k_clL, k_clL1, k_finL, k_isi, k_isi1, k_fn, k_fn1, k_dat, k_fnV, k_fnV1, k_seqI, k_seqI1, k_seqI2, k_rng1, k_rng1', k_rng2, k_rng2a, k_rng2b, k_enum, k_enum1, k_zip, k_zip1, k_zip2, k_P, k_P1, k_noP, k_sl, k_sl1, k_sl2, k_sl3, k_cmp, k_cmp1, k_yes, k_seq, k_seq1, k_seq2, k_seq3, k_seq4, k_next, k_brk, k_cont, k_retN, k_asg, k_asg1, k_asgV, k_asgV1, k_asgV2, k_asgV3, k_asgO, k_asgO1, k_asgG, k_asgG1, k_nx, k_gN, k_gT, k_gC, k_g1, k_g0, k_par, k_par1, k_par2, k_drop, k_drop1, k_ret, k_ret1, k_retV, k_retV1, k_ifS, k_ifS1, k_ifS0, k_ifSD, k_fz_ap, k_app, k_app1, k_for, k_for1, k_aug1, k_fun1, k_fun2, k_idx, k_idx1, k_idx2, k_lenC, k_lenC1, k_popC, k_bset, k_getC, k_getC1, k_getC2, k_at0, k_at1, k_at2, k_bg1, k_bg2, k_bs1, k_bs2, k_bc, k_pop1, sz0, sz1, sz2, sz3, sz4, sz5, sz6, k_fun, eqI, neI, addI, subI, ltI, leI, gtI, geI, truD, pyLen, pyAbs, pyMin2, pyMax2, pyInt, pyTuple, pyList, pyIx, pyIs, pyIsNot, isNon, nown, wipeD, Option.map_some, List.getElem?_cons_zero, List.getElem?_cons_succ, List.set_cons_zero, List.set_cons_succ, List.map_cons, List.map_nil, List.cons_append, List.nil_append, List.length_cons, List.length_nil, List.all_cons, List.all_nil, List.replicate_succ, List.replicate_zero, Bool.and_true, Bool.true_and, Bool.and_self, Bool.not_true, Bool.not_false, and_self, and_true, true_and, if_true, if_false, reduceIte, reduceCtorEq, decide_true, decide_false, Bool.false_eq_true, Nat.reduceAdd, Nat.reduceEqDiff, ty_none_tuple, ty_none_list, ty_none_bool, ty_none_int, ty_none_str, ty_bool_tuple, ty_bool_list, ty_bool_bool, ty_bool_int, ty_bool_str, ty_int_tuple, ty_int_list, ty_int_bool, ty_int_int, ty_int_str, ty_str_tuple, ty_str_list, ty_str_bool, ty_str_int, ty_str_str, ty_list_tuple, ty_list_list, ty_list_bool, ty_list_int, ty_list_str, ty_tuple_tuple, ty_tuple_list, ty_tuple_bool, ty_tuple_int, ty_tuple_str, Int.zero_add, at_nat hi, ih]
theorem st_2 (n : Nat) (xs : List PyData) (B : Bx) (ih : ∀ i, ∀ h : i < xs.length, d_law_same n [.dat xs[i], .dat xs[i]] B = some (.dat (.bool true), B)) : cmpGo (gN 2) dYes (dFn (d_law_same n) (dConsA (dV (dOp pyIx (dVarO 0) (dVarO 2))) (dConsA (dV (dOp pyIx (dVarO 1) (dVarO 2))) dNilA))) [some (.dat (.tuple xs)), some (.dat (.tuple xs)), none] (rngD 0 xs.length) B = some ((rngD 0 xs.length).map fun _ => .bool true, B) := by
    refine cmpGo_map _ _ fun x hx => ?_
    obtain ⟨i, hi, rfl⟩ := rngD_mem hx
    exact ⟨_, k_gN, st_1 n xs B i hi (ih i hi)⟩
theorem st_3 (xs : List PyData) (B : Bx) (hl : xs.length < 1000000) : dRng1 (dCl pyLen (dCons (dVarO 0) dNil)) [some (.dat (.tuple xs)), some (.dat (.tuple xs)), none] B = some (rngD 0 xs.length, B) := by
  have r1 := rng_ok hl
  simp only [k_dC, k_var_ap, k_varO_ap, k_varV_ap, k_op, k_op1, k_op2, k_fin, k_tst, k_t1, k_t2, k_tF, k_opB, k_B, k_neg, k_neg1, k_andT, k_orT, k_notT, k_and1, k_and0, k_or1, k_or0, k_not1, k_tru, k_tru1, k_andV, k_orV, k_notV, k_andV1, k_andV0, k_orV1, k_orV0, k_notV1, k_if, k_if1, k_if0, k_ifD, k_nil, k_cons, k_cons1, k_cons2, k_nilA, k_consA, k_consA1, k_consA2, k_V, k_V1, k_F, k_F1, k_tup, k_tup1, k_lst, k_lst1, k_cl, k_cl1, k_clL, k_clL1, k_finL, k_isi, k_isi1, k_fn, k_fn1, k_dat, k_fnV, k_fnV1, k_seqI, k_seqI1, k_seqI2, k_rng1, k_rng1', k_rng2, k_rng2a, k_rng2b, k_enum, k_enum1, k_zip, k_zip1, k_zip2, k_P, k_P1, k_noP, k_sl, k_sl1, k_sl2, k_sl3, k_cmp, k_cmp1, k_yes, k_seq, k_seq1, k_seq2, k_seq3, k_seq4, k_next, k_brk, k_cont, k_retN, k_asg, k_asg1, k_asgV, k_asgV1, k_asgV2, k_asgV3, k_asgO, k_asgO1, k_asgG, k_asgG1, k_nx, k_gN, k_gT, k_gC, k_g1, k_g0, k_par, k_par1, k_par2, k_drop, k_drop1, k_ret, k_ret1, k_retV, k_retV1, k_ifS, k_ifS1, k_ifS0, k_ifSD, k_fz_ap, k_app, k_app1, k_for, k_for1, k_aug1, k_fun1, k_fun2, k_idx, k_idx1, k_idx2, k_lenC, k_lenC1, k_popC, k_bset, k_getC, k_getC1, k_getC2, k_at0, k_at1, k_at2, k_bg1, k_bg2, k_bs1, k_bs2, k_bc, k_pop1, sz0, sz1, sz2, sz3, sz4, sz5, sz6, k_fun, eqI, neI, addI, subI, ltI, leI, gtI, geI, truD, pyLen, pyAbs, pyMin2, pyMax2, pyInt, pyTuple, pyList, pyIx, pyIs, pyIsNot, isNon, nown, wipeD, Option.map_some, List.getElem?_cons_zero, List.getElem?_cons_succ, List.set_cons_zero, List.set_cons_succ, List.map_cons, List.map_nil, List.cons_append, List.nil_append, List.length_cons, List.length_nil, List.all_cons, List.all_nil, List.replicate_succ, List.replicate_zero, Bool.and_true, Bool.true_and, Bool.and_self, Bool.not_true, Bool.not_false, and_self, and_true, true_and, if_true, if_false, reduceIte, reduceCtorEq, decide_true, decide_false, Bool.false_eq_true, Nat.reduceAdd, Nat.reduceEqDiff, ty_none_tuple, ty_none_list, ty_none_bool, ty_none_int, ty_none_str, ty_bool_tuple, ty_bool_list, ty_bool_bool, ty_bool_int, ty_bool_str, ty_int_tuple, ty_int_list, ty_int_bool, ty_int_int, ty_int_str, ty_str_tuple, ty_str_list, ty_str_bool, ty_str_int, ty_str_str, ty_list_tuple, ty_list_list, ty_list_bool, ty_list_int, ty_list_str, ty_tuple_tuple, ty_tuple_list, ty_tuple_bool, ty_tuple_int, ty_tuple_str, r1, Int.toNat_natCast]
theorem st_4 (n : Nat) (xs : List PyData) (B : Bx) (hl : xs.length < 1000000) (ih : ∀ i, ∀ h : i < xs.length, d_law_same n [.dat xs[i], .dat xs[i]] B = some (.dat (.bool true), B)) : dCmp (dRng1 (dCl pyLen (dCons (dVarO 0) dNil))) (gN 2) dYes (dFn (d_law_same n) (dConsA (dV (dOp pyIx (dVarO 0) (dVarO 2))) (dConsA (dV (dOp pyIx (dVarO 1) (dVarO 2))) dNilA))) [2] [some (.dat (.tuple xs)), some (.dat (.tuple xs)), none] B = some ((rngD 0 xs.length).map fun _ => PyData.bool true, B) := by
    rw [k_cmp, st_3 xs B hl, k_cmp1 (by rw [rngD_length]; exact szlt hl)]
    exact st_2 n xs B ih
theorem st_5 (xs : List PyData) (B : Bx) : dOpB pyEq (dCl pyLen (dCons (dVarO 0) dNil)) (dCl pyLen (dCons (dVarO 1) dNil)) [some (.dat (.tuple xs)), some (.dat (.tuple xs)), none] B = some (.bool true, B) := by
    simp only [k_dC, k_var_ap, k_varO_ap, k_varV_ap, k_op, k_op1, k_op2, k_fin, k_tst, k_t1, k_t2, k_tF, k_opB, k_B, k_neg, k_neg1, k_andT, k_orT, k_notT, k_and1, k_and0, k_or1, k_or0, k_not1, k_tru, k_tru1, k_andV, k_orV, k_notV, k_andV1, k_andV0, k_orV1, k_orV0, k_notV1, k_if, k_if1, k_if0, k_ifD, k_nil, k_cons, k_cons1, k_cons2, k_nilA, k_consA, k_consA1, k_consA2, k_V, k_V1, k_F, k_F1, k_tup, k_tup1, k_lst, k_lst1, k_cl, k_cl1, k_clL, k_clL1, k_finL, k_isi, k_isi1, k_fn, k_fn1, k_dat, k_fnV, k_fnV1, k_seqI, k_seqI1, k_seqI2, k_rng1, k_rng1', k_rng2, k_rng2a, k_rng2b, k_enum, k_enum1, k_zip, k_zip1, k_zip2, k_P, k_P1, k_noP, k_sl, k_sl1, k_sl2, k_sl3, k_cmp, k_cmp1, k_yes, k_seq, k_seq1, k_seq2, k_seq3, k_seq4, k_next, k_brk, k_cont, k_retN, k_asg, k_asg1, k_asgV, k_asgV1, k_asgV2, k_asgV3, k_asgO, k_asgO1, k_asgG, k_asgG1, k_nx, k_gN, k_gT, k_gC, k_g1, k_g0, k_par, k_par1, k_par2, k_drop, k_drop1, k_ret, k_ret1, k_retV, k_retV1, k_ifS, k_ifS1, k_ifS0, k_ifSD, k_fz_ap, k_app, k_app1, k_for, k_for1, k_aug1, k_fun1, k_fun2, k_idx, k_idx1, k_idx2, k_lenC, k_lenC1, k_popC, k_bset, k_getC, k_getC1, k_getC2, k_at0, k_at1, k_at2, k_bg1, k_bg2, k_bs1, k_bs2, k_bc, k_pop1, sz0, sz1, sz2, sz3, sz4, sz5, sz6, k_fun, eqI, neI, addI, subI, ltI, leI, gtI, geI, truD, pyLen, pyAbs, pyMin2, pyMax2, pyInt, pyTuple, pyList, pyIx, pyIs, pyIsNot, isNon, nown, wipeD, Option.map_some, List.getElem?_cons_zero, List.getElem?_cons_succ, List.set_cons_zero, List.set_cons_succ, List.map_cons, List.map_nil, List.cons_append, List.nil_append, List.length_cons, List.length_nil, List.all_cons, List.all_nil, List.replicate_succ, List.replicate_zero, Bool.and_true, Bool.true_and, Bool.and_self, Bool.not_true, Bool.not_false, and_self, and_true, true_and, if_true, if_false, reduceIte, reduceCtorEq, decide_true, decide_false, Bool.false_eq_true, Nat.reduceAdd, Nat.reduceEqDiff, ty_none_tuple, ty_none_list, ty_none_bool, ty_none_int, ty_none_str, ty_bool_tuple, ty_bool_list, ty_bool_bool, ty_bool_int, ty_bool_str, ty_int_tuple, ty_int_list, ty_int_bool, ty_int_int, ty_int_str, ty_str_tuple, ty_str_list, ty_str_bool, ty_str_int, ty_str_str, ty_list_tuple, ty_list_list, ty_list_bool, ty_list_int, ty_list_str, ty_tuple_tuple, ty_tuple_list, ty_tuple_bool, ty_tuple_int, ty_tuple_str]
theorem st_6 (F : DL) (G : DE) (L xs : List PyData) (B : Bx) (q4 : G [some (.dat (.tuple xs)), some (.dat (.tuple xs)), none] B = some (.bool true, B)) (q2 : F [some (.dat (.tuple xs)), some (.dat (.tuple xs)), none] B = some (L, B)) (r3 : pyAll [.list L] = some (.bool true)) : dAndV G (dCl pyAll (dCons (dF F) dNil)) [some (.dat (.tuple xs)), some (.dat (.tuple xs)), none] B = some (.bool true, B) := by
  simp only [k_dC, k_var_ap, k_varO_ap, k_varV_ap, k_op, k_op1, k_op2, k_fin, k_tst, k_t1, k_t2, k_tF, k_opB, k_B, k_neg, k_neg1, k_andT, k_orT, k_notT, k_and1, k_and0, k_or1, k_or0, k_not1, k_tru, k_tru1, k_andV, k_orV, k_notV, k_andV1, k_andV0, k_orV1, k_orV0, k_notV1, k_if, k_if1, k_if0, k_ifD, k_nil, k_cons, k_cons1, k_cons2, k_nilA, k_consA, k_consA1, k_consA2, k_V, k_V1, k_F, k_F1, k_tup, k_tup1, k_lst, k_lst1, k_cl, k_cl1, k_clL, k_clL1, k_finL, k_isi, k_isi1, k_fn, k_fn1, k_dat, k_fnV, k_fnV1, k_seqI, k_seqI1, k_seqI2, k_rng1, k_rng1', k_rng2, k_rng2a, k_rng2b, k_enum, k_enum1, k_zip, k_zip1, k_zip2, k_P, k_P1, k_noP, k_sl, k_sl1, k_sl2, k_sl3, k_cmp, k_cmp1, k_yes, k_seq, k_seq1, k_seq2, k_seq3, k_seq4, k_next, k_brk, k_cont, k_retN, k_asg, k_asg1, k_asgV, k_asgV1, k_asgV2, k_asgV3, k_asgO, k_asgO1, k_asgG, k_asgG1, k_nx, k_gN, k_gT, k_gC, k_g1, k_g0, k_par, k_par1, k_par2, k_drop, k_drop1, k_ret, k_ret1, k_retV, k_retV1, k_ifS, k_ifS1, k_ifS0, k_ifSD, k_fz_ap, k_app, k_app1, k_for, k_for1, k_aug1, k_fun1, k_fun2, k_idx, k_idx1, k_idx2, k_lenC, k_lenC1, k_popC, k_bset, k_getC, k_getC1, k_getC2, k_at0, k_at1, k_at2, k_bg1, k_bg2, k_bs1, k_bs2, k_bc, k_pop1, sz0, sz1, sz2, sz3, sz4, sz5, sz6, k_fun, eqI, neI, addI, subI, ltI, leI, gtI, geI, truD, isTy, tyName, pyLen, pyAbs, pyMin2, pyMax2, pyInt, pyTuple, pyList, pyIx, pyIs, pyIsNot, isNon, nown, wipeD, Option.map_some, List.getElem?_cons_zero, List.getElem?_cons_succ, List.set_cons_zero, List.set_cons_succ, List.map_cons, List.map_nil, List.cons_append, List.nil_append, List.length_cons, List.length_nil, List.all_cons, List.all_nil, List.replicate_succ, List.replicate_zero, Bool.and_true, Bool.true_and, Bool.and_self, Bool.not_true, Bool.not_false, and_self, and_true, true_and, if_true, if_false, reduceIte, reduceCtorEq, decide_true, decide_false, Bool.false_eq_true, Nat.reduceAdd, Nat.reduceEqDiff, q4, q2, r3]
theorem same_tuple (n : Nat) (xs : List PyData) (B : Bx) (hl : xs.length < 1000000) (ih : ∀ i, ∀ h : i < xs.length, d_law_same n [.dat xs[i], .dat xs[i]] B = some (.dat (.bool true), B)) : d_law_same (n + 1) [.dat (.tuple xs), .dat (.tuple xs)] B = some (.dat (.bool true), B) := by
  have q5 := st_6 _ _ _ xs B (st_5 xs B) (st_4 n xs B hl ih) (all_trues (rngD 0 xs.length))
  rw [d_law_same, b_law_same]
  generalize dAndV _ _ = G at q5 ⊢
  simp only [k_dC, k_var_ap, k_varO_ap, k_varV_ap, k_op, k_op1, k_op2, k_fin, k_tst, k_t1, k_t2, k_tF, k_opB, k_B, k_neg, k_neg1, k_andT, k_orT, k_notT, k_and1, k_and0, k_or1, k_or0, k_not1, k_tru, k_tru1, k_andV, k_orV, k_notV, k_andV1, k_andV0, k_orV1, k_orV0, k_notV1, k_if, k_if1, k_if0, k_ifD, k_nil, k_cons, k_cons1, k_cons2, k_nilA, k_consA, k_consA1, k_consA2, k_V, k_V1, k_F, k_F1, k_tup, k_tup1, k_lst, k_lst1, k_cl, k_cl1, k_clL, k_clL1, k_finL, k_isi, k_isi1, k_fn, k_fn1, k_dat, k_fnV, k_fnV1, k_seqI, k_seqI1, k_seqI2, k_rng1, k_rng1', k_rng2, k_rng2a, k_rng2b, k_enum, k_enum1, k_zip, k_zip1, k_zip2, k_P, k_P1, k_noP, k_sl, k_sl1, k_sl2, k_sl3, k_cmp, k_cmp1, k_yes, k_seq, k_seq1, k_seq2, k_seq3, k_seq4, k_next, k_brk, k_cont, k_retN, k_asg, k_asg1, k_asgV, k_asgV1, k_asgV2, k_asgV3, k_asgO, k_asgO1, k_asgG, k_asgG1, k_nx, k_gN, k_gT, k_gC, k_g1, k_g0, k_par, k_par1, k_par2, k_drop, k_drop1, k_ret, k_ret1, k_retV, k_retV1, k_ifS, k_ifS1, k_ifS0, k_ifSD, k_fz_ap, k_app, k_app1, k_for, k_for1, k_aug1, k_fun1, k_fun2, k_idx, k_idx1, k_idx2, k_lenC, k_lenC1, k_popC, k_bset, k_getC, k_getC1, k_getC2, k_at0, k_at1, k_at2, k_bg1, k_bg2, k_bs1, k_bs2, k_bc, k_pop1, sz0, sz1, sz2, sz3, sz4, sz5, sz6, k_fun, eqI, neI, addI, subI, ltI, leI, gtI, geI, truD, pyLen, pyAbs, pyMin2, pyMax2, pyInt, pyTuple, pyList, pyIx, pyIs, pyIsNot, isNon, nown, wipeD, Option.map_some, List.getElem?_cons_zero, List.getElem?_cons_succ, List.set_cons_zero, List.set_cons_succ, List.map_cons, List.map_nil, List.cons_append, List.nil_append, List.length_cons, List.length_nil, List.all_cons, List.all_nil, List.replicate_succ, List.replicate_zero, Bool.and_true, Bool.true_and, Bool.and_self, Bool.not_true, Bool.not_false, and_self, and_true, true_and, if_true, if_false, reduceIte, reduceCtorEq, decide_true, decide_false, Bool.false_eq_true, Nat.reduceAdd, Nat.reduceEqDiff, ty_none_tuple, ty_none_list, ty_none_bool, ty_none_int, ty_none_str, ty_bool_tuple, ty_bool_list, ty_bool_bool, ty_bool_int, ty_bool_str, ty_int_tuple, ty_int_list, ty_int_bool, ty_int_int, ty_int_str, ty_str_tuple, ty_str_list, ty_str_bool, ty_str_int, ty_str_str, ty_list_tuple, ty_list_list, ty_list_bool, ty_list_int, ty_list_str, ty_tuple_tuple, ty_tuple_list, ty_tuple_bool, ty_tuple_int, ty_tuple_str, q5]
theorem sp_same : ∀ (n : Nat) (d : PyData) (B : Bx), dep d < n → pln d = true → d_law_same n [.dat d, .dat d] B = some (.dat (.bool true), B) := by
  intro n
  induction n with
  | zero => intro d B h; exact absurd h (Nat.not_lt_zero _)
  | succ n ih =>
    intro d B h hp
    cases d with
    | none => exact same_nil n B
    | bool b => exact same_bool n b B
    | int b => exact same_int n b B
    | tuple xs =>
      unfold pln at hp
      rw [Bool.and_eq_true, decide_eq_true_eq] at hp
      unfold dep at h
      exact same_tuple n xs B (by omega) fun i hi => ih xs[i] B (Nat.lt_of_le_of_lt (dep_mem _ (List.getElem_mem hi)) (by omega)) (pln_mem hp.2 _ (List.getElem_mem hi))
    | str _ => cases hp
    | list _ => cases hp
    | dict _ => cases hp
end Dn

set_option Elab.async false
set_option linter.all false
set_option autoImplicit false
set_option maxRecDepth 100000
set_option maxHeartbeats 4000000
namespace Dn
open PySem
theorem em_nn (a : Int) {b : Int} (h : 0 < b) : 0 ≤ a % b ∧ a % b < b := ⟨Int.emod_nonneg a (by omega), Int.emod_lt_of_pos a h⟩
theorem load_tail (B1 : Bx) (cs : List Int) (x y : Int) (a b c : Option Sv) (h : 0 ≤ y) : ∃ r y', 0 ≤ r ∧ 0 ≤ y' ∧
  (dSeq (dAsg 4 (dOp pyMod (dCl pyInt (dCons (dOp pyAdd (dOp pyMul (dBget 0 2) (dC (.int 48271))) (dC (.int 17))) dNil)) (dC (.int 2147483629))))
  (dSeq (dAsg 5 (dOp pyMod (dCl pyInt (dCons (dOp pyAdd (dOp pyMul (dVarO 4) (dC (.int 69621))) (dC (.int 5))) dNil)) (dC (.int 2147483587))))
  (dSeq (dBset 0 2 (dOp pyMod (dCl pyInt (dCons (dOp pyAdd (dOp pyMul (dVarO 5) (dC (.int 40692))) (dC (.int 3))) dNil)) (dC (.int 2147483563))))
  (dRet (dOp pyAdd (dOp pyAdd (dOp pyMul (dVarO 4) (dC (.int 4611686014132420609))) (dOp pyMul (dVarO 5) (dC (.int 2147483647)))) (dBget 0 2)))))) [some .box, a, b, c, none, none] ⟨cs, [x, y], true⟩ = some (.rt (.dat (.int r)) ⟨cs, [x, y'], true⟩) := by
  have h1 := em_nn (y * 48271 + 17) (b := 2147483629) (by decide)
  generalize e1 : (y * 48271 + 17) % 2147483629 = g1 at *
  have h2 := em_nn (g1 * 69621 + 5) (b := 2147483587) (by decide)
  generalize e2 : (g1 * 69621 + 5) % 2147483587 = g2 at *
  have h3 := em_nn (g2 * 40692 + 3) (b := 2147483563) (by decide)
  generalize e3 : (g2 * 40692 + 3) % 2147483563 = g3 at *
  refine ⟨g1 * 4611686014132420609 + g2 * 2147483647 + g3, g3, by omega, h3.1, ?_⟩
  simp only [k_dC, k_var_ap, k_varO_ap, k_varV_ap, k_op, k_op1, k_op2, k_fin, k_tst, k_t1, k_t2, k_tF, k_opB, k_B, k_neg, k_neg1, k_andT, k_orT, k_notT, k_and1, k_and0, k_or1, k_or0, k_not1, k_tru, k_tru1, k_andV, k_orV, k_notV, k_andV1, k_andV0, k_orV1, k_orV0, k_notV1, k_if, k_if1, k_if0, k_ifD, k_nil, k_cons, k_cons1, k_cons2, k_nilA, k_consA, k_consA1, k_consA2, k_V, k_V1, k_F, k_F1, k_tup, k_tup1, k_lst, k_lst1, k_cl, k_cl1, k_clL, k_clL1, k_finL, k_isi, k_isi1, k_fn, k_fn1, k_dat, k_fnV, k_fnV1, k_seqI, k_seqI1, k_seqI2, k_rng1, k_rng1', k_rng2, k_rng2a, k_rng2b, k_enum, k_enum1, k_zip, k_zip1, k_zip2, k_P, k_P1, k_noP, k_sl, k_sl1, k_sl2, k_sl3, k_cmp, k_cmp1, k_yes, k_seq, k_seq1, k_seq2, k_seq3, k_seq4, k_next, k_brk, k_cont, k_retN, k_asg, k_asg1, k_asgV, k_asgV1, k_asgV2, k_asgV3, k_asgO, k_asgO1, k_asgG, k_asgG1, k_nx, k_gN, k_gT, k_gC, k_g1, k_g0, k_par, k_par1, k_par2, k_drop, k_drop1, k_ret, k_ret1, k_retV, k_retV1, k_ifS, k_ifS1, k_ifS0, k_ifSD, k_fz_ap, k_app, k_app1, k_for, k_for1, k_aug1, k_fun1, k_fun2, k_idx, k_idx1, k_idx2, k_lenC, k_lenC1, k_popC, k_bset, k_getC, k_getC1, k_getC2, k_at0, k_at1, k_at2, k_bg1, k_bg2, k_bs1, k_bs2, k_bc, k_pop1, sz0, sz1, sz2, sz3, sz4, sz5, sz6, k_fun, eqI, neI, addI, subI, ltI, leI, gtI, geI, truD, isTy, tyName, pyLen, pyAbs, pyMin2, pyMax2, pyInt, pyTuple, pyList, pyIx, pyIs, pyIsNot, isNon, nown, wipeD, Option.map_some, List.getElem?_cons_zero, List.getElem?_cons_succ, List.set_cons_zero, List.set_cons_succ, List.map_cons, List.map_nil, List.cons_append, List.nil_append, List.length_cons, List.length_nil, List.all_cons, List.all_nil, List.replicate_succ, List.replicate_zero, Bool.and_true, Bool.true_and, Bool.and_self, Bool.not_true, Bool.not_false, and_self, and_true, true_and, if_true, if_false, reduceIte, reduceCtorEq, decide_true, decide_false, Bool.false_eq_true, Nat.reduceAdd, Nat.reduceEqDiff, mulI (mulOk_r (j := 48271) (by decide) (by decide)), mulI (mulOk_r (j := 69621) (by decide) (by decide)), mulI (mulOk_r (j := 40692) (by decide) (by decide)), mulI (mulOk_r (j := 4611686014132420609) (by decide) (by decide)), mulI (mulOk_r (j := 2147483647) (by decide) (by decide)), modI (j := 2147483629) (by decide), modI (j := 2147483587) (by decide), modI (j := 2147483563) (by decide), e1, e2, e3]
theorem sp_load (cs : List Int) (x y : Int) (h : 0 ≤ y) : ∃ r cs' y', 0 ≤ r ∧ 0 ≤ y' ∧ d_law_load [.box] ⟨cs, [x, y], true⟩ = some (.dat (.int r), ⟨cs', [x, y'], true⟩) := by
  cases cs with
  | nil =>
    obtain ⟨r, y', h1, h2, e⟩ := load_tail ⟨[], [x, y], true⟩ [] x y (some .cells) none none h
    refine ⟨r, [], y', h1, h2, ?_⟩
    rw [d_law_load, b_law_load]
    generalize dSeq (dAsg 4 _) _ = T at e ⊢
    have hz : (0 < ((0 : Nat) : Int)) = False := eq_false (by decide)
    simp only [k_dC, k_var_ap, k_varO_ap, k_varV_ap, k_op, k_op1, k_op2, k_fin, k_tst, k_t1, k_t2, k_tF, k_opB, k_B, k_neg, k_neg1, k_andT, k_orT, k_notT, k_and1, k_and0, k_or1, k_or0, k_not1, k_tru, k_tru1, k_andV, k_orV, k_notV, k_andV1, k_andV0, k_orV1, k_orV0, k_notV1, k_if, k_if1, k_if0, k_ifD, k_nil, k_cons, k_cons1, k_cons2, k_nilA, k_consA, k_consA1, k_consA2, k_V, k_V1, k_F, k_F1, k_tup, k_tup1, k_lst, k_lst1, k_cl, k_cl1, k_clL, k_clL1, k_finL, k_isi, k_isi1, k_fn, k_fn1, k_dat, k_fnV, k_fnV1, k_seqI, k_seqI1, k_seqI2, k_rng1, k_rng1', k_rng2, k_rng2a, k_rng2b, k_enum, k_enum1, k_zip, k_zip1, k_zip2, k_P, k_P1, k_noP, k_sl, k_sl1, k_sl2, k_sl3, k_cmp, k_cmp1, k_yes, k_seq, k_seq1, k_seq2, k_seq3, k_seq4, k_next, k_brk, k_cont, k_retN, k_asg, k_asg1, k_asgV, k_asgV1, k_asgV2, k_asgV3, k_asgO, k_asgO1, k_asgG, k_asgG1, k_nx, k_gN, k_gT, k_gC, k_g1, k_g0, k_par, k_par1, k_par2, k_drop, k_drop1, k_ret, k_ret1, k_retV, k_retV1, k_ifS, k_ifS1, k_ifS0, k_ifSD, k_fz_ap, k_app, k_app1, k_for, k_for1, k_aug1, k_fun1, k_fun2, k_idx, k_idx1, k_idx2, k_lenC, k_lenC1, k_popC, k_bset, k_getC, k_getC1, k_getC2, k_at0, k_at1, k_at2, k_bg1, k_bg2, k_bs1, k_bs2, k_bc, k_pop1, sz0, sz1, sz2, sz3, sz4, sz5, sz6, k_fun, eqI, neI, addI, subI, ltI, leI, gtI, geI, truD, isTy, tyName, pyLen, pyAbs, pyMin2, pyMax2, pyInt, pyTuple, pyList, pyIx, pyIs, pyIsNot, isNon, nown, wipeD, Option.map_some, List.getElem?_cons_zero, List.getElem?_cons_succ, List.set_cons_zero, List.set_cons_succ, List.map_cons, List.map_nil, List.cons_append, List.nil_append, List.length_cons, List.length_nil, List.all_cons, List.all_nil, List.replicate_succ, List.replicate_zero, Bool.and_true, Bool.true_and, Bool.and_self, Bool.not_true, Bool.not_false, and_self, and_true, true_and, if_true, if_false, reduceIte, reduceCtorEq, decide_true, decide_false, Bool.false_eq_true, Nat.reduceAdd, Nat.reduceEqDiff, e, hz]
  | cons c cs =>
    by_cases hc : 0 ≤ c
    · by_cases hb : 1000000000000000000 ≤ 2 * c
      · refine ⟨2 * c, cs, y, by omega, h, ?_⟩
        have hc' : (0 ≤ c) = True := eq_true (by omega)
        have hb' : (1000000000000000000 ≤ 2 * c) = True := eq_true (by omega)
        have hp : (0 < ((cs.length + 1 : Nat) : Int)) = True := eq_true (by omega)
        simp only [k_dC, k_var_ap, k_varO_ap, k_varV_ap, k_op, k_op1, k_op2, k_fin, k_tst, k_t1, k_t2, k_tF, k_opB, k_B, k_neg, k_neg1, k_andT, k_orT, k_notT, k_and1, k_and0, k_or1, k_or0, k_not1, k_tru, k_tru1, k_andV, k_orV, k_notV, k_andV1, k_andV0, k_orV1, k_orV0, k_notV1, k_if, k_if1, k_if0, k_ifD, k_nil, k_cons, k_cons1, k_cons2, k_nilA, k_consA, k_consA1, k_consA2, k_V, k_V1, k_F, k_F1, k_tup, k_tup1, k_lst, k_lst1, k_cl, k_cl1, k_clL, k_clL1, k_finL, k_isi, k_isi1, k_fn, k_fn1, k_dat, k_fnV, k_fnV1, k_seqI, k_seqI1, k_seqI2, k_rng1, k_rng1', k_rng2, k_rng2a, k_rng2b, k_enum, k_enum1, k_zip, k_zip1, k_zip2, k_P, k_P1, k_noP, k_sl, k_sl1, k_sl2, k_sl3, k_cmp, k_cmp1, k_yes, k_seq, k_seq1, k_seq2, k_seq3, k_seq4, k_next, k_brk, k_cont, k_retN, k_asg, k_asg1, k_asgV, k_asgV1, k_asgV2, k_asgV3, k_asgO, k_asgO1, k_asgG, k_asgG1, k_nx, k_gN, k_gT, k_gC, k_g1, k_g0, k_par, k_par1, k_par2, k_drop, k_drop1, k_ret, k_ret1, k_retV, k_retV1, k_ifS, k_ifS1, k_ifS0, k_ifSD, k_fz_ap, k_app, k_app1, k_for, k_for1, k_aug1, k_fun1, k_fun2, k_idx, k_idx1, k_idx2, k_lenC, k_lenC1, k_popC, k_bset, k_getC, k_getC1, k_getC2, k_at0, k_at1, k_at2, k_bg1, k_bg2, k_bs1, k_bs2, k_bc, k_pop1, sz0, sz1, sz2, sz3, sz4, sz5, sz6, k_fun, eqI, neI, addI, subI, ltI, leI, gtI, geI, truD, isTy, tyName, pyLen, pyAbs, pyMin2, pyMax2, pyInt, pyTuple, pyList, pyIx, pyIs, pyIsNot, isNon, nown, wipeD, Option.map_some, List.getElem?_cons_zero, List.getElem?_cons_succ, List.set_cons_zero, List.set_cons_succ, List.map_cons, List.map_nil, List.cons_append, List.nil_append, List.length_cons, List.length_nil, List.all_cons, List.all_nil, List.replicate_succ, List.replicate_zero, Bool.and_true, Bool.true_and, Bool.and_self, Bool.not_true, Bool.not_false, and_self, and_true, true_and, if_true, if_false, reduceIte, reduceCtorEq, decide_true, decide_false, Bool.false_eq_true, Nat.reduceAdd, Nat.reduceEqDiff, d_law_load, b_law_load, hc', hb', hp, mulI (mulOk_l (i := 2) (by decide) (by decide)), mulI (mulOk_l (i := -2) (by decide) (by decide))]
      · obtain ⟨r, y', h1, h2, e⟩ := load_tail ⟨[], [x, y], true⟩ cs x ((y * 69621 + (2 * c) * 48271 + 11) % 2147483647) (some .cells) (some (.dat (.int c))) (some (.dat (.int (2 * c)))) (em_nn _ (by decide)).1
        refine ⟨r, cs, y', h1, h2, ?_⟩
        have hc' : (0 ≤ c) = True := eq_true (by omega)
        have hb' : (1000000000000000000 ≤ 2 * c) = False := eq_false (by omega)
        have hp : (0 < ((cs.length + 1 : Nat) : Int)) = True := eq_true (by omega)
        rw [d_law_load, b_law_load]
        generalize dSeq (dAsg 4 _) _ = T at e ⊢
        simp only [k_dC, k_var_ap, k_varO_ap, k_varV_ap, k_op, k_op1, k_op2, k_fin, k_tst, k_t1, k_t2, k_tF, k_opB, k_B, k_neg, k_neg1, k_andT, k_orT, k_notT, k_and1, k_and0, k_or1, k_or0, k_not1, k_tru, k_tru1, k_andV, k_orV, k_notV, k_andV1, k_andV0, k_orV1, k_orV0, k_notV1, k_if, k_if1, k_if0, k_ifD, k_nil, k_cons, k_cons1, k_cons2, k_nilA, k_consA, k_consA1, k_consA2, k_V, k_V1, k_F, k_F1, k_tup, k_tup1, k_lst, k_lst1, k_cl, k_cl1, k_clL, k_clL1, k_finL, k_isi, k_isi1, k_fn, k_fn1, k_dat, k_fnV, k_fnV1, k_seqI, k_seqI1, k_seqI2, k_rng1, k_rng1', k_rng2, k_rng2a, k_rng2b, k_enum, k_enum1, k_zip, k_zip1, k_zip2, k_P, k_P1, k_noP, k_sl, k_sl1, k_sl2, k_sl3, k_cmp, k_cmp1, k_yes, k_seq, k_seq1, k_seq2, k_seq3, k_seq4, k_next, k_brk, k_cont, k_retN, k_asg, k_asg1, k_asgV, k_asgV1, k_asgV2, k_asgV3, k_asgO, k_asgO1, k_asgG, k_asgG1, k_nx, k_gN, k_gT, k_gC, k_g1, k_g0, k_par, k_par1, k_par2, k_drop, k_drop1, k_ret, k_ret1, k_retV, k_retV1, k_ifS, k_ifS1, k_ifS0, k_ifSD, k_fz_ap, k_app, k_app1, k_for, k_for1, k_aug1, k_fun1, k_fun2, k_idx, k_idx1, k_idx2, k_lenC, k_lenC1, k_popC, k_bset, k_getC, k_getC1, k_getC2, k_at0, k_at1, k_at2, k_bg1, k_bg2, k_bs1, k_bs2, k_bc, k_pop1, sz0, sz1, sz2, sz3, sz4, sz5, sz6, k_fun, eqI, neI, addI, subI, ltI, leI, gtI, geI, truD, isTy, tyName, pyLen, pyAbs, pyMin2, pyMax2, pyInt, pyTuple, pyList, pyIx, pyIs, pyIsNot, isNon, nown, wipeD, Option.map_some, List.getElem?_cons_zero, List.getElem?_cons_succ, List.set_cons_zero, List.set_cons_succ, List.map_cons, List.map_nil, List.cons_append, List.nil_append, List.length_cons, List.length_nil, List.all_cons, List.all_nil, List.replicate_succ, List.replicate_zero, Bool.and_true, Bool.true_and, Bool.and_self, Bool.not_true, Bool.not_false, and_self, and_true, true_and, if_true, if_false, reduceIte, reduceCtorEq, decide_true, decide_false, Bool.false_eq_true, Nat.reduceAdd, Nat.reduceEqDiff, e, hc', hb', hp, mulI (mulOk_l (i := 2) (by decide) (by decide)), mulI (mulOk_l (i := -2) (by decide) (by decide)), mulI (mulOk_r (j := 69621) (by decide) (by decide)), mulI (mulOk_r (j := 48271) (by decide) (by decide)), modI (j := 2147483647) (by decide)]
    · by_cases hb : 1000000000000000000 ≤ -2 * c - 1
      · refine ⟨-2 * c - 1, cs, y, by omega, h, ?_⟩
        have hc' : (0 ≤ c) = False := eq_false (by omega)
        have hb' : (1000000000000000000 ≤ -2 * c - 1) = True := eq_true (by omega)
        have hp : (0 < ((cs.length + 1 : Nat) : Int)) = True := eq_true (by omega)
        simp only [k_dC, k_var_ap, k_varO_ap, k_varV_ap, k_op, k_op1, k_op2, k_fin, k_tst, k_t1, k_t2, k_tF, k_opB, k_B, k_neg, k_neg1, k_andT, k_orT, k_notT, k_and1, k_and0, k_or1, k_or0, k_not1, k_tru, k_tru1, k_andV, k_orV, k_notV, k_andV1, k_andV0, k_orV1, k_orV0, k_notV1, k_if, k_if1, k_if0, k_ifD, k_nil, k_cons, k_cons1, k_cons2, k_nilA, k_consA, k_consA1, k_consA2, k_V, k_V1, k_F, k_F1, k_tup, k_tup1, k_lst, k_lst1, k_cl, k_cl1, k_clL, k_clL1, k_finL, k_isi, k_isi1, k_fn, k_fn1, k_dat, k_fnV, k_fnV1, k_seqI, k_seqI1, k_seqI2, k_rng1, k_rng1', k_rng2, k_rng2a, k_rng2b, k_enum, k_enum1, k_zip, k_zip1, k_zip2, k_P, k_P1, k_noP, k_sl, k_sl1, k_sl2, k_sl3, k_cmp, k_cmp1, k_yes, k_seq, k_seq1, k_seq2, k_seq3, k_seq4, k_next, k_brk, k_cont, k_retN, k_asg, k_asg1, k_asgV, k_asgV1, k_asgV2, k_asgV3, k_asgO, k_asgO1, k_asgG, k_asgG1, k_nx, k_gN, k_gT, k_gC, k_g1, k_g0, k_par, k_par1, k_par2, k_drop, k_drop1, k_ret, k_ret1, k_retV, k_retV1, k_ifS, k_ifS1, k_ifS0, k_ifSD, k_fz_ap, k_app, k_app1, k_for, k_for1, k_aug1, k_fun1, k_fun2, k_idx, k_idx1, k_idx2, k_lenC, k_lenC1, k_popC, k_bset, k_getC, k_getC1, k_getC2, k_at0, k_at1, k_at2, k_bg1, k_bg2, k_bs1, k_bs2, k_bc, k_pop1, sz0, sz1, sz2, sz3, sz4, sz5, sz6, k_fun, eqI, neI, addI, subI, ltI, leI, gtI, geI, truD, isTy, tyName, pyLen, pyAbs, pyMin2, pyMax2, pyInt, pyTuple, pyList, pyIx, pyIs, pyIsNot, isNon, nown, wipeD, Option.map_some, List.getElem?_cons_zero, List.getElem?_cons_succ, List.set_cons_zero, List.set_cons_succ, List.map_cons, List.map_nil, List.cons_append, List.nil_append, List.length_cons, List.length_nil, List.all_cons, List.all_nil, List.replicate_succ, List.replicate_zero, Bool.and_true, Bool.true_and, Bool.and_self, Bool.not_true, Bool.not_false, and_self, and_true, true_and, if_true, if_false, reduceIte, reduceCtorEq, decide_true, decide_false, Bool.false_eq_true, Nat.reduceAdd, Nat.reduceEqDiff, d_law_load, b_law_load, hc', hb', hp, mulI (mulOk_l (i := 2) (by decide) (by decide)), mulI (mulOk_l (i := -2) (by decide) (by decide))]
      · obtain ⟨r, y', h1, h2, e⟩ := load_tail ⟨[], [x, y], true⟩ cs x ((y * 69621 + (-2 * c - 1) * 48271 + 11) % 2147483647) (some .cells) (some (.dat (.int c))) (some (.dat (.int (-2 * c - 1)))) (em_nn _ (by decide)).1
        refine ⟨r, cs, y', h1, h2, ?_⟩
        have hc' : (0 ≤ c) = False := eq_false (by omega)
        have hb' : (1000000000000000000 ≤ -2 * c - 1) = False := eq_false (by omega)
        have hp : (0 < ((cs.length + 1 : Nat) : Int)) = True := eq_true (by omega)
        rw [d_law_load, b_law_load]
        generalize dSeq (dAsg 4 _) _ = T at e ⊢
        simp only [k_dC, k_var_ap, k_varO_ap, k_varV_ap, k_op, k_op1, k_op2, k_fin, k_tst, k_t1, k_t2, k_tF, k_opB, k_B, k_neg, k_neg1, k_andT, k_orT, k_notT, k_and1, k_and0, k_or1, k_or0, k_not1, k_tru, k_tru1, k_andV, k_orV, k_notV, k_andV1, k_andV0, k_orV1, k_orV0, k_notV1, k_if, k_if1, k_if0, k_ifD, k_nil, k_cons, k_cons1, k_cons2, k_nilA, k_consA, k_consA1, k_consA2, k_V, k_V1, k_F, k_F1, k_tup, k_tup1, k_lst, k_lst1, k_cl, k_cl1, k_clL, k_clL1, k_finL, k_isi, k_isi1, k_fn, k_fn1, k_dat, k_fnV, k_fnV1, k_seqI, k_seqI1, k_seqI2, k_rng1, k_rng1', k_rng2, k_rng2a, k_rng2b, k_enum, k_enum1, k_zip, k_zip1, k_zip2, k_P, k_P1, k_noP, k_sl, k_sl1, k_sl2, k_sl3, k_cmp, k_cmp1, k_yes, k_seq, k_seq1, k_seq2, k_seq3, k_seq4, k_next, k_brk, k_cont, k_retN, k_asg, k_asg1, k_asgV, k_asgV1, k_asgV2, k_asgV3, k_asgO, k_asgO1, k_asgG, k_asgG1, k_nx, k_gN, k_gT, k_gC, k_g1, k_g0, k_par, k_par1, k_par2, k_drop, k_drop1, k_ret, k_ret1, k_retV, k_retV1, k_ifS, k_ifS1, k_ifS0, k_ifSD, k_fz_ap, k_app, k_app1, k_for, k_for1, k_aug1, k_fun1, k_fun2, k_idx, k_idx1, k_idx2, k_lenC, k_lenC1, k_popC, k_bset, k_getC, k_getC1, k_getC2, k_at0, k_at1, k_at2, k_bg1, k_bg2, k_bs1, k_bs2, k_bc, k_pop1, sz0, sz1, sz2, sz3, sz4, sz5, sz6, k_fun, eqI, neI, addI, subI, ltI, leI, gtI, geI, truD, isTy, tyName, pyLen, pyAbs, pyMin2, pyMax2, pyInt, pyTuple, pyList, pyIx, pyIs, pyIsNot, isNon, nown, wipeD, Option.map_some, List.getElem?_cons_zero, List.getElem?_cons_succ, List.set_cons_zero, List.set_cons_succ, List.map_cons, List.map_nil, List.cons_append, List.nil_append, List.length_cons, List.length_nil, List.all_cons, List.all_nil, List.replicate_succ, List.replicate_zero, Bool.and_true, Bool.true_and, Bool.and_self, Bool.not_true, Bool.not_false, and_self, and_true, true_and, if_true, if_false, reduceIte, reduceCtorEq, decide_true, decide_false, Bool.false_eq_true, Nat.reduceAdd, Nat.reduceEqDiff, e, hc', hb', hp, mulI (mulOk_l (i := 2) (by decide) (by decide)), mulI (mulOk_l (i := -2) (by decide) (by decide)), mulI (mulOk_r (j := 69621) (by decide) (by decide)), mulI (mulOk_r (j := 48271) (by decide) (by decide)), modI (j := 2147483647) (by decide)]
theorem sp_draw (many : Int) (B : Bx) (hb : BI B) (h0 : 0 < many) (h1 : many < 1000000) : ∃ r B', BI B' ∧ 0 ≤ r ∧ r < many ∧ d_law_draw [.box, .dat (.int many)] B = some (.dat (.int r), B') := by
  obtain ⟨cs, x, y, rfl, hx, hy⟩ := hb
  have hl : many.natAbs.log2 < 9000 := Nat.lt_trans (log2_small (n := many.natAbs) (k := 20) (by omega) (by decide)) (by decide)
  by_cases hlt : x < many
  · obtain ⟨r, cs', y', h2, h3, e⟩ := sp_load cs x y hy
    refine ⟨r % many, _, ⟨cs', r / many, y', rfl, Int.ediv_nonneg h2 (by omega), h3⟩, (em_nn r h0).1, (em_nn r h0).2, ?_⟩
    have hq : (x < many) = True := eq_true hlt
    simp only [k_dC, k_var_ap, k_varO_ap, k_varV_ap, k_op, k_op1, k_op2, k_fin, k_tst, k_t1, k_t2, k_tF, k_opB, k_B, k_neg, k_neg1, k_andT, k_orT, k_notT, k_and1, k_and0, k_or1, k_or0, k_not1, k_tru, k_tru1, k_andV, k_orV, k_notV, k_andV1, k_andV0, k_orV1, k_orV0, k_notV1, k_if, k_if1, k_if0, k_ifD, k_nil, k_cons, k_cons1, k_cons2, k_nilA, k_consA, k_consA1, k_consA2, k_V, k_V1, k_F, k_F1, k_tup, k_tup1, k_lst, k_lst1, k_cl, k_cl1, k_clL, k_clL1, k_finL, k_isi, k_isi1, k_fn, k_fn1, k_dat, k_fnV, k_fnV1, k_seqI, k_seqI1, k_seqI2, k_rng1, k_rng1', k_rng2, k_rng2a, k_rng2b, k_enum, k_enum1, k_zip, k_zip1, k_zip2, k_P, k_P1, k_noP, k_sl, k_sl1, k_sl2, k_sl3, k_cmp, k_cmp1, k_yes, k_seq, k_seq1, k_seq2, k_seq3, k_seq4, k_next, k_brk, k_cont, k_retN, k_asg, k_asg1, k_asgV, k_asgV1, k_asgV2, k_asgV3, k_asgO, k_asgO1, k_asgG, k_asgG1, k_nx, k_gN, k_gT, k_gC, k_g1, k_g0, k_par, k_par1, k_par2, k_drop, k_drop1, k_ret, k_ret1, k_retV, k_retV1, k_ifS, k_ifS1, k_ifS0, k_ifSD, k_fz_ap, k_app, k_app1, k_for, k_for1, k_aug1, k_fun1, k_fun2, k_idx, k_idx1, k_idx2, k_lenC, k_lenC1, k_popC, k_bset, k_getC, k_getC1, k_getC2, k_at0, k_at1, k_at2, k_bg1, k_bg2, k_bs1, k_bs2, k_bc, k_pop1, sz0, sz1, sz2, sz3, sz4, sz5, sz6, k_fun, eqI, neI, addI, subI, ltI, leI, gtI, geI, truD, isTy, tyName, pyLen, pyAbs, pyMin2, pyMax2, pyInt, pyTuple, pyList, pyIx, pyIs, pyIsNot, isNon, nown, wipeD, Option.map_some, List.getElem?_cons_zero, List.getElem?_cons_succ, List.set_cons_zero, List.set_cons_succ, List.map_cons, List.map_nil, List.cons_append, List.nil_append, List.length_cons, List.length_nil, List.all_cons, List.all_nil, List.replicate_succ, List.replicate_zero, Bool.and_true, Bool.true_and, Bool.and_self, Bool.not_true, Bool.not_false, and_self, and_true, true_and, if_true, if_false, reduceIte, reduceCtorEq, decide_true, decide_false, Bool.false_eq_true, Nat.reduceAdd, Nat.reduceEqDiff, d_law_draw, b_law_draw, hq, e, modI h0, divI h0 hl]
  · refine ⟨x % many, _, ⟨cs, x / many, y, rfl, Int.ediv_nonneg hx (by omega), hy⟩, (em_nn x h0).1, (em_nn x h0).2, ?_⟩
    have hq : (x < many) = False := eq_false hlt
    simp only [k_dC, k_var_ap, k_varO_ap, k_varV_ap, k_op, k_op1, k_op2, k_fin, k_tst, k_t1, k_t2, k_tF, k_opB, k_B, k_neg, k_neg1, k_andT, k_orT, k_notT, k_and1, k_and0, k_or1, k_or0, k_not1, k_tru, k_tru1, k_andV, k_orV, k_notV, k_andV1, k_andV0, k_orV1, k_orV0, k_notV1, k_if, k_if1, k_if0, k_ifD, k_nil, k_cons, k_cons1, k_cons2, k_nilA, k_consA, k_consA1, k_consA2, k_V, k_V1, k_F, k_F1, k_tup, k_tup1, k_lst, k_lst1, k_cl, k_cl1, k_clL, k_clL1, k_finL, k_isi, k_isi1, k_fn, k_fn1, k_dat, k_fnV, k_fnV1, k_seqI, k_seqI1, k_seqI2, k_rng1, k_rng1', k_rng2, k_rng2a, k_rng2b, k_enum, k_enum1, k_zip, k_zip1, k_zip2, k_P, k_P1, k_noP, k_sl, k_sl1, k_sl2, k_sl3, k_cmp, k_cmp1, k_yes, k_seq, k_seq1, k_seq2, k_seq3, k_seq4, k_next, k_brk, k_cont, k_retN, k_asg, k_asg1, k_asgV, k_asgV1, k_asgV2, k_asgV3, k_asgO, k_asgO1, k_asgG, k_asgG1, k_nx, k_gN, k_gT, k_gC, k_g1, k_g0, k_par, k_par1, k_par2, k_drop, k_drop1, k_ret, k_ret1, k_retV, k_retV1, k_ifS, k_ifS1, k_ifS0, k_ifSD, k_fz_ap, k_app, k_app1, k_for, k_for1, k_aug1, k_fun1, k_fun2, k_idx, k_idx1, k_idx2, k_lenC, k_lenC1, k_popC, k_bset, k_getC, k_getC1, k_getC2, k_at0, k_at1, k_at2, k_bg1, k_bg2, k_bs1, k_bs2, k_bc, k_pop1, sz0, sz1, sz2, sz3, sz4, sz5, sz6, k_fun, eqI, neI, addI, subI, ltI, leI, gtI, geI, truD, isTy, tyName, pyLen, pyAbs, pyMin2, pyMax2, pyInt, pyTuple, pyList, pyIx, pyIs, pyIsNot, isNon, nown, wipeD, Option.map_some, List.getElem?_cons_zero, List.getElem?_cons_succ, List.set_cons_zero, List.set_cons_succ, List.map_cons, List.map_nil, List.cons_append, List.nil_append, List.length_cons, List.length_nil, List.all_cons, List.all_nil, List.replicate_succ, List.replicate_zero, Bool.and_true, Bool.true_and, Bool.and_self, Bool.not_true, Bool.not_false, and_self, and_true, true_and, if_true, if_false, reduceIte, reduceCtorEq, decide_true, decide_false, Bool.false_eq_true, Nat.reduceAdd, Nat.reduceEqDiff, d_law_draw, b_law_draw, hq, modI h0, divI h0 hl]
theorem sp_box (ns : List Int) : ∃ B', BI B' ∧ d_law_box [.scr ns] ⟨[], [], false⟩ = some (.box, B') := by
  refine ⟨_, ⟨ns.take 63, 0, 4711 + (ns.length : Int), rfl, by omega, by omega⟩, ?_⟩
  rfl
end Dn

set_option Elab.async false
set_option linter.all false
set_option autoImplicit false
set_option maxRecDepth 100000
set_option maxHeartbeats 4000000
namespace Dn
open PySem
def paidV (p d n : Nat) : Nat := if n < d then n else d - 1 + p
theorem paid_loop (p d n : Nat) (B : Bx) (hd : 1 ≤ d) : ∃ t, forGo (gN 5) law_paid_L1 (rngD 1 n) [some (.dat (.int p)), some (.dat (.int d)), some (.dat (.int n)), some (.dat (.int 0)), some (.dat (.bool false)), none] B = some (.nx [some (.dat (.int p)), some (.dat (.int d)), some (.dat (.int n)), some (.dat (.int (paidV p d n))), some (.dat (.bool (decide (d ≤ n)))), t] B) := by
  obtain ⟨s2, B2, e, h⟩ := forGo_inv (tg := gN 5) (body := law_paid_L1) (rngD 1 n) (fun i sl B' => B' = B ∧ ∃ t, sl = [some (.dat (.int p)), some (.dat (.int d)), some (.dat (.int n)), some (.dat (.int (paidV p d i))), some (.dat (.bool (decide (d ≤ i)))), t]) (fun i x sl B' hx hp => by
    obtain ⟨hi, rfl⟩ := rngD_get hx
    obtain ⟨rfl, t, rfl⟩ := hp
    refine ⟨_, [some (.dat (.int p)), some (.dat (.int d)), some (.dat (.int n)), some (.dat (.int (paidV p d (i + 1)))), some (.dat (.bool (decide (d ≤ i + 1)))), some (.dat (.int (1 + i)))], B', k_gN, .inl ?_, rfl, _, rfl⟩
    by_cases h1 : d ≤ i
    · have q1 : (d ≤ i) = True := eq_true h1
      have q2 : (d ≤ i + 1) = True := eq_true (by omega)
      have q3 : paidV p d i = d - 1 + p := if_neg (by omega)
      have q4 : paidV p d (i + 1) = d - 1 + p := if_neg (by omega)
      simp only [k_dC, k_var_ap, k_varO_ap, k_varV_ap, k_op, k_op1, k_op2, k_fin, k_tst, k_t1, k_t2, k_tF, k_opB, k_B, k_neg, k_neg1, k_andT, k_orT, k_notT, k_and1, k_and0, k_or1, k_or0, k_not1, k_tru, k_tru1, k_andV, k_orV, k_notV, k_andV1, k_andV0, k_orV1, k_orV0, k_notV1, k_if, k_if1, k_if0, k_ifD, k_nil, k_cons, k_cons1, k_cons2, k_nilA, k_consA, k_consA1, k_consA2, k_V, k_V1, k_F, k_F1, k_tup, k_tup1, k_lst, k_lst1, k_cl, k_cl1, k_clL, k_clL1, k_finL, k_isi, k_isi1, k_fn, k_fn1, k_dat, k_fnV, k_fnV1, k_seqI, k_seqI1, k_seqI2, k_rng1, k_rng1', k_rng2, k_rng2a, k_rng2b, k_enum, k_enum1, k_zip, k_zip1, k_zip2, k_P, k_P1, k_noP, k_sl, k_sl1, k_sl2, k_sl3, k_cmp, k_cmp1, k_yes, k_seq, k_seq1, k_seq2, k_seq3, k_seq4, k_next, k_brk, k_cont, k_retN, k_asg, k_asg1, k_asgV, k_asgV1, k_asgV2, k_asgV3, k_asgO, k_asgO1, k_asgG, k_asgG1, k_nx, k_gN, k_gT, k_gC, k_g1, k_g0, k_par, k_par1, k_par2, k_drop, k_drop1, k_ret, k_ret1, k_retV, k_retV1, k_ifS, k_ifS1, k_ifS0, k_ifSD, k_fz_ap, k_app, k_app1, k_for, k_for1, k_aug1, k_fun1, k_fun2, k_idx, k_idx1, k_idx2, k_lenC, k_lenC1, k_popC, k_bset, k_getC, k_getC1, k_getC2, k_at0, k_at1, k_at2, k_bg1, k_bg2, k_bs1, k_bs2, k_bc, k_pop1, sz0, sz1, sz2, sz3, sz4, sz5, sz6, k_fun, eqI, neI, addI, subI, ltI, leI, gtI, geI, truD, isTy, tyName, pyLen, pyAbs, pyMin2, pyMax2, pyInt, pyTuple, pyList, pyIx, pyIs, pyIsNot, isNon, nown, wipeD, Option.map_some, List.getElem?_cons_zero, List.getElem?_cons_succ, List.set_cons_zero, List.set_cons_succ, List.map_cons, List.map_nil, List.cons_append, List.nil_append, List.length_cons, List.length_nil, List.all_cons, List.all_nil, List.replicate_succ, List.replicate_zero, Bool.and_true, Bool.true_and, Bool.and_self, Bool.not_true, Bool.not_false, and_self, and_true, true_and, if_true, if_false, reduceIte, reduceCtorEq, decide_true, decide_false, Bool.false_eq_true, Nat.reduceAdd, Nat.reduceEqDiff, law_paid_L1, q1, q2, q3, q4]
    · have q1 : (d ≤ i) = False := eq_false h1
      have q3 : paidV p d i = i := if_pos (by omega)
      by_cases h2 : i + 1 = d
      · have q2 : (d ≤ i + 1) = True := eq_true (by omega)
        have q5 : ((1 : Int) + i = d) = True := eq_true (by omega)
        have q4 : ((paidV p d (i + 1) : Nat) : Int) = (i : Int) + p := by
          rw [show paidV p d (i + 1) = d - 1 + p from if_neg (by omega)]
          omega
        simp only [k_dC, k_var_ap, k_varO_ap, k_varV_ap, k_op, k_op1, k_op2, k_fin, k_tst, k_t1, k_t2, k_tF, k_opB, k_B, k_neg, k_neg1, k_andT, k_orT, k_notT, k_and1, k_and0, k_or1, k_or0, k_not1, k_tru, k_tru1, k_andV, k_orV, k_notV, k_andV1, k_andV0, k_orV1, k_orV0, k_notV1, k_if, k_if1, k_if0, k_ifD, k_nil, k_cons, k_cons1, k_cons2, k_nilA, k_consA, k_consA1, k_consA2, k_V, k_V1, k_F, k_F1, k_tup, k_tup1, k_lst, k_lst1, k_cl, k_cl1, k_clL, k_clL1, k_finL, k_isi, k_isi1, k_fn, k_fn1, k_dat, k_fnV, k_fnV1, k_seqI, k_seqI1, k_seqI2, k_rng1, k_rng1', k_rng2, k_rng2a, k_rng2b, k_enum, k_enum1, k_zip, k_zip1, k_zip2, k_P, k_P1, k_noP, k_sl, k_sl1, k_sl2, k_sl3, k_cmp, k_cmp1, k_yes, k_seq, k_seq1, k_seq2, k_seq3, k_seq4, k_next, k_brk, k_cont, k_retN, k_asg, k_asg1, k_asgV, k_asgV1, k_asgV2, k_asgV3, k_asgO, k_asgO1, k_asgG, k_asgG1, k_nx, k_gN, k_gT, k_gC, k_g1, k_g0, k_par, k_par1, k_par2, k_drop, k_drop1, k_ret, k_ret1, k_retV, k_retV1, k_ifS, k_ifS1, k_ifS0, k_ifSD, k_fz_ap, k_app, k_app1, k_for, k_for1, k_aug1, k_fun1, k_fun2, k_idx, k_idx1, k_idx2, k_lenC, k_lenC1, k_popC, k_bset, k_getC, k_getC1, k_getC2, k_at0, k_at1, k_at2, k_bg1, k_bg2, k_bs1, k_bs2, k_bc, k_pop1, sz0, sz1, sz2, sz3, sz4, sz5, sz6, k_fun, eqI, neI, addI, subI, ltI, leI, gtI, geI, truD, isTy, tyName, pyLen, pyAbs, pyMin2, pyMax2, pyInt, pyTuple, pyList, pyIx, pyIs, pyIsNot, isNon, nown, wipeD, Option.map_some, List.getElem?_cons_zero, List.getElem?_cons_succ, List.set_cons_zero, List.set_cons_succ, List.map_cons, List.map_nil, List.cons_append, List.nil_append, List.length_cons, List.length_nil, List.all_cons, List.all_nil, List.replicate_succ, List.replicate_zero, Bool.and_true, Bool.true_and, Bool.and_self, Bool.not_true, Bool.not_false, and_self, and_true, true_and, if_true, if_false, reduceIte, reduceCtorEq, decide_true, decide_false, Bool.false_eq_true, Nat.reduceAdd, Nat.reduceEqDiff, law_paid_L1, q1, q2, q3, q4, q5]
      · have q2 : (d ≤ i + 1) = False := eq_false (by omega)
        have q5 : ((1 : Int) + i = d) = False := eq_false (by omega)
        have q4 : ((paidV p d (i + 1) : Nat) : Int) = (i : Int) + 1 := by
          rw [show paidV p d (i + 1) = i + 1 from if_pos (by omega)]
          omega
        simp only [k_dC, k_var_ap, k_varO_ap, k_varV_ap, k_op, k_op1, k_op2, k_fin, k_tst, k_t1, k_t2, k_tF, k_opB, k_B, k_neg, k_neg1, k_andT, k_orT, k_notT, k_and1, k_and0, k_or1, k_or0, k_not1, k_tru, k_tru1, k_andV, k_orV, k_notV, k_andV1, k_andV0, k_orV1, k_orV0, k_notV1, k_if, k_if1, k_if0, k_ifD, k_nil, k_cons, k_cons1, k_cons2, k_nilA, k_consA, k_consA1, k_consA2, k_V, k_V1, k_F, k_F1, k_tup, k_tup1, k_lst, k_lst1, k_cl, k_cl1, k_clL, k_clL1, k_finL, k_isi, k_isi1, k_fn, k_fn1, k_dat, k_fnV, k_fnV1, k_seqI, k_seqI1, k_seqI2, k_rng1, k_rng1', k_rng2, k_rng2a, k_rng2b, k_enum, k_enum1, k_zip, k_zip1, k_zip2, k_P, k_P1, k_noP, k_sl, k_sl1, k_sl2, k_sl3, k_cmp, k_cmp1, k_yes, k_seq, k_seq1, k_seq2, k_seq3, k_seq4, k_next, k_brk, k_cont, k_retN, k_asg, k_asg1, k_asgV, k_asgV1, k_asgV2, k_asgV3, k_asgO, k_asgO1, k_asgG, k_asgG1, k_nx, k_gN, k_gT, k_gC, k_g1, k_g0, k_par, k_par1, k_par2, k_drop, k_drop1, k_ret, k_ret1, k_retV, k_retV1, k_ifS, k_ifS1, k_ifS0, k_ifSD, k_fz_ap, k_app, k_app1, k_for, k_for1, k_aug1, k_fun1, k_fun2, k_idx, k_idx1, k_idx2, k_lenC, k_lenC1, k_popC, k_bset, k_getC, k_getC1, k_getC2, k_at0, k_at1, k_at2, k_bg1, k_bg2, k_bs1, k_bs2, k_bc, k_pop1, sz0, sz1, sz2, sz3, sz4, sz5, sz6, k_fun, eqI, neI, addI, subI, ltI, leI, gtI, geI, truD, isTy, tyName, pyLen, pyAbs, pyMin2, pyMax2, pyInt, pyTuple, pyList, pyIx, pyIs, pyIsNot, isNon, nown, wipeD, Option.map_some, List.getElem?_cons_zero, List.getElem?_cons_succ, List.set_cons_zero, List.set_cons_succ, List.map_cons, List.map_nil, List.cons_append, List.nil_append, List.length_cons, List.length_nil, List.all_cons, List.all_nil, List.replicate_succ, List.replicate_zero, Bool.and_true, Bool.true_and, Bool.and_self, Bool.not_true, Bool.not_false, and_self, and_true, true_and, if_true, if_false, reduceIte, reduceCtorEq, decide_true, decide_false, Bool.false_eq_true, Nat.reduceAdd, Nat.reduceEqDiff, law_paid_L1, q1, q2, q3, q4, q5])
    0 _ B (Nat.zero_le _) ⟨rfl, none, by rw [show paidV p d 0 = 0 from if_pos (by omega), show decide (d ≤ 0) = false from decide_eq_false (by omega)]⟩
  rw [rngD_length] at h
  obtain ⟨rfl, t, rfl⟩ := h
  exact ⟨t, e⟩
theorem sp_paid (p d n : Nat) (B : Bx) (hd : 1 ≤ d) (hn : n < 1000) : d_law_paid [.dat (.int p), .dat (.int d), .dat (.int n)] B = some (.dat (.int (paidV p d n)), B) := by
  obtain ⟨t, e⟩ := paid_loop p d n B hd
  have r1 := rng_ok2 (i := 1) (j := (n : Int) + 1) (by decide) (by decide) (by omega) (by omega)
  simp only [k_dC, k_var_ap, k_varO_ap, k_varV_ap, k_op, k_op1, k_op2, k_fin, k_tst, k_t1, k_t2, k_tF, k_opB, k_B, k_neg, k_neg1, k_andT, k_orT, k_notT, k_and1, k_and0, k_or1, k_or0, k_not1, k_tru, k_tru1, k_andV, k_orV, k_notV, k_andV1, k_andV0, k_orV1, k_orV0, k_notV1, k_if, k_if1, k_if0, k_ifD, k_nil, k_cons, k_cons1, k_cons2, k_nilA, k_consA, k_consA1, k_consA2, k_V, k_V1, k_F, k_F1, k_tup, k_tup1, k_lst, k_lst1, k_cl, k_cl1, k_clL, k_clL1, k_finL, k_isi, k_isi1, k_fn, k_fn1, k_dat, k_fnV, k_fnV1, k_seqI, k_seqI1, k_seqI2, k_rng1, k_rng1', k_rng2, k_rng2a, k_rng2b, k_enum, k_enum1, k_zip, k_zip1, k_zip2, k_P, k_P1, k_noP, k_sl, k_sl1, k_sl2, k_sl3, k_cmp, k_cmp1, k_yes, k_seq, k_seq1, k_seq2, k_seq3, k_seq4, k_next, k_brk, k_cont, k_retN, k_asg, k_asg1, k_asgV, k_asgV1, k_asgV2, k_asgV3, k_asgO, k_asgO1, k_asgG, k_asgG1, k_nx, k_gN, k_gT, k_gC, k_g1, k_g0, k_par, k_par1, k_par2, k_drop, k_drop1, k_ret, k_ret1, k_retV, k_retV1, k_ifS, k_ifS1, k_ifS0, k_ifSD, k_fz_ap, k_app, k_app1, k_for, k_for1, k_aug1, k_fun1, k_fun2, k_idx, k_idx1, k_idx2, k_lenC, k_lenC1, k_popC, k_bset, k_getC, k_getC1, k_getC2, k_at0, k_at1, k_at2, k_bg1, k_bg2, k_bs1, k_bs2, k_bc, k_pop1, sz0, sz1, sz2, sz3, sz4, sz5, sz6, k_fun, eqI, neI, addI, subI, ltI, leI, gtI, geI, truD, isTy, tyName, pyLen, pyAbs, pyMin2, pyMax2, pyInt, pyTuple, pyList, pyIx, pyIs, pyIsNot, isNon, nown, wipeD, Option.map_some, List.getElem?_cons_zero, List.getElem?_cons_succ, List.set_cons_zero, List.set_cons_succ, List.map_cons, List.map_nil, List.cons_append, List.nil_append, List.length_cons, List.length_nil, List.all_cons, List.all_nil, List.replicate_succ, List.replicate_zero, Bool.and_true, Bool.true_and, Bool.and_self, Bool.not_true, Bool.not_false, and_self, and_true, true_and, if_true, if_false, reduceIte, reduceCtorEq, decide_true, decide_false, Bool.false_eq_true, Nat.reduceAdd, Nat.reduceEqDiff, d_law_paid, b_law_paid, r1, Int.add_sub_cancel, Int.toNat_natCast, e]
theorem sp_cost_hired (p d n : Nat) (B : Bx) (hd : 1 ≤ d) : d_cost_hired [.dat (.int p), .dat (.int d), .dat (.int n)] B = some (.dat (.int (paidV p d n)), B) := by
  by_cases h : n < d
  · have q1 : ((n : Int) < d) = True := eq_true (by omega)
    have q2 : paidV p d n = n := if_pos h
    simp only [k_dC, k_var_ap, k_varO_ap, k_varV_ap, k_op, k_op1, k_op2, k_fin, k_tst, k_t1, k_t2, k_tF, k_opB, k_B, k_neg, k_neg1, k_andT, k_orT, k_notT, k_and1, k_and0, k_or1, k_or0, k_not1, k_tru, k_tru1, k_andV, k_orV, k_notV, k_andV1, k_andV0, k_orV1, k_orV0, k_notV1, k_if, k_if1, k_if0, k_ifD, k_nil, k_cons, k_cons1, k_cons2, k_nilA, k_consA, k_consA1, k_consA2, k_V, k_V1, k_F, k_F1, k_tup, k_tup1, k_lst, k_lst1, k_cl, k_cl1, k_clL, k_clL1, k_finL, k_isi, k_isi1, k_fn, k_fn1, k_dat, k_fnV, k_fnV1, k_seqI, k_seqI1, k_seqI2, k_rng1, k_rng1', k_rng2, k_rng2a, k_rng2b, k_enum, k_enum1, k_zip, k_zip1, k_zip2, k_P, k_P1, k_noP, k_sl, k_sl1, k_sl2, k_sl3, k_cmp, k_cmp1, k_yes, k_seq, k_seq1, k_seq2, k_seq3, k_seq4, k_next, k_brk, k_cont, k_retN, k_asg, k_asg1, k_asgV, k_asgV1, k_asgV2, k_asgV3, k_asgO, k_asgO1, k_asgG, k_asgG1, k_nx, k_gN, k_gT, k_gC, k_g1, k_g0, k_par, k_par1, k_par2, k_drop, k_drop1, k_ret, k_ret1, k_retV, k_retV1, k_ifS, k_ifS1, k_ifS0, k_ifSD, k_fz_ap, k_app, k_app1, k_for, k_for1, k_aug1, k_fun1, k_fun2, k_idx, k_idx1, k_idx2, k_lenC, k_lenC1, k_popC, k_bset, k_getC, k_getC1, k_getC2, k_at0, k_at1, k_at2, k_bg1, k_bg2, k_bs1, k_bs2, k_bc, k_pop1, sz0, sz1, sz2, sz3, sz4, sz5, sz6, k_fun, eqI, neI, addI, subI, ltI, leI, gtI, geI, truD, isTy, tyName, pyLen, pyAbs, pyMin2, pyMax2, pyInt, pyTuple, pyList, pyIx, pyIs, pyIsNot, isNon, nown, wipeD, Option.map_some, List.getElem?_cons_zero, List.getElem?_cons_succ, List.set_cons_zero, List.set_cons_succ, List.map_cons, List.map_nil, List.cons_append, List.nil_append, List.length_cons, List.length_nil, List.all_cons, List.all_nil, List.replicate_succ, List.replicate_zero, Bool.and_true, Bool.true_and, Bool.and_self, Bool.not_true, Bool.not_false, and_self, and_true, true_and, if_true, if_false, reduceIte, reduceCtorEq, decide_true, decide_false, Bool.false_eq_true, Nat.reduceAdd, Nat.reduceEqDiff, d_cost_hired, b_cost_hired, q1, q2]
  · have q1 : ((n : Int) < d) = False := eq_false (by omega)
    have q2 : ((paidV p d n : Nat) : Int) = (d : Int) - 1 + p := by
      rw [show paidV p d n = d - 1 + p from if_neg h]
      omega
    simp only [k_dC, k_var_ap, k_varO_ap, k_varV_ap, k_op, k_op1, k_op2, k_fin, k_tst, k_t1, k_t2, k_tF, k_opB, k_B, k_neg, k_neg1, k_andT, k_orT, k_notT, k_and1, k_and0, k_or1, k_or0, k_not1, k_tru, k_tru1, k_andV, k_orV, k_notV, k_andV1, k_andV0, k_orV1, k_orV0, k_notV1, k_if, k_if1, k_if0, k_ifD, k_nil, k_cons, k_cons1, k_cons2, k_nilA, k_consA, k_consA1, k_consA2, k_V, k_V1, k_F, k_F1, k_tup, k_tup1, k_lst, k_lst1, k_cl, k_cl1, k_clL, k_clL1, k_finL, k_isi, k_isi1, k_fn, k_fn1, k_dat, k_fnV, k_fnV1, k_seqI, k_seqI1, k_seqI2, k_rng1, k_rng1', k_rng2, k_rng2a, k_rng2b, k_enum, k_enum1, k_zip, k_zip1, k_zip2, k_P, k_P1, k_noP, k_sl, k_sl1, k_sl2, k_sl3, k_cmp, k_cmp1, k_yes, k_seq, k_seq1, k_seq2, k_seq3, k_seq4, k_next, k_brk, k_cont, k_retN, k_asg, k_asg1, k_asgV, k_asgV1, k_asgV2, k_asgV3, k_asgO, k_asgO1, k_asgG, k_asgG1, k_nx, k_gN, k_gT, k_gC, k_g1, k_g0, k_par, k_par1, k_par2, k_drop, k_drop1, k_ret, k_ret1, k_retV, k_retV1, k_ifS, k_ifS1, k_ifS0, k_ifSD, k_fz_ap, k_app, k_app1, k_for, k_for1, k_aug1, k_fun1, k_fun2, k_idx, k_idx1, k_idx2, k_lenC, k_lenC1, k_popC, k_bset, k_getC, k_getC1, k_getC2, k_at0, k_at1, k_at2, k_bg1, k_bg2, k_bs1, k_bs2, k_bc, k_pop1, sz0, sz1, sz2, sz3, sz4, sz5, sz6, k_fun, eqI, neI, addI, subI, ltI, leI, gtI, geI, truD, isTy, tyName, pyLen, pyAbs, pyMin2, pyMax2, pyInt, pyTuple, pyList, pyIx, pyIs, pyIsNot, isNon, nown, wipeD, Option.map_some, List.getElem?_cons_zero, List.getElem?_cons_succ, List.set_cons_zero, List.set_cons_succ, List.map_cons, List.map_nil, List.cons_append, List.nil_append, List.length_cons, List.length_nil, List.all_cons, List.all_nil, List.replicate_succ, List.replicate_zero, Bool.and_true, Bool.true_and, Bool.and_self, Bool.not_true, Bool.not_false, and_self, and_true, true_and, if_true, if_false, reduceIte, reduceCtorEq, decide_true, decide_false, Bool.false_eq_true, Nat.reduceAdd, Nat.reduceEqDiff, d_cost_hired, b_cost_hired, q1, q2]
theorem minN (p n : Nat) : (if (n : Int) < (p : Int) then (n : Int) else (p : Int)) = ((min p n : Nat) : Int) := by
  split <;> omega
theorem sp_best_known (p n : Nat) (B : Bx) : d_best_known [.dat (.int p), .dat (.int n)] B = some (.dat (.int (min p n : Nat)), B) := by
  simp only [k_dC, k_var_ap, k_varO_ap, k_varV_ap, k_op, k_op1, k_op2, k_fin, k_tst, k_t1, k_t2, k_tF, k_opB, k_B, k_neg, k_neg1, k_andT, k_orT, k_notT, k_and1, k_and0, k_or1, k_or0, k_not1, k_tru, k_tru1, k_andV, k_orV, k_notV, k_andV1, k_andV0, k_orV1, k_orV0, k_notV1, k_if, k_if1, k_if0, k_ifD, k_nil, k_cons, k_cons1, k_cons2, k_nilA, k_consA, k_consA1, k_consA2, k_V, k_V1, k_F, k_F1, k_tup, k_tup1, k_lst, k_lst1, k_cl, k_cl1, k_clL, k_clL1, k_finL, k_isi, k_isi1, k_fn, k_fn1, k_dat, k_fnV, k_fnV1, k_seqI, k_seqI1, k_seqI2, k_rng1, k_rng1', k_rng2, k_rng2a, k_rng2b, k_enum, k_enum1, k_zip, k_zip1, k_zip2, k_P, k_P1, k_noP, k_sl, k_sl1, k_sl2, k_sl3, k_cmp, k_cmp1, k_yes, k_seq, k_seq1, k_seq2, k_seq3, k_seq4, k_next, k_brk, k_cont, k_retN, k_asg, k_asg1, k_asgV, k_asgV1, k_asgV2, k_asgV3, k_asgO, k_asgO1, k_asgG, k_asgG1, k_nx, k_gN, k_gT, k_gC, k_g1, k_g0, k_par, k_par1, k_par2, k_drop, k_drop1, k_ret, k_ret1, k_retV, k_retV1, k_ifS, k_ifS1, k_ifS0, k_ifSD, k_fz_ap, k_app, k_app1, k_for, k_for1, k_aug1, k_fun1, k_fun2, k_idx, k_idx1, k_idx2, k_lenC, k_lenC1, k_popC, k_bset, k_getC, k_getC1, k_getC2, k_at0, k_at1, k_at2, k_bg1, k_bg2, k_bs1, k_bs2, k_bc, k_pop1, sz0, sz1, sz2, sz3, sz4, sz5, sz6, k_fun, eqI, neI, addI, subI, ltI, leI, gtI, geI, truD, isTy, tyName, pyLen, pyAbs, pyMin2, pyMax2, pyInt, pyTuple, pyList, pyIx, pyIs, pyIsNot, isNon, nown, wipeD, Option.map_some, List.getElem?_cons_zero, List.getElem?_cons_succ, List.set_cons_zero, List.set_cons_succ, List.map_cons, List.map_nil, List.cons_append, List.nil_append, List.length_cons, List.length_nil, List.all_cons, List.all_nil, List.replicate_succ, List.replicate_zero, Bool.and_true, Bool.true_and, Bool.and_self, Bool.not_true, Bool.not_false, and_self, and_true, true_and, if_true, if_false, reduceIte, reduceCtorEq, decide_true, decide_false, Bool.false_eq_true, Nat.reduceAdd, Nat.reduceEqDiff, d_best_known, b_best_known, minN]
def worstV (p d : Nat) : Rat := mkRat ((d - 1 + p : Nat) : Int) (min p d)
theorem small_int {n : Nat} (h : n < 1000) : ((n : Int) < 2 ^ 4000) := by
  refine Int.lt_of_lt_of_le (b := 2 ^ 10) (by omega) (pow_mono (by decide))
theorem small_intA {n : Int} (h : n.natAbs < 1000) : ((n.natAbs : Int) < 2 ^ 4000) := by
  refine Int.lt_of_lt_of_le (b := 2 ^ 10) (by omega) (pow_mono (by decide))
theorem sp_worst (p d : Nat) (B : Bx) (hp : 1 ≤ p) (hd : 1 ≤ d) (hq : p < 1000) : d_worst_ratio [.dat (.int p), .dat (.int d)] B = some (.dat (ratD (worstV p d)), B) := by
  have e := sp_ratio ((d - 1 + p : Nat) : Int) ((min p d : Nat) : Int) B (by omega) (small_int (by omega))
  have q2 : (((d - 1 + p : Nat)) : Int) = (d : Int) - 1 + p := by omega
  unfold worstV
  rw [q2] at e ⊢
  simp only [k_dC, k_var_ap, k_varO_ap, k_varV_ap, k_op, k_op1, k_op2, k_fin, k_tst, k_t1, k_t2, k_tF, k_opB, k_B, k_neg, k_neg1, k_andT, k_orT, k_notT, k_and1, k_and0, k_or1, k_or0, k_not1, k_tru, k_tru1, k_andV, k_orV, k_notV, k_andV1, k_andV0, k_orV1, k_orV0, k_notV1, k_if, k_if1, k_if0, k_ifD, k_nil, k_cons, k_cons1, k_cons2, k_nilA, k_consA, k_consA1, k_consA2, k_V, k_V1, k_F, k_F1, k_tup, k_tup1, k_lst, k_lst1, k_cl, k_cl1, k_clL, k_clL1, k_finL, k_isi, k_isi1, k_fn, k_fn1, k_dat, k_fnV, k_fnV1, k_seqI, k_seqI1, k_seqI2, k_rng1, k_rng1', k_rng2, k_rng2a, k_rng2b, k_enum, k_enum1, k_zip, k_zip1, k_zip2, k_P, k_P1, k_noP, k_sl, k_sl1, k_sl2, k_sl3, k_cmp, k_cmp1, k_yes, k_seq, k_seq1, k_seq2, k_seq3, k_seq4, k_next, k_brk, k_cont, k_retN, k_asg, k_asg1, k_asgV, k_asgV1, k_asgV2, k_asgV3, k_asgO, k_asgO1, k_asgG, k_asgG1, k_nx, k_gN, k_gT, k_gC, k_g1, k_g0, k_par, k_par1, k_par2, k_drop, k_drop1, k_ret, k_ret1, k_retV, k_retV1, k_ifS, k_ifS1, k_ifS0, k_ifSD, k_fz_ap, k_app, k_app1, k_for, k_for1, k_aug1, k_fun1, k_fun2, k_idx, k_idx1, k_idx2, k_lenC, k_lenC1, k_popC, k_bset, k_getC, k_getC1, k_getC2, k_at0, k_at1, k_at2, k_bg1, k_bg2, k_bs1, k_bs2, k_bc, k_pop1, sz0, sz1, sz2, sz3, sz4, sz5, sz6, k_fun, eqI, neI, addI, subI, ltI, leI, gtI, geI, truD, isTy, tyName, pyLen, pyAbs, pyMin2, pyMax2, pyInt, pyTuple, pyList, pyIx, pyIs, pyIsNot, isNon, nown, wipeD, Option.map_some, List.getElem?_cons_zero, List.getElem?_cons_succ, List.set_cons_zero, List.set_cons_succ, List.map_cons, List.map_nil, List.cons_append, List.nil_append, List.length_cons, List.length_nil, List.all_cons, List.all_nil, List.replicate_succ, List.replicate_zero, Bool.and_true, Bool.true_and, Bool.and_self, Bool.not_true, Bool.not_false, and_self, and_true, true_and, if_true, if_false, reduceIte, reduceCtorEq, decide_true, decide_false, Bool.false_eq_true, Nat.reduceAdd, Nat.reduceEqDiff, d_worst_ratio, b_worst_ratio, minN, e, Int.toNat_natCast]
theorem worst_Bd {p d : Nat} (hp : 1 ≤ p) (hd : 1 ≤ d) (hq : p < 100) (hr : d < 200) : Bd 9 (worstV p d) := by
  refine Bd_mk ?_ ?_ ?_ <;> omega
theorem sp_beats (p a b : Nat) (B : Bx) (hp : 1 ≤ p) (hq : p < 100) (ha : 1 ≤ a) (ha' : a < 200) (hb : 1 ≤ b) (hb' : b < 200) : d_beats [.dat (.int p), .dat (.int a), .dat (.int b)] B = some (.dat (.bool (decide (worstV p a < worstV p b))), B) := by
  simp only [k_dC, k_var_ap, k_varO_ap, k_varV_ap, k_op, k_op1, k_op2, k_fin, k_tst, k_t1, k_t2, k_tF, k_opB, k_B, k_neg, k_neg1, k_andT, k_orT, k_notT, k_and1, k_and0, k_or1, k_or0, k_not1, k_tru, k_tru1, k_andV, k_orV, k_notV, k_andV1, k_andV0, k_orV1, k_orV0, k_notV1, k_if, k_if1, k_if0, k_ifD, k_nil, k_cons, k_cons1, k_cons2, k_nilA, k_consA, k_consA1, k_consA2, k_V, k_V1, k_F, k_F1, k_tup, k_tup1, k_lst, k_lst1, k_cl, k_cl1, k_clL, k_clL1, k_finL, k_isi, k_isi1, k_fn, k_fn1, k_dat, k_fnV, k_fnV1, k_seqI, k_seqI1, k_seqI2, k_rng1, k_rng1', k_rng2, k_rng2a, k_rng2b, k_enum, k_enum1, k_zip, k_zip1, k_zip2, k_P, k_P1, k_noP, k_sl, k_sl1, k_sl2, k_sl3, k_cmp, k_cmp1, k_yes, k_seq, k_seq1, k_seq2, k_seq3, k_seq4, k_next, k_brk, k_cont, k_retN, k_asg, k_asg1, k_asgV, k_asgV1, k_asgV2, k_asgV3, k_asgO, k_asgO1, k_asgG, k_asgG1, k_nx, k_gN, k_gT, k_gC, k_g1, k_g0, k_par, k_par1, k_par2, k_drop, k_drop1, k_ret, k_ret1, k_retV, k_retV1, k_ifS, k_ifS1, k_ifS0, k_ifSD, k_fz_ap, k_app, k_app1, k_for, k_for1, k_aug1, k_fun1, k_fun2, k_idx, k_idx1, k_idx2, k_lenC, k_lenC1, k_popC, k_bset, k_getC, k_getC1, k_getC2, k_at0, k_at1, k_at2, k_bg1, k_bg2, k_bs1, k_bs2, k_bc, k_pop1, sz0, sz1, sz2, sz3, sz4, sz5, sz6, k_fun, eqI, neI, addI, subI, ltI, leI, gtI, geI, truD, isTy, tyName, pyLen, pyAbs, pyMin2, pyMax2, pyInt, pyTuple, pyList, pyIx, pyIs, pyIsNot, isNon, nown, wipeD, Option.map_some, List.getElem?_cons_zero, List.getElem?_cons_succ, List.set_cons_zero, List.set_cons_succ, List.map_cons, List.map_nil, List.cons_append, List.nil_append, List.length_cons, List.length_nil, List.all_cons, List.all_nil, List.replicate_succ, List.replicate_zero, Bool.and_true, Bool.true_and, Bool.and_self, Bool.not_true, Bool.not_false, and_self, and_true, true_and, if_true, if_false, reduceIte, reduceCtorEq, decide_true, decide_false, Bool.false_eq_true, Nat.reduceAdd, Nat.reduceEqDiff, d_beats, b_beats, sp_worst p a B hp ha (by omega), sp_worst p b B hp hb (by omega), sp_less _ _ B (worst_Bd hp ha hq ha') (worst_Bd hp hb hq hb') (by decide)]
theorem sp_never (p n : Nat) (B : Bx) (hp : 1 ≤ p) (hq : p < 1000) (hn : 1 ≤ n) : d_never_ratio [.dat (.int p), .dat (.int n)] B = some (.dat (ratD (mkRat n (min p n))), B) := by
  have e := sp_ratio (n : Int) ((min p n : Nat) : Int) B (by omega) (small_int (by omega))
  simp only [k_dC, k_var_ap, k_varO_ap, k_varV_ap, k_op, k_op1, k_op2, k_fin, k_tst, k_t1, k_t2, k_tF, k_opB, k_B, k_neg, k_neg1, k_andT, k_orT, k_notT, k_and1, k_and0, k_or1, k_or0, k_not1, k_tru, k_tru1, k_andV, k_orV, k_notV, k_andV1, k_andV0, k_orV1, k_orV0, k_notV1, k_if, k_if1, k_if0, k_ifD, k_nil, k_cons, k_cons1, k_cons2, k_nilA, k_consA, k_consA1, k_consA2, k_V, k_V1, k_F, k_F1, k_tup, k_tup1, k_lst, k_lst1, k_cl, k_cl1, k_clL, k_clL1, k_finL, k_isi, k_isi1, k_fn, k_fn1, k_dat, k_fnV, k_fnV1, k_seqI, k_seqI1, k_seqI2, k_rng1, k_rng1', k_rng2, k_rng2a, k_rng2b, k_enum, k_enum1, k_zip, k_zip1, k_zip2, k_P, k_P1, k_noP, k_sl, k_sl1, k_sl2, k_sl3, k_cmp, k_cmp1, k_yes, k_seq, k_seq1, k_seq2, k_seq3, k_seq4, k_next, k_brk, k_cont, k_retN, k_asg, k_asg1, k_asgV, k_asgV1, k_asgV2, k_asgV3, k_asgO, k_asgO1, k_asgG, k_asgG1, k_nx, k_gN, k_gT, k_gC, k_g1, k_g0, k_par, k_par1, k_par2, k_drop, k_drop1, k_ret, k_ret1, k_retV, k_retV1, k_ifS, k_ifS1, k_ifS0, k_ifSD, k_fz_ap, k_app, k_app1, k_for, k_for1, k_aug1, k_fun1, k_fun2, k_idx, k_idx1, k_idx2, k_lenC, k_lenC1, k_popC, k_bset, k_getC, k_getC1, k_getC2, k_at0, k_at1, k_at2, k_bg1, k_bg2, k_bs1, k_bs2, k_bc, k_pop1, sz0, sz1, sz2, sz3, sz4, sz5, sz6, k_fun, eqI, neI, addI, subI, ltI, leI, gtI, geI, truD, isTy, tyName, pyLen, pyAbs, pyMin2, pyMax2, pyInt, pyTuple, pyList, pyIx, pyIs, pyIsNot, isNon, nown, wipeD, Option.map_some, List.getElem?_cons_zero, List.getElem?_cons_succ, List.set_cons_zero, List.set_cons_succ, List.map_cons, List.map_nil, List.cons_append, List.nil_append, List.length_cons, List.length_nil, List.all_cons, List.all_nil, List.replicate_succ, List.replicate_zero, Bool.and_true, Bool.true_and, Bool.and_self, Bool.not_true, Bool.not_false, and_self, and_true, true_and, if_true, if_false, reduceIte, reduceCtorEq, decide_true, decide_false, Bool.false_eq_true, Nat.reduceAdd, Nat.reduceEqDiff, d_never_ratio, b_never_ratio, sp_best_known, e, Int.toNat_natCast]
theorem sp_adv (p d : Int) (B : Bx) : d_adversary [.dat (.int p), .dat (.int d)] B = some (.dat (.int d), B) := by
  simp only [k_dC, k_var_ap, k_varO_ap, k_varV_ap, k_op, k_op1, k_op2, k_fin, k_tst, k_t1, k_t2, k_tF, k_opB, k_B, k_neg, k_neg1, k_andT, k_orT, k_notT, k_and1, k_and0, k_or1, k_or0, k_not1, k_tru, k_tru1, k_andV, k_orV, k_notV, k_andV1, k_andV0, k_orV1, k_orV0, k_notV1, k_if, k_if1, k_if0, k_ifD, k_nil, k_cons, k_cons1, k_cons2, k_nilA, k_consA, k_consA1, k_consA2, k_V, k_V1, k_F, k_F1, k_tup, k_tup1, k_lst, k_lst1, k_cl, k_cl1, k_clL, k_clL1, k_finL, k_isi, k_isi1, k_fn, k_fn1, k_dat, k_fnV, k_fnV1, k_seqI, k_seqI1, k_seqI2, k_rng1, k_rng1', k_rng2, k_rng2a, k_rng2b, k_enum, k_enum1, k_zip, k_zip1, k_zip2, k_P, k_P1, k_noP, k_sl, k_sl1, k_sl2, k_sl3, k_cmp, k_cmp1, k_yes, k_seq, k_seq1, k_seq2, k_seq3, k_seq4, k_next, k_brk, k_cont, k_retN, k_asg, k_asg1, k_asgV, k_asgV1, k_asgV2, k_asgV3, k_asgO, k_asgO1, k_asgG, k_asgG1, k_nx, k_gN, k_gT, k_gC, k_g1, k_g0, k_par, k_par1, k_par2, k_drop, k_drop1, k_ret, k_ret1, k_retV, k_retV1, k_ifS, k_ifS1, k_ifS0, k_ifSD, k_fz_ap, k_app, k_app1, k_for, k_for1, k_aug1, k_fun1, k_fun2, k_idx, k_idx1, k_idx2, k_lenC, k_lenC1, k_popC, k_bset, k_getC, k_getC1, k_getC2, k_at0, k_at1, k_at2, k_bg1, k_bg2, k_bs1, k_bs2, k_bc, k_pop1, sz0, sz1, sz2, sz3, sz4, sz5, sz6, k_fun, eqI, neI, addI, subI, ltI, leI, gtI, geI, truD, isTy, tyName, pyLen, pyAbs, pyMin2, pyMax2, pyInt, pyTuple, pyList, pyIx, pyIs, pyIsNot, isNon, nown, wipeD, Option.map_some, List.getElem?_cons_zero, List.getElem?_cons_succ, List.set_cons_zero, List.set_cons_succ, List.map_cons, List.map_nil, List.cons_append, List.nil_append, List.length_cons, List.length_nil, List.all_cons, List.all_nil, List.replicate_succ, List.replicate_zero, Bool.and_true, Bool.true_and, Bool.and_self, Bool.not_true, Bool.not_false, and_self, and_true, true_and, if_true, if_false, reduceIte, reduceCtorEq, decide_true, decide_false, Bool.false_eq_true, Nat.reduceAdd, Nat.reduceEqDiff, d_adversary, b_adversary]
theorem mk_lt {a c : Int} {b d : Nat} (hb : 0 < b) (hd : 0 < d) : (mkRat a b < mkRat c d) ↔ a * d < c * b := by
  have hb' : (0 : Rat) < (b : Rat) := by exact_mod_cast hb
  have hd' : (0 : Rat) < (d : Rat) := by exact_mod_cast hd
  rw [Rat.mkRat_eq_div, Rat.mkRat_eq_div, Rat.div_lt_iff hb', Rat.div_def, Rat.mul_assoc, Rat.mul_comm (d : Rat)⁻¹, ← Rat.mul_assoc, ← Rat.div_def, Rat.lt_div_iff hd']
  have h1 : ((a * d : Int) : Rat) = (a : Rat) * (d : Rat) := by rw [Rat.intCast_mul]; rfl
  have h2 : ((c * b : Int) : Rat) = (c : Rat) * (b : Rat) := by rw [Rat.intCast_mul]; rfl
  rw [← h1, ← h2]
  exact Rat.intCast_lt_intCast
theorem mk_zero : mkRat 0 1 = 0 := by simp
theorem worst_least {p d : Nat} (hp : 1 ≤ p) (hd : 1 ≤ d) (h : d ≠ p) : worstV p p < worstV p d := by
  unfold worstV
  rw [mk_lt (by omega) (by omega)]
  rcases Nat.lt_or_gt_of_ne h with h | h
  · obtain ⟨e, rfl⟩ : ∃ e, p = d + e + 1 := ⟨p - d - 1, by omega⟩
    rw [Nat.min_eq_right (by omega), Nat.min_self, show d + e + 1 - 1 + (d + e + 1) = 2 * d + 2 * e + 1 by omega, show d - 1 + (d + e + 1) = 2 * d + e by omega]
    have : 0 ≤ e * (d + e) := Nat.zero_le _
    have k : ((2 * d + 2 * e + 1 : Nat) : Int) * d + (d + e) * e + e + d = ((2 * d + e : Nat) : Int) * ((d + e + 1 : Nat) : Int) := by
      grind
    have := Int.mul_nonneg (a := (d : Int) + e) (b := (e : Int)) (by omega) (by omega)
    omega
  · rw [Nat.min_self, Nat.min_eq_left (by omega)]
    exact Int.mul_lt_mul_of_pos_right (by omega) (by omega)
theorem worst_step {p d : Nat} (hd : 1 ≤ d) (h : d + 1 ≤ p) : worstV p (d + 1) < worstV p d := by
  unfold worstV
  rw [mk_lt (by omega) (by omega)]
  obtain ⟨e, rfl⟩ : ∃ e, p = d + e + 1 := ⟨p - d - 1, by omega⟩
  rw [Nat.min_eq_right (by omega), Nat.min_eq_right (by omega), show d + 1 - 1 + (d + e + 1) = 2 * d + e + 1 by omega, show d - 1 + (d + e + 1) = 2 * d + e by omega]
  grind
def overV (p d n : Nat) : Rat := mkRat (paidV p d n : Nat) (min p n)
theorem over_lt {p d n : Nat} (hp : 1 ≤ p) (hn : 1 ≤ n) (h : n < d) : overV p d n < worstV p d := by
  unfold overV worstV paidV
  rw [if_pos h, mk_lt (by omega) (by omega)]
  rcases Nat.le_total n p with h1 | h1
  · rw [Nat.min_eq_right h1, Int.mul_comm]
    exact Int.mul_lt_mul_of_pos_right (by omega) (by omega)
  · rw [Nat.min_eq_left h1, Nat.min_eq_left (by omega)]
    exact Int.mul_lt_mul_of_pos_right (by omega) (by omega)
theorem over_le {p d n : Nat} (hp : 1 ≤ p) (hd : 1 ≤ d) (h : d ≤ n) : ¬ worstV p d < overV p d n := by
  unfold overV worstV paidV
  rw [if_neg (by omega), mk_lt (by omega) (by omega)]
  have := Int.mul_le_mul_of_nonneg_left (c := ((d - 1 + p : Nat) : Int)) (a := ((min p d : Nat) : Int)) (b := ((min p n : Nat) : Int)) (by omega) (by omega)
  omega
theorem over_at {p d : Nat} : overV p d d = worstV p d := by
  unfold overV worstV paidV
  rw [if_neg (by omega)]
theorem worst_pos {p d : Nat} (hp : 1 ≤ p) (hd : 1 ≤ d) : 0 < worstV p d := by
  unfold worstV
  rw [← mk_zero, mk_lt (by omega) (by omega)]
  omega
theorem sp_best_day (p : Nat) (B : Bx) (hp : 1 ≤ p) (hq : p < 100) : d_best_day [.dat (.int p)] B = some (.dat (.int p), B) := by
  obtain ⟨s2, B2, e, h⟩ := forGo_inv (tg := gN 2) (body := best_day_L1) (rngD 2 (p - 1)) (fun i sl B' => B' = B ∧ ∃ t, sl = [some (.dat (.int p)), some (.dat (.int ((i + 1 : Nat) : Int))), t]) (fun i x sl B' hx hp => by
    obtain ⟨hi, rfl⟩ := rngD_get hx
    obtain ⟨rfl, t, rfl⟩ := hp
    refine ⟨_, [some (.dat (.int p)), some (.dat (.int ((i + 1 + 1 : Nat) : Int))), some (.dat (.int ((i + 1 + 1 : Nat) : Int)))], B', k_gN, .inl ?_, rfl, _, rfl⟩
    rw [show ((2 : Int) + (i : Int)) = ((i + 1 + 1 : Nat) : Int) by omega]
    have q := eq_true (worst_step (p := p) (d := i + 1) (by omega) (by omega))
    simp only [k_dC, k_var_ap, k_varO_ap, k_varV_ap, k_op, k_op1, k_op2, k_fin, k_tst, k_t1, k_t2, k_tF, k_opB, k_B, k_neg, k_neg1, k_andT, k_orT, k_notT, k_and1, k_and0, k_or1, k_or0, k_not1, k_tru, k_tru1, k_andV, k_orV, k_notV, k_andV1, k_andV0, k_orV1, k_orV0, k_notV1, k_if, k_if1, k_if0, k_ifD, k_nil, k_cons, k_cons1, k_cons2, k_nilA, k_consA, k_consA1, k_consA2, k_V, k_V1, k_F, k_F1, k_tup, k_tup1, k_lst, k_lst1, k_cl, k_cl1, k_clL, k_clL1, k_finL, k_isi, k_isi1, k_fn, k_fn1, k_dat, k_fnV, k_fnV1, k_seqI, k_seqI1, k_seqI2, k_rng1, k_rng1', k_rng2, k_rng2a, k_rng2b, k_enum, k_enum1, k_zip, k_zip1, k_zip2, k_P, k_P1, k_noP, k_sl, k_sl1, k_sl2, k_sl3, k_cmp, k_cmp1, k_yes, k_seq, k_seq1, k_seq2, k_seq3, k_seq4, k_next, k_brk, k_cont, k_retN, k_asg, k_asg1, k_asgV, k_asgV1, k_asgV2, k_asgV3, k_asgO, k_asgO1, k_asgG, k_asgG1, k_nx, k_gN, k_gT, k_gC, k_g1, k_g0, k_par, k_par1, k_par2, k_drop, k_drop1, k_ret, k_ret1, k_retV, k_retV1, k_ifS, k_ifS1, k_ifS0, k_ifSD, k_fz_ap, k_app, k_app1, k_for, k_for1, k_aug1, k_fun1, k_fun2, k_idx, k_idx1, k_idx2, k_lenC, k_lenC1, k_popC, k_bset, k_getC, k_getC1, k_getC2, k_at0, k_at1, k_at2, k_bg1, k_bg2, k_bs1, k_bs2, k_bc, k_pop1, sz0, sz1, sz2, sz3, sz4, sz5, sz6, k_fun, eqI, neI, addI, subI, ltI, leI, gtI, geI, truD, isTy, tyName, pyLen, pyAbs, pyMin2, pyMax2, pyInt, pyTuple, pyList, pyIx, pyIs, pyIsNot, isNon, nown, wipeD, Option.map_some, List.getElem?_cons_zero, List.getElem?_cons_succ, List.set_cons_zero, List.set_cons_succ, List.map_cons, List.map_nil, List.cons_append, List.nil_append, List.length_cons, List.length_nil, List.all_cons, List.all_nil, List.replicate_succ, List.replicate_zero, Bool.and_true, Bool.true_and, Bool.and_self, Bool.not_true, Bool.not_false, and_self, and_true, true_and, if_true, if_false, reduceIte, reduceCtorEq, decide_true, decide_false, Bool.false_eq_true, Nat.reduceAdd, Nat.reduceEqDiff, best_day_L1, sp_worst p (i + 1) B' (by omega) (by omega) (by omega), sp_worst p (i + 1 + 1) B' (by omega) (by omega) (by omega), sp_less _ _ B' (worst_Bd (p := p) (d := i + 1 + 1) (by omega) (by omega) hq (by omega)) (worst_Bd (p := p) (d := i + 1) (by omega) (by omega) hq (by omega)) (by decide), q])
    0 [some (.dat (.int p)), some (.dat (.int 1)), none] B (Nat.zero_le _) ⟨rfl, none, rfl⟩
  rw [rngD_length] at h
  obtain ⟨rfl, t, rfl⟩ := h
  rw [List.drop_zero] at e
  have r1 := rng_ok2 (i := 2) (j := (p : Int) + 1) (by decide) (by decide) (by omega) (by omega)
  have q1 : ((p : Int) + 1 - 2).toNat = p - 1 := by omega
  have q2 : p - 1 + 1 = p := by omega
  simp only [k_dC, k_var_ap, k_varO_ap, k_varV_ap, k_op, k_op1, k_op2, k_fin, k_tst, k_t1, k_t2, k_tF, k_opB, k_B, k_neg, k_neg1, k_andT, k_orT, k_notT, k_and1, k_and0, k_or1, k_or0, k_not1, k_tru, k_tru1, k_andV, k_orV, k_notV, k_andV1, k_andV0, k_orV1, k_orV0, k_notV1, k_if, k_if1, k_if0, k_ifD, k_nil, k_cons, k_cons1, k_cons2, k_nilA, k_consA, k_consA1, k_consA2, k_V, k_V1, k_F, k_F1, k_tup, k_tup1, k_lst, k_lst1, k_cl, k_cl1, k_clL, k_clL1, k_finL, k_isi, k_isi1, k_fn, k_fn1, k_dat, k_fnV, k_fnV1, k_seqI, k_seqI1, k_seqI2, k_rng1, k_rng1', k_rng2, k_rng2a, k_rng2b, k_enum, k_enum1, k_zip, k_zip1, k_zip2, k_P, k_P1, k_noP, k_sl, k_sl1, k_sl2, k_sl3, k_cmp, k_cmp1, k_yes, k_seq, k_seq1, k_seq2, k_seq3, k_seq4, k_next, k_brk, k_cont, k_retN, k_asg, k_asg1, k_asgV, k_asgV1, k_asgV2, k_asgV3, k_asgO, k_asgO1, k_asgG, k_asgG1, k_nx, k_gN, k_gT, k_gC, k_g1, k_g0, k_par, k_par1, k_par2, k_drop, k_drop1, k_ret, k_ret1, k_retV, k_retV1, k_ifS, k_ifS1, k_ifS0, k_ifSD, k_fz_ap, k_app, k_app1, k_for, k_for1, k_aug1, k_fun1, k_fun2, k_idx, k_idx1, k_idx2, k_lenC, k_lenC1, k_popC, k_bset, k_getC, k_getC1, k_getC2, k_at0, k_at1, k_at2, k_bg1, k_bg2, k_bs1, k_bs2, k_bc, k_pop1, sz0, sz1, sz2, sz3, sz4, sz5, sz6, k_fun, eqI, neI, addI, subI, ltI, leI, gtI, geI, truD, isTy, tyName, pyLen, pyAbs, pyMin2, pyMax2, pyInt, pyTuple, pyList, pyIx, pyIs, pyIsNot, isNon, nown, wipeD, Option.map_some, List.getElem?_cons_zero, List.getElem?_cons_succ, List.set_cons_zero, List.set_cons_succ, List.map_cons, List.map_nil, List.cons_append, List.nil_append, List.length_cons, List.length_nil, List.all_cons, List.all_nil, List.replicate_succ, List.replicate_zero, Bool.and_true, Bool.true_and, Bool.and_self, Bool.not_true, Bool.not_false, and_self, and_true, true_and, if_true, if_false, reduceIte, reduceCtorEq, decide_true, decide_false, Bool.false_eq_true, Nat.reduceAdd, Nat.reduceEqDiff, d_best_day, b_best_day, r1, q1, e, q2]
end Dn

set_option Elab.async false
set_option linter.all false
set_option autoImplicit false
set_option maxRecDepth 100000
set_option maxHeartbeats 4000000
set_option exponentiation.threshold 100000
namespace Dn
open PySem
def wh (cs : List Rat) : Nat → Rat
  | 0 => 0
  | i + 1 => wh cs i + cs.getD i 0
def tt (p d : Nat) (cs : List Rat) : Nat → Rat
  | 0 => 0
  | i + 1 => tt p d cs i + cs.getD i 0 * mkRat (paidV p d (i + 1) : Nat) 1
def avg (p d : Nat) (cs : List Rat) : Rat := tt p d cs cs.length * (wh cs cs.length)⁻¹
/-- chances as they are drawn -/
def Ch (cs : List Rat) : Prop := cs.length ≤ 8 ∧ ∀ c ∈ cs, Bd 2 c ∧ 0 ≤ c
theorem Bd_zero : Bd 1 (0 : Rat) := ⟨by decide, by decide⟩
theorem Ch_get {cs : List Rat} (h : Ch cs) (i : Nat) : Bd 2 (cs.getD i 0) ∧ 0 ≤ cs.getD i 0 := by
  rcases Nat.lt_or_ge i cs.length with z | z
  · rw [List.getD_eq_getElem?_getD, List.getElem?_eq_getElem z]
    exact h.2 _ (List.getElem_mem z)
  · rw [List.getD_eq_getElem?_getD, List.getElem?_eq_none z]
    exact ⟨Bd_zero.mono (by decide), Rat.le_refl⟩
theorem wh_Bd {cs : List Rat} (h : Ch cs) : ∀ i, Bd (1 + 3 * i) (wh cs i)
  | 0 => Bd_zero
  | i + 1 => (Bd_add (wh_Bd h i) (Ch_get h i).1).mono (by omega)
theorem wh_nn {cs : List Rat} (h : Ch cs) : ∀ i, 0 ≤ wh cs i
  | 0 => Rat.le_refl
  | i + 1 => Rat.add_nonneg (wh_nn h i) (Ch_get h i).2
theorem paid_Bd {p d n : Nat} (hp : p < 100) (hd : d < 200) (hn : n < 200) : Bd 9 (mkRat (paidV p d n : Nat) 1) := by
  refine Bd_mk ?_ (by decide) (by decide)
  rw [Int.natAbs_natCast]
  unfold paidV
  split <;> omega
theorem tt_Bd {p d : Nat} {cs : List Rat} (h : Ch cs) (hp : p < 100) (hd : d < 200) : ∀ i, i ≤ 8 → Bd (1 + 12 * i) (tt p d cs i)
  | 0, _ => Bd_zero
  | i + 1, hi => (Bd_add (tt_Bd h hp hd i (by omega)) (Bd_mul (Ch_get h i).1 (paid_Bd hp hd (by omega)))).mono (by omega)
theorem ratD_zero : PyData.tuple [.int 0, .int 1] = ratD 0 := rfl
theorem rat_int (n : Nat) : PyData.tuple [.int (n : Int), .int 1] = ratD (mkRat n 1) := by
  unfold ratD
  rw [Rat.num_mkRat, Rat.den_mkRat, if_neg (by decide), if_neg (by decide), Nat.gcd_one_left]
  simp
theorem cost_mul (c : Rat) (n : Nat) : c * mkRat (n : Int) 1 = mkRat (n * c.num) c.den := by
  have := Rat.mkRat_mul_mkRat c.num n c.den 1
  rw [Rat.mkRat_self] at this
  rw [this, Nat.mul_one, Int.mul_comm]
theorem add_cost (a c : Rat) (n : Nat) : a + c * mkRat (n : Int) 1 = mkRat (a.num * c.den + n * c.num * a.den) (a.den * c.den) := by
  rw [cost_mul]
  have := Rat.mkRat_add_mkRat a.num (n * c.num) a.den_nz c.den_nz
  rw [Rat.mkRat_self] at this
  exact this
theorem rat_inv {w : Rat} (h : 0 < w) : PyData.tuple [.int (w.den : Int), .int w.num] = ratD w⁻¹ := by
  have hn : 0 < w.num := by
    rw [Rat.lt_iff] at h
    simpa using h
  unfold ratD
  rw [Rat.num_inv, Rat.den_inv, if_neg (by omega), Int.sign_eq_one_of_pos hn, Int.one_mul]
  rw [show ((w.num.natAbs : Nat) : Int) = w.num by omega]
theorem inv_Bd {w : Rat} {k : Nat} (h : 0 < w) (hb : Bd k w) : Bd k w⁻¹ := by
  have hn : 0 < w.num := by
    rw [Rat.lt_iff] at h
    simpa using h
  refine ⟨?_, ?_⟩
  · rw [Rat.num_inv, Int.sign_eq_one_of_pos hn, Int.one_mul, Int.natAbs_natCast]; exact hb.2
  · rw [Rat.den_inv, if_neg (by omega)]; exact hb.1
theorem inv_num {w : Rat} (h : 0 < w) : 0 < w.num ∧ (w⁻¹).num = w.den ∧ ((w⁻¹).den : Int) = w.num := by
  have hn : 0 < w.num := by
    rw [Rat.lt_iff] at h
    simpa using h
  refine ⟨hn, ?_, ?_⟩
  · rw [Rat.num_inv, Int.sign_eq_one_of_pos hn, Int.one_mul]
  · rw [Rat.den_inv, if_neg (by omega)]; omega
theorem ratD_get {cs : List Rat} {i : Nat} {y : PyData} (h : (cs.map ratD)[i]? = some y) : y = ratD (cs.getD i 0) ∧ i < cs.length := by
  rw [List.getElem?_map] at h
  rw [List.getD_eq_getElem?_getD]
  rcases Nat.lt_or_ge i cs.length with z | z
  · rw [List.getElem?_eq_getElem z] at h ⊢
    cases h
    exact ⟨rfl, z⟩
  · rw [List.getElem?_eq_none z] at h; cases h
def avS (p d : Nat) (cs : List Rat) (i : Nat) (a b c : Option Sv) : Sl := [some (.dat (.int p)), some (.dat (.int d)), some (.dat (.tuple (cs.map ratD))), some (.dat (ratD (tt p d cs i))), some (.dat (ratD (wh cs i))), a, b, c]
theorem toN {a : Int} {k : Nat} (h : a.natAbs < 2 ^ k) (hk : k ≤ 4000) : a < 2 ^ 4000 :=
  Int.lt_of_le_of_lt (b := (a.natAbs : Int)) (by omega) (Int.lt_of_lt_of_le (toI h) (pow_mono hk))
theorem avg_body (p d : Nat) (cs : List Rat) (i : Nat) (hc : Ch cs) (hp : p < 100) (hd1 : 1 ≤ d) (hd : d < 200) (hi : i < cs.length) (c : Option Sv) (B : Bx) :
    average_cost_L1 (avS p d cs i (some (.dat (.int (i : Int)))) (some (.dat (ratD (cs.getD i 0)))) c) B = some (.nx (avS p d cs (i + 1) (some (.dat (.int (i : Int)))) (some (.dat (ratD (cs.getD i 0)))) (some (.dat (.int (paidV p d (i + 1)))))) B) := by
  have hl := hc.1
  have t0 := tt_Bd hc hp hd i (by omega)
  have w0 := wh_Bd hc i
  have c0 := (Ch_get hc i).1
  unfold avS
  rw [show tt p d cs (i + 1) = tt p d cs i + cs.getD i 0 * mkRat (paidV p d (i + 1) : Nat) 1 from rfl, show wh cs (i + 1) = wh cs i + cs.getD i 0 from rfl, add_cost, Rat.add_def']
  generalize cs.getD i 0 = c at *
  generalize tt p d cs i = t at *
  generalize wh cs i = w at *
  have hcost : (((paidV p d (i + 1) : Nat) : Int)).natAbs < 2 ^ 9 := by
    rw [Int.natAbs_natCast]; unfold paidV; split <;> omega
  generalize hpv : ((paidV p d (i + 1) : Nat) : Int) = pv at *
  have e1 := sp_cost_hired p d (i + 1) B hd1
  rw [hpv] at e1
  rw [show ((i + 1 : Nat) : Int) = (i : Int) + 1 from rfl] at e1
  have td := prod_lt t0.2 c0.2
  have wd := prod_lt w0.2 c0.2
  have e2 := sp_ratio (t.num * c.den + pv * c.num * t.den) ((t.den : Int) * c.den) B (by exact_mod_cast Nat.mul_pos t.den_pos c.den_pos) (by exact_mod_cast Nat.lt_of_lt_of_le td (Nat.pow_le_pow_right (by decide) (by omega)))
  have e3 := sp_ratio (w.num * c.den + c.num * w.den) ((w.den : Int) * c.den) B (by exact_mod_cast Nat.mul_pos w.den_pos c.den_pos) (by exact_mod_cast Nat.lt_of_lt_of_le wd (Nat.pow_le_pow_right (by decide) (by omega)))
  rw [← Int.natCast_mul, Int.toNat_natCast] at e2 e3
  rw [Int.natCast_mul] at e2 e3
  simp only [ratD] at e2 e3 ⊢
  simp only [k_dC, k_var_ap, k_varO_ap, k_varV_ap, k_op, k_op1, k_op2, k_fin, k_tst, k_t1, k_t2, k_tF, k_opB, k_B, k_neg, k_neg1, k_andT, k_orT, k_notT, k_and1, k_and0, k_or1, k_or0, k_not1, k_tru, k_tru1, k_andV, k_orV, k_notV, k_andV1, k_andV0, k_orV1, k_orV0, k_notV1, k_if, k_if1, k_if0, k_ifD, k_nil, k_cons, k_cons1, k_cons2, k_nilA, k_consA, k_consA1, k_consA2, k_V, k_V1, k_F, k_F1, k_tup, k_tup1, k_lst, k_lst1, k_cl, k_cl1, k_clL, k_clL1, k_finL, k_isi, k_isi1, k_fn, k_fn1, k_dat, k_fnV, k_fnV1, k_seqI, k_seqI1, k_seqI2, k_rng1, k_rng1', k_rng2, k_rng2a, k_rng2b, k_enum, k_enum1, k_zip, k_zip1, k_zip2, k_P, k_P1, k_noP, k_sl, k_sl1, k_sl2, k_sl3, k_cmp, k_cmp1, k_yes, k_seq, k_seq1, k_seq2, k_seq3, k_seq4, k_next, k_brk, k_cont, k_retN, k_asg, k_asg1, k_asgV, k_asgV1, k_asgV2, k_asgV3, k_asgO, k_asgO1, k_asgG, k_asgG1, k_nx, k_gN, k_gT, k_gC, k_g1, k_g0, k_par, k_par1, k_par2, k_drop, k_drop1, k_ret, k_ret1, k_retV, k_retV1, k_ifS, k_ifS1, k_ifS0, k_ifSD, k_fz_ap, k_app, k_app1, k_for, k_for1, k_aug1, k_fun1, k_fun2, k_idx, k_idx1, k_idx2, k_lenC, k_lenC1, k_popC, k_bset, k_getC, k_getC1, k_getC2, k_at0, k_at1, k_at2, k_bg1, k_bg2, k_bs1, k_bs2, k_bc, k_pop1, sz0, sz1, sz2, sz3, sz4, sz5, sz6, k_fun, eqI, neI, addI, subI, ltI, leI, gtI, geI, truD, isTy, tyName, pyLen, pyAbs, pyMin2, pyMax2, pyInt, pyTuple, pyList, pyIx, pyIs, pyIsNot, isNon, nown, wipeD, Option.map_some, List.getElem?_cons_zero, List.getElem?_cons_succ, List.set_cons_zero, List.set_cons_succ, List.map_cons, List.map_nil, List.cons_append, List.nil_append, List.length_cons, List.length_nil, List.all_cons, List.all_nil, List.replicate_succ, List.replicate_zero, Bool.and_true, Bool.true_and, Bool.and_self, Bool.not_true, Bool.not_false, and_self, and_true, true_and, if_true, if_false, reduceIte, reduceCtorEq, decide_true, decide_false, Bool.false_eq_true, Nat.reduceAdd, Nat.reduceEqDiff, average_cost_L1, e1, k_at0, k_at1, mulI (bd_mulOk (i := t.num) (j := (c.den : Int)) t0.1 c0.2 (by omega)), mulI (bd_mulOk (i := pv) (j := c.num) hcost c0.1 (by omega)), mulI (bd_mulOk (i := pv * c.num) (j := (t.den : Int)) (iprod_lt hcost c0.1) t0.2 (by omega)), mulI (bd_mulOk (i := (t.den : Int)) (j := (c.den : Int)) t0.2 c0.2 (by omega)), mulI (bd_mulOk (i := w.num) (j := (c.den : Int)) w0.1 c0.2 (by omega)), mulI (bd_mulOk (i := c.num) (j := (w.den : Int)) c0.1 w0.2 (by omega)), mulI (bd_mulOk (i := (w.den : Int)) (j := (c.den : Int)) w0.2 c0.2 (by omega)), e2, e3]
theorem sp_average (p d : Nat) (cs : List Rat) (B : Bx) (hc : Ch cs) (hp : p < 100) (hd1 : 1 ≤ d) (hd : d < 200) (hw : 0 < wh cs cs.length) : d_average_cost [.dat (.int p), .dat (.int d), .dat (.tuple (cs.map ratD))] B = some (.dat (ratD (avg p d cs)), B) := by
  have hl := hc.1
  obtain ⟨s2, B2, e, h⟩ := forGo_inv (tg := gT (gCons' (gN 5) (gCons' (gN 6) gNil'))) (body := average_cost_L1) (enumD 0 (cs.map ratD)) (fun i sl B' => B' = B ∧ ∃ a b c, sl = avS p d cs i a b c) (fun i x sl B' hx hp2 => by
    obtain ⟨y, hy, rfl⟩ := enumD_get _ _ _ _ hx
    obtain ⟨rfl, hi⟩ := ratD_get hy
    obtain ⟨rfl, a, b, c, rfl⟩ := hp2
    rw [Nat.zero_add]
    exact ⟨_, _, B', rfl, .inl (avg_body p d cs i hc hp hd1 hd hi c B'), rfl, _, _, _, rfl⟩)
    0 (avS p d cs 0 none none none) B (Nat.zero_le _) ⟨rfl, none, none, none, rfl⟩
  obtain ⟨rfl, a, b, c, rfl⟩ := h
  rw [enumD_length, List.length_map, List.drop_zero] at e
  have t0 := tt_Bd hc hp hd cs.length hl
  have w0 := wh_Bd hc cs.length
  have q := inv_num hw
  have w1 := inv_Bd hw w0
  have key : mkRat (tt p d cs cs.length).num (tt p d cs cs.length).den = tt p d cs cs.length := Rat.mkRat_self _
  have tgoal : avg p d cs = mkRat ((tt p d cs cs.length).num * (wh cs cs.length).den) ((tt p d cs cs.length).den * (wh cs cs.length)⁻¹.den) := by
    unfold avg
    rw [Rat.mul_def', q.2.1]
  rw [tgoal]
  unfold avS at e
  generalize tt p d cs cs.length = t at *
  generalize wh cs cs.length = w at *
  have td := prod_lt t0.2 w1.2
  have e2 := sp_ratio (t.num * w.den) ((t.den : Int) * (w⁻¹.den : Int)) B2 (by exact_mod_cast Nat.mul_pos t.den_pos w⁻¹.den_pos) (by exact_mod_cast Nat.lt_of_lt_of_le td (Nat.pow_le_pow_right (by decide) (by omega)))
  rw [← Int.natCast_mul, Int.toNat_natCast, Int.natCast_mul, q.2.2] at e2
  have z1 := ratD_zero
  have z2 : ratD (tt p d cs 0) = .tuple [.int 0, .int 1] := rfl
  have z3 : ratD (wh cs 0) = .tuple [.int 0, .int 1] := rfl
  rw [z2, z3] at e
  simp only [ratD] at e
  simp only [k_dC, k_var_ap, k_varO_ap, k_varV_ap, k_op, k_op1, k_op2, k_fin, k_tst, k_t1, k_t2, k_tF, k_opB, k_B, k_neg, k_neg1, k_andT, k_orT, k_notT, k_and1, k_and0, k_or1, k_or0, k_not1, k_tru, k_tru1, k_andV, k_orV, k_notV, k_andV1, k_andV0, k_orV1, k_orV0, k_notV1, k_if, k_if1, k_if0, k_ifD, k_nil, k_cons, k_cons1, k_cons2, k_nilA, k_consA, k_consA1, k_consA2, k_V, k_V1, k_F, k_F1, k_tup, k_tup1, k_lst, k_lst1, k_cl, k_cl1, k_clL, k_clL1, k_finL, k_isi, k_isi1, k_fn, k_fn1, k_dat, k_fnV, k_fnV1, k_seqI, k_seqI1, k_seqI2, k_rng1, k_rng1', k_rng2, k_rng2a, k_rng2b, k_enum, k_enum1, k_zip, k_zip1, k_zip2, k_P, k_P1, k_noP, k_sl, k_sl1, k_sl2, k_sl3, k_cmp, k_cmp1, k_yes, k_seq, k_seq1, k_seq2, k_seq3, k_seq4, k_next, k_brk, k_cont, k_retN, k_asg, k_asg1, k_asgV, k_asgV1, k_asgV2, k_asgV3, k_asgO, k_asgO1, k_asgG, k_asgG1, k_nx, k_gN, k_gT, k_gC, k_g1, k_g0, k_par, k_par1, k_par2, k_drop, k_drop1, k_ret, k_ret1, k_retV, k_retV1, k_ifS, k_ifS1, k_ifS0, k_ifSD, k_fz_ap, k_app, k_app1, k_for, k_for1, k_aug1, k_fun1, k_fun2, k_idx, k_idx1, k_idx2, k_lenC, k_lenC1, k_popC, k_bset, k_getC, k_getC1, k_getC2, k_at0, k_at1, k_at2, k_bg1, k_bg2, k_bs1, k_bs2, k_bc, k_pop1, sz0, sz1, sz2, sz3, sz4, sz5, sz6, k_fun, eqI, neI, addI, subI, ltI, leI, gtI, geI, truD, isTy, tyName, pyLen, pyAbs, pyMin2, pyMax2, pyInt, pyTuple, pyList, pyIx, pyIs, pyIsNot, isNon, nown, wipeD, Option.map_some, List.getElem?_cons_zero, List.getElem?_cons_succ, List.set_cons_zero, List.set_cons_succ, List.map_cons, List.map_nil, List.cons_append, List.nil_append, List.length_cons, List.length_nil, List.all_cons, List.all_nil, List.replicate_succ, List.replicate_zero, Bool.and_true, Bool.true_and, Bool.and_self, Bool.not_true, Bool.not_false, and_self, and_true, true_and, if_true, if_false, reduceIte, reduceCtorEq, decide_true, decide_false, Bool.false_eq_true, Nat.reduceAdd, Nat.reduceEqDiff, d_average_cost, b_average_cost, e, ratD, k_at0, k_at1, mulI (bd_mulOk (i := t.num) (j := (w.den : Int)) t0.1 w0.2 (by omega)), mulI (bd_mulOk (i := (t.den : Int)) (j := w.num) t0.2 w0.1 (by omega)), e2]
end Dn

set_option Elab.async false
set_option linter.all false
set_option autoImplicit false
set_option maxRecDepth 100000
set_option maxHeartbeats 4000000
set_option exponentiation.threshold 100000
namespace Dn
open PySem
theorem rlt_trans {a b c : Rat} (h1 : a < b) (h2 : b < c) : a < c := by grind
theorem rlt_le {a b c : Rat} (h1 : a < b) (h2 : b ≤ c) : a < c := by grind
theorem sh_rat (r : Rat) : SeqAt.shaped (ratD r) = true := rfl
theorem rat_ext {a b : Rat} (h1 : a.num = b.num) (h2 : a.den = b.den) : a = b := by
  rw [← Rat.mkRat_self a, ← Rat.mkRat_self b, h1, h2]
theorem eqv_rat (a b : Rat) : PyData.eqv (ratD a) (ratD b) = decide (a = b) := by
  unfold ratD
  unfold PyData.eqv PyData.eqvAll
  rw [eqv_ii]
  unfold PyData.eqvAll
  rw [eqv_ii]
  unfold PyData.eqvAll
  by_cases h : a = b
  · subst h; simp
  · rw [decide_eq_false h, Bool.and_true, Bool.and_eq_false_iff]
    by_cases h1 : a.num = b.num
    · right
      rw [beq_eq_false_iff_ne]
      intro h2
      exact h (rat_ext h1 (by omega))
    · left
      rw [beq_eq_false_iff_ne]
      exact h1
theorem eqR (a b : Rat) : pyEq (ratD a) (ratD b) = some (decide (a = b)) := by
  unfold pyEq
  rw [if_pos ⟨sh_rat a, sh_rat b⟩, eqv_rat]
theorem canLayAll {xs : List PyData} (h : ∀ x ∈ xs, x.canLay0 = true) : PyData.canLayAll0 xs = true := by
  induction xs with
  | nil => rfl
  | cons x r ih =>
    unfold PyData.canLayAll0
    rw [h x List.mem_cons_self, ih fun y hy => h y (List.mem_cons_of_mem _ hy)]
    rfl
theorem depthAll {xs : List PyData} {n : Nat} (h : ∀ x ∈ xs, x.depth ≤ n) : PyData.depthAll xs ≤ n := by
  induction xs with
  | nil => exact Nat.zero_le _
  | cons x r ih =>
    unfold PyData.depthAll
    exact Nat.max_le.mpr ⟨h x List.mem_cons_self, ih fun y hy => h y (List.mem_cons_of_mem _ hy)⟩
theorem sh_list {xs : List PyData} (h : ∀ x ∈ xs, x.canLay0 = true ∧ x.depth ≤ 60) : SeqAt.shaped (.list xs) = true := by
  unfold SeqAt.shaped PyData.canLay0 PyData.depth
  rw [canLayAll fun x hx => (h x hx).1]
  have := depthAll fun x hx => (h x hx).2
  rw [decide_eq_true (by omega)]
  rfl
theorem lay_rat (r : Rat) : (ratD r).canLay0 = true ∧ (ratD r).depth ≤ 60 := ⟨rfl, by show 1 ≤ 60; decide⟩
/-- the list of a function's values at 1 … n -/
def vals (f : Nat → Rat) (n : Nat) : List PyData := (List.range n).map fun k => ratD (f (k + 1))
theorem vals_succ (f : Nat → Rat) (n : Nat) : vals f (n + 1) = vals f n ++ [ratD (f (n + 1))] := by
  unfold vals
  rw [List.range_succ, List.map_append]
  rfl
theorem vals_length (f : Nat → Rat) (n : Nat) : (vals f n).length = n := by simp [vals]
theorem vals_get {f : Nat → Rat} {n i : Nat} {x : PyData} (h : (vals f n)[i]? = some x) : i < n ∧ x = ratD (f (i + 1)) := by
  unfold vals at h
  rw [List.getElem?_map] at h
  rcases Nat.lt_or_ge i n with z | z
  · rw [List.getElem?_range z] at h
    cases h
    exact ⟨z, rfl⟩
  · rw [List.getElem?_eq_none (by simpa using z)] at h; cases h
theorem vals_mem {f : Nat → Rat} {n : Nat} {x : PyData} (h : x ∈ vals f n) : ∃ i, i < n ∧ x = ratD (f (i + 1)) := by
  obtain ⟨i, hi⟩ := List.getElem?_of_mem h
  exact ⟨i, vals_get hi⟩
theorem vals_at {f : Nat → Rat} {n i : Nat} (h : i < n) : (vals f n)[i]? = some (ratD (f (i + 1))) := by
  unfold vals
  rw [List.getElem?_map, List.getElem?_range h]
  rfl
theorem find_vals (f : Nat → Rat) (v : Rat) (j : Nat) (h1 : f (j + 1) = v) (h2 : ∀ k, k < j → f (k + 1) ≠ v) : ∀ n, j < n → (vals f n).findIdx? (fun z => PyData.eqv z (ratD v)) = some j := by
  intro n hn
  rw [List.findIdx?_eq_some_iff_getElem]
  have hl := vals_length f n
  refine ⟨by omega, ?_, ?_⟩
  · have := vals_at (f := f) hn
    rw [List.getElem?_eq_getElem (by omega)] at this
    rw [Option.some.inj this, eqv_rat, h1]
    simp
  · intro k hk
    have := vals_at (f := f) (show k < n by omega)
    rw [List.getElem?_eq_getElem (by omega)] at this
    rw [Option.some.inj this, eqv_rat]
    simpa using h2 k hk
theorem index_vals (f : Nat → Rat) (n : Nat) (v : Rat) (j : Nat) (hn : j < n) (h1 : f (j + 1) = v) (h2 : ∀ k, k < j → f (k + 1) ≠ v) : pyIndex (vals f n) (ratD v) = some (.int (j : Nat)) := by
  unfold pyIndex
  rw [if_pos ⟨sh_list fun x hx => by obtain ⟨i, _, rfl⟩ := vals_mem hx; exact lay_rat _, sh_rat v⟩, find_vals f v j h1 h2 n hn]
  rfl
/-- the first place of the least value -/
def am (f : Nat → Rat) : Nat → Nat
  | 0 => 1
  | i + 1 => if f (i + 1) < f (am f i) then i + 1 else am f i
theorem am_ge (f : Nat → Rat) : ∀ i, 1 ≤ am f i
  | 0 => Nat.le_refl 1
  | i + 1 => by
    unfold am
    split
    · omega
    · exact am_ge f i
theorem am_le (f : Nat → Rat) : ∀ i, am f i ≤ max 1 i
  | 0 => by show 1 ≤ _; omega
  | i + 1 => by
    have := am_le f i
    unfold am
    split <;> omega
theorem am_least (f : Nat → Rat) : ∀ i j, 1 ≤ j → j ≤ i → ¬ f j < f (am f i)
  | 0, j, h1, h2 => by omega
  | i + 1, j, h1, h2 => by
    unfold am
    split
    · rename_i hl
      rcases Nat.lt_or_ge i j with z | z
      · have : j = i + 1 := by omega
        rw [this]; exact Rat.lt_irrefl
      · intro h
        exact am_least f i j h1 z (rlt_trans h hl)
    · rename_i hl
      rcases Nat.lt_or_ge i j with z | z
      · have : j = i + 1 := by omega
        rw [this]; exact hl
      · exact am_least f i j h1 z
theorem am_first (f : Nat → Rat) : ∀ i j, 1 ≤ j → j < am f i → f (am f i) < f j
  | 0, j, h1, h2 => by
    have : am f 0 = 1 := rfl
    omega
  | i + 1, j, h1, h2 => by
    unfold am at h2 ⊢
    split at h2
    · rename_i hl
      rw [if_pos hl]
      have := am_least f i j h1 (by omega)
      exact rlt_le hl (Rat.not_lt.mp this)
    · rename_i hl
      rw [if_neg hl]
      exact am_first f i j h1 h2
theorem am_index (f : Nat → Rat) (n : Nat) (hn : 1 ≤ n) : pyIndex (vals f n) (ratD (f (am f n))) = some (.int ((am f n - 1 : Nat) : Int)) := by
  have h1 := am_ge f n
  have h2 := am_le f n
  refine index_vals f n _ (am f n - 1) (by omega) (by rw [Nat.sub_add_cancel h1]) fun k hk e => ?_
  have := am_first f n (k + 1) (by omega) (by omega)
  rw [e] at this
  exact Rat.lt_irrefl this
end Dn

set_option Elab.async false
set_option linter.all false
set_option autoImplicit false
set_option maxRecDepth 100000
set_option maxHeartbeats 4000000
set_option exponentiation.threshold 100000
namespace Dn
open PySem
theorem loop_L5 {s0 s2 s3 s4 s5 s6 s7 s8 s9 s10 s12 s13 s14 s15 s16 s17 s18 s19 s20 s21 : Option Sv} (f : Nat → Rat) (n : Nat) (hf : ∀ k, 1 ≤ k → k ≤ n + 1 → Bd 150 (f k)) (B : Bx) : ∃ t, forGo (gN 10) law_L5 (vals f (n + 1)) [s0, some .box, s2, s3, s4, s5, s6, s7, s8, s9, s10, some (.dat (ratD (f 1))), s12, s13, s14, s15, s16, s17, s18, s19, s20, s21] B = some (.nx [s0, some .box, s2, s3, s4, s5, s6, s7, s8, s9, t, some (.dat (ratD (f (am f (n + 1))))), s12, s13, s14, s15, s16, s17, s18, s19, s20, s21] B) := by
  obtain ⟨s2, B2, e, h⟩ := forGo_inv (tg := gN 10) (body := law_L5) (vals f (n + 1)) (fun i sl B' => B' = B ∧ ∃ t, sl = [s0, some .box, s2, s3, s4, s5, s6, s7, s8, s9, t, some (.dat (ratD (f (am f i)))), s12, s13, s14, s15, s16, s17, s18, s19, s20, s21]) (fun i x sl B' hx hp => by
    obtain ⟨hi, rfl⟩ := vals_get hx
    obtain ⟨rfl, t, rfl⟩ := hp
    refine ⟨_, [s0, some .box, s2, s3, s4, s5, s6, s7, s8, s9, some (.dat (ratD (f (i + 1)))), some (.dat (ratD (f (am f (i + 1))))), s12, s13, s14, s15, s16, s17, s18, s19, s20, s21], B', rfl, .inl ?_, rfl, _, rfl⟩
    have hle := am_le f i
    have e := sp_law_less (f (i + 1)) (f (am f i)) B' (hf _ (by omega) (by omega)) (hf _ (am_ge f i) (by omega)) (by decide)
    by_cases hc : f (i + 1) < f (am f i)
    · have q : am f (i + 1) = i + 1 := if_pos hc
      have hc := eq_true hc
      simp only [k_dC, k_var_ap, k_varO_ap, k_varV_ap, k_op, k_op1, k_op2, k_fin, k_tst, k_t1, k_t2, k_tF, k_opB, k_B, k_neg, k_neg1, k_andT, k_orT, k_notT, k_and1, k_and0, k_or1, k_or0, k_not1, k_tru, k_tru1, k_andV, k_orV, k_notV, k_andV1, k_andV0, k_orV1, k_orV0, k_notV1, k_if, k_if1, k_if0, k_ifD, k_nil, k_cons, k_cons1, k_cons2, k_nilA, k_consA, k_consA1, k_consA2, k_V, k_V1, k_F, k_F1, k_tup, k_tup1, k_lst, k_lst1, k_cl, k_cl1, k_clL, k_clL1, k_finL, k_isi, k_isi1, k_fn, k_fn1, k_dat, k_fnV, k_fnV1, k_seqI, k_seqI1, k_seqI2, k_rng1, k_rng1', k_rng2, k_rng2a, k_rng2b, k_enum, k_enum1, k_zip, k_zip1, k_zip2, k_P, k_P1, k_noP, k_sl, k_sl1, k_sl2, k_sl3, k_cmp, k_cmp1, k_yes, k_seq, k_seq1, k_seq2, k_seq3, k_seq4, k_next, k_brk, k_cont, k_retN, k_asg, k_asg1, k_asgV, k_asgV1, k_asgV2, k_asgV3, k_asgO, k_asgO1, k_asgG, k_asgG1, k_nx, k_gN, k_gT, k_gC, k_g1, k_g0, k_par, k_par1, k_par2, k_drop, k_drop1, k_ret, k_ret1, k_retV, k_retV1, k_ifS, k_ifS1, k_ifS0, k_ifSD, k_fz_ap, k_app, k_app1, k_for, k_for1, k_aug1, k_fun1, k_fun2, k_idx, k_idx1, k_idx2, k_lenC, k_lenC1, k_popC, k_bset, k_getC, k_getC1, k_getC2, k_at0, k_at1, k_at2, k_bg1, k_bg2, k_bs1, k_bs2, k_bc, k_pop1, sz0, sz1, sz2, sz3, sz4, sz5, sz6, k_fun, eqI, neI, addI, subI, ltI, leI, gtI, geI, truD, isTy, tyName, pyLen, pyAbs, pyMin2, pyMax2, pyInt, pyTuple, pyList, pyIx, pyIs, pyIsNot, isNon, nown, wipeD, Option.map_some, List.getElem?_cons_zero, List.getElem?_cons_succ, List.set_cons_zero, List.set_cons_succ, List.map_cons, List.map_nil, List.cons_append, List.nil_append, List.length_cons, List.length_nil, List.all_cons, List.all_nil, List.replicate_succ, List.replicate_zero, Bool.and_true, Bool.true_and, Bool.and_self, Bool.not_true, Bool.not_false, and_self, and_true, true_and, if_true, if_false, reduceIte, reduceCtorEq, decide_true, decide_false, Bool.false_eq_true, Nat.reduceAdd, Nat.reduceEqDiff, law_L5, e, hc, q]
    · have q : am f (i + 1) = am f i := if_neg hc
      have hc := eq_false hc
      simp only [k_dC, k_var_ap, k_varO_ap, k_varV_ap, k_op, k_op1, k_op2, k_fin, k_tst, k_t1, k_t2, k_tF, k_opB, k_B, k_neg, k_neg1, k_andT, k_orT, k_notT, k_and1, k_and0, k_or1, k_or0, k_not1, k_tru, k_tru1, k_andV, k_orV, k_notV, k_andV1, k_andV0, k_orV1, k_orV0, k_notV1, k_if, k_if1, k_if0, k_ifD, k_nil, k_cons, k_cons1, k_cons2, k_nilA, k_consA, k_consA1, k_consA2, k_V, k_V1, k_F, k_F1, k_tup, k_tup1, k_lst, k_lst1, k_cl, k_cl1, k_clL, k_clL1, k_finL, k_isi, k_isi1, k_fn, k_fn1, k_dat, k_fnV, k_fnV1, k_seqI, k_seqI1, k_seqI2, k_rng1, k_rng1', k_rng2, k_rng2a, k_rng2b, k_enum, k_enum1, k_zip, k_zip1, k_zip2, k_P, k_P1, k_noP, k_sl, k_sl1, k_sl2, k_sl3, k_cmp, k_cmp1, k_yes, k_seq, k_seq1, k_seq2, k_seq3, k_seq4, k_next, k_brk, k_cont, k_retN, k_asg, k_asg1, k_asgV, k_asgV1, k_asgV2, k_asgV3, k_asgO, k_asgO1, k_asgG, k_asgG1, k_nx, k_gN, k_gT, k_gC, k_g1, k_g0, k_par, k_par1, k_par2, k_drop, k_drop1, k_ret, k_ret1, k_retV, k_retV1, k_ifS, k_ifS1, k_ifS0, k_ifSD, k_fz_ap, k_app, k_app1, k_for, k_for1, k_aug1, k_fun1, k_fun2, k_idx, k_idx1, k_idx2, k_lenC, k_lenC1, k_popC, k_bset, k_getC, k_getC1, k_getC2, k_at0, k_at1, k_at2, k_bg1, k_bg2, k_bs1, k_bs2, k_bc, k_pop1, sz0, sz1, sz2, sz3, sz4, sz5, sz6, k_fun, eqI, neI, addI, subI, ltI, leI, gtI, geI, truD, isTy, tyName, pyLen, pyAbs, pyMin2, pyMax2, pyInt, pyTuple, pyList, pyIx, pyIs, pyIsNot, isNon, nown, wipeD, Option.map_some, List.getElem?_cons_zero, List.getElem?_cons_succ, List.set_cons_zero, List.set_cons_succ, List.map_cons, List.map_nil, List.cons_append, List.nil_append, List.length_cons, List.length_nil, List.all_cons, List.all_nil, List.replicate_succ, List.replicate_zero, Bool.and_true, Bool.true_and, Bool.and_self, Bool.not_true, Bool.not_false, and_self, and_true, true_and, if_true, if_false, reduceIte, reduceCtorEq, decide_true, decide_false, Bool.false_eq_true, Nat.reduceAdd, Nat.reduceEqDiff, law_L5, e, hc, q])
    0 [s0, some .box, s2, s3, s4, s5, s6, s7, s8, s9, s10, some (.dat (ratD (f 1))), s12, s13, s14, s15, s16, s17, s18, s19, s20, s21] B (Nat.zero_le _) ⟨rfl, s10, rfl⟩
  rw [vals_length] at h
  obtain ⟨rfl, t, rfl⟩ := h
  exact ⟨t, e⟩
def atI (p d i : Nat) (m : Option Sv) (a : Option Sv) : Prop := (i < d ∧ ∃ r k, m = some (.dat (ratD r)) ∧ a = some (.dat (.int k)) ∧ r < worstV p d ∧ Bd 9 r) ∨ (d ≤ i ∧ m = some (.dat (ratD (worstV p d))) ∧ a = some (.dat (.int d)))
theorem over_Bd {p d n : Nat} (hp : 1 ≤ p) (hq : p < 100) (hd : d < 200) (hn : 1 ≤ n) (hn' : n < 200) : Bd 9 (overV p d n) := by
  refine Bd_mk ?_ (by omega) (by omega)
  rw [Int.natAbs_natCast]
  unfold paidV
  split <;> omega
theorem body_L6 {s0 s2 s4 s9 s10 s11 s12 s13 s14 s15 s16 s17 s18 s19 s20 s21 : Option Sv} (p d i : Nat) (hp : 1 ≤ p) (hq : p < 100) (hd : 1 ≤ d) (hd' : d < 200) (hi : i < 199) (r : Rat) (k : Int) (hr : Bd 9 r) (B : Bx) :
    law_L6 [s0, some .box, s2, some (.dat (.int p)), s4, some (.dat (.int d)), some (.dat (ratD r)), some (.dat (.int k)), some (.dat (.int ((i + 1 : Nat) : Int))), s9, s10, s11, s12, s13, s14, s15, s16, s17, s18, s19, s20, s21] B = some (.nx [s0, some .box, s2, some (.dat (.int p)), s4, some (.dat (.int d)), some (.dat (ratD (if r < overV p d (i + 1) then overV p d (i + 1) else r))), some (.dat (.int (if r < overV p d (i + 1) then ((i + 1 : Nat) : Int) else k))), some (.dat (.int ((i + 1 : Nat) : Int))), some (.dat (.int (paidV p d (i + 1)))), some (.dat (ratD (overV p d (i + 1)))), s11, s12, s13, s14, s15, s16, s17, s18, s19, s20, s21] B) := by
  have e1 := sp_paid p d (i + 1) B hd (by omega)
  have e2 := sp_law_ratio (paidV p d (i + 1) : Nat) ((min p (i + 1) : Nat) : Int) B (by omega) (small_int (by omega)) (small_intA (by rw [Int.natAbs_natCast]; unfold paidV; split <;> omega))
  rw [Int.toNat_natCast] at e2
  have e3 := sp_law_less r (overV p d (i + 1)) B hr (over_Bd (d := d) hp hq hd' (by omega) (by omega)) (by decide)
  unfold overV at e3 ⊢
  by_cases hc : r < mkRat (paidV p d (i + 1) : Nat) (min p (i + 1))
  · have hc := eq_true hc
    simp only [k_dC, k_var_ap, k_varO_ap, k_varV_ap, k_op, k_op1, k_op2, k_fin, k_tst, k_t1, k_t2, k_tF, k_opB, k_B, k_neg, k_neg1, k_andT, k_orT, k_notT, k_and1, k_and0, k_or1, k_or0, k_not1, k_tru, k_tru1, k_andV, k_orV, k_notV, k_andV1, k_andV0, k_orV1, k_orV0, k_notV1, k_if, k_if1, k_if0, k_ifD, k_nil, k_cons, k_cons1, k_cons2, k_nilA, k_consA, k_consA1, k_consA2, k_V, k_V1, k_F, k_F1, k_tup, k_tup1, k_lst, k_lst1, k_cl, k_cl1, k_clL, k_clL1, k_finL, k_isi, k_isi1, k_fn, k_fn1, k_dat, k_fnV, k_fnV1, k_seqI, k_seqI1, k_seqI2, k_rng1, k_rng1', k_rng2, k_rng2a, k_rng2b, k_enum, k_enum1, k_zip, k_zip1, k_zip2, k_P, k_P1, k_noP, k_sl, k_sl1, k_sl2, k_sl3, k_cmp, k_cmp1, k_yes, k_seq, k_seq1, k_seq2, k_seq3, k_seq4, k_next, k_brk, k_cont, k_retN, k_asg, k_asg1, k_asgV, k_asgV1, k_asgV2, k_asgV3, k_asgO, k_asgO1, k_asgG, k_asgG1, k_nx, k_gN, k_gT, k_gC, k_g1, k_g0, k_par, k_par1, k_par2, k_drop, k_drop1, k_ret, k_ret1, k_retV, k_retV1, k_ifS, k_ifS1, k_ifS0, k_ifSD, k_fz_ap, k_app, k_app1, k_for, k_for1, k_aug1, k_fun1, k_fun2, k_idx, k_idx1, k_idx2, k_lenC, k_lenC1, k_popC, k_bset, k_getC, k_getC1, k_getC2, k_at0, k_at1, k_at2, k_bg1, k_bg2, k_bs1, k_bs2, k_bc, k_pop1, sz0, sz1, sz2, sz3, sz4, sz5, sz6, k_fun, eqI, neI, addI, subI, ltI, leI, gtI, geI, truD, isTy, tyName, pyLen, pyAbs, pyMin2, pyMax2, pyInt, pyTuple, pyList, pyIx, pyIs, pyIsNot, isNon, nown, wipeD, Option.map_some, List.getElem?_cons_zero, List.getElem?_cons_succ, List.set_cons_zero, List.set_cons_succ, List.map_cons, List.map_nil, List.cons_append, List.nil_append, List.length_cons, List.length_nil, List.all_cons, List.all_nil, List.replicate_succ, List.replicate_zero, Bool.and_true, Bool.true_and, Bool.and_self, Bool.not_true, Bool.not_false, and_self, and_true, true_and, if_true, if_false, reduceIte, reduceCtorEq, decide_true, decide_false, Bool.false_eq_true, Nat.reduceAdd, Nat.reduceEqDiff, law_L6, e1, minN, e2, e3, hc]
  · have hc := eq_false hc
    simp only [k_dC, k_var_ap, k_varO_ap, k_varV_ap, k_op, k_op1, k_op2, k_fin, k_tst, k_t1, k_t2, k_tF, k_opB, k_B, k_neg, k_neg1, k_andT, k_orT, k_notT, k_and1, k_and0, k_or1, k_or0, k_not1, k_tru, k_tru1, k_andV, k_orV, k_notV, k_andV1, k_andV0, k_orV1, k_orV0, k_notV1, k_if, k_if1, k_if0, k_ifD, k_nil, k_cons, k_cons1, k_cons2, k_nilA, k_consA, k_consA1, k_consA2, k_V, k_V1, k_F, k_F1, k_tup, k_tup1, k_lst, k_lst1, k_cl, k_cl1, k_clL, k_clL1, k_finL, k_isi, k_isi1, k_fn, k_fn1, k_dat, k_fnV, k_fnV1, k_seqI, k_seqI1, k_seqI2, k_rng1, k_rng1', k_rng2, k_rng2a, k_rng2b, k_enum, k_enum1, k_zip, k_zip1, k_zip2, k_P, k_P1, k_noP, k_sl, k_sl1, k_sl2, k_sl3, k_cmp, k_cmp1, k_yes, k_seq, k_seq1, k_seq2, k_seq3, k_seq4, k_next, k_brk, k_cont, k_retN, k_asg, k_asg1, k_asgV, k_asgV1, k_asgV2, k_asgV3, k_asgO, k_asgO1, k_asgG, k_asgG1, k_nx, k_gN, k_gT, k_gC, k_g1, k_g0, k_par, k_par1, k_par2, k_drop, k_drop1, k_ret, k_ret1, k_retV, k_retV1, k_ifS, k_ifS1, k_ifS0, k_ifSD, k_fz_ap, k_app, k_app1, k_for, k_for1, k_aug1, k_fun1, k_fun2, k_idx, k_idx1, k_idx2, k_lenC, k_lenC1, k_popC, k_bset, k_getC, k_getC1, k_getC2, k_at0, k_at1, k_at2, k_bg1, k_bg2, k_bs1, k_bs2, k_bc, k_pop1, sz0, sz1, sz2, sz3, sz4, sz5, sz6, k_fun, eqI, neI, addI, subI, ltI, leI, gtI, geI, truD, isTy, tyName, pyLen, pyAbs, pyMin2, pyMax2, pyInt, pyTuple, pyList, pyIx, pyIs, pyIsNot, isNon, nown, wipeD, Option.map_some, List.getElem?_cons_zero, List.getElem?_cons_succ, List.set_cons_zero, List.set_cons_succ, List.map_cons, List.map_nil, List.cons_append, List.nil_append, List.length_cons, List.length_nil, List.all_cons, List.all_nil, List.replicate_succ, List.replicate_zero, Bool.and_true, Bool.true_and, Bool.and_self, Bool.not_true, Bool.not_false, and_self, and_true, true_and, if_true, if_false, reduceIte, reduceCtorEq, decide_true, decide_false, Bool.false_eq_true, Nat.reduceAdd, Nat.reduceEqDiff, law_L6, e1, minN, e2, e3, hc]
theorem loop_L6 {s0 s2 s4 s8 s9 s10 s11 s12 s13 s14 s15 s16 s17 s18 s19 s20 s21 : Option Sv} (p d : Nat) (hp : 1 ≤ p) (hq : p < 50) (hd : 1 ≤ d) (hd' : d ≤ 2 * p + 2) (B : Bx) : ∃ t8 t9 t10, forGo (gN 8) law_L6 (rngD 1 (3 * p + 4)) [s0, some .box, s2, some (.dat (.int p)), s4, some (.dat (.int d)), some (.dat (.tuple [.int 0, .int 1])), some (.dat (.int 0)), s8, s9, s10, s11, s12, s13, s14, s15, s16, s17, s18, s19, s20, s21] B = some (.nx [s0, some .box, s2, some (.dat (.int p)), s4, some (.dat (.int d)), some (.dat (ratD (worstV p d))), some (.dat (.int d)), t8, t9, t10, s11, s12, s13, s14, s15, s16, s17, s18, s19, s20, s21] B) := by
  obtain ⟨s2, B2, e, h⟩ := forGo_inv (tg := gN 8) (body := law_L6) (rngD 1 (3 * p + 4)) (fun i sl B' => B' = B ∧ ∃ t6 t7 t8 t9 t10, atI p d i t6 t7 ∧ sl = [s0, some .box, s2, some (.dat (.int p)), s4, some (.dat (.int d)), t6, t7, t8, t9, t10, s11, s12, s13, s14, s15, s16, s17, s18, s19, s20, s21]) (fun i x sl B' hx hp2 => by
    obtain ⟨hi, rfl⟩ := rngD_get hx
    obtain ⟨rfl, t6, t7, t8, t9, t10, hat, rfl⟩ := hp2
    rw [show ((1 : Int) + (i : Int)) = ((i + 1 : Nat) : Int) by omega]
    rcases hat with ⟨h1, r, k, rfl, rfl, h2, h3⟩ | ⟨h1, rfl, rfl⟩
    · refine ⟨_, _, B', rfl, .inl (body_L6 p d i hp (by omega) hd (by omega) (by omega) r k h3 B'), rfl, _, _, _, _, _, ?_, rfl⟩
      by_cases hd2 : i + 1 = d
      · right
        have hov : overV p d (i + 1) = worstV p d := by rw [hd2]; exact over_at
        rw [hov, if_pos h2, if_pos h2, hd2]
        exact ⟨Nat.le_refl _, rfl, rfl⟩
      · left
        refine ⟨by omega, _, _, rfl, rfl, ?_, ?_⟩
        · split
          · exact over_lt hp (by omega) (by omega)
          · exact h2
        · split
          · exact over_Bd hp (by omega) (by omega) (by omega) (by omega)
          · exact h3
    · refine ⟨_, _, B', rfl, .inl (body_L6 p d i hp (by omega) hd (by omega) (by omega) _ _ (worst_Bd hp hd (by omega) (by omega)) B'), rfl, _, _, _, _, _, ?_, rfl⟩
      right
      have hn := over_le (p := p) (d := d) (n := i + 1) hp hd (by omega)
      rw [if_neg hn, if_neg hn]
      exact ⟨by omega, rfl, rfl⟩)
    0 [s0, some .box, s2, some (.dat (.int p)), s4, some (.dat (.int d)), some (.dat (.tuple [.int 0, .int 1])), some (.dat (.int 0)), s8, s9, s10, s11, s12, s13, s14, s15, s16, s17, s18, s19, s20, s21] B (Nat.zero_le _) ⟨rfl, _, _, s8, s9, s10, .inl ⟨hd, 0, 0, rfl, rfl, worst_pos hp hd, Bd_zero.mono (by decide)⟩, rfl⟩
  rw [rngD_length] at h
  obtain ⟨rfl, t6, t7, t8, t9, t10, hat, rfl⟩ := h
  rcases hat with ⟨h1, _⟩ | ⟨_, rfl, rfl⟩
  · omega
  · exact ⟨t8, t9, t10, e⟩
end Dn

set_option Elab.async false
set_option linter.all false
set_option autoImplicit false
set_option maxRecDepth 100000
set_option maxHeartbeats 4000000
set_option exponentiation.threshold 100000
namespace Dn
open PySem
theorem loop_L1 {s0 s2 s3 s4 s5 s6 s7 s8 s9 s10 s11 s12 s13 s14 s15 s16 s17 s18 s19 s20 : Option Sv} (f : Nat → Rat) (n : Nat) (hf : ∀ k, 1 ≤ k → k ≤ n + 1 → Bd 150 (f k)) (B : Bx) : ∃ t, forGo (gN 10) law_L1 (vals f (n + 1)) [s0, some .box, s2, s3, s4, s5, s6, s7, s8, s9, s10, s11, s12, s13, s14, s15, s16, s17, s18, s19, s20, some (.dat (ratD (f 1)))] B = some (.nx [s0, some .box, s2, s3, s4, s5, s6, s7, s8, s9, t, s11, s12, s13, s14, s15, s16, s17, s18, s19, s20, some (.dat (ratD (f (am f (n + 1)))))] B) := by
  obtain ⟨s2, B2, e, h⟩ := forGo_inv (tg := gN 10) (body := law_L1) (vals f (n + 1)) (fun i sl B' => B' = B ∧ ∃ t, sl = [s0, some .box, s2, s3, s4, s5, s6, s7, s8, s9, t, s11, s12, s13, s14, s15, s16, s17, s18, s19, s20, some (.dat (ratD (f (am f i))))]) (fun i x sl B' hx hp => by
    obtain ⟨hi, rfl⟩ := vals_get hx
    obtain ⟨rfl, t, rfl⟩ := hp
    refine ⟨_, [s0, some .box, s2, s3, s4, s5, s6, s7, s8, s9, some (.dat (ratD (f (i + 1)))), s11, s12, s13, s14, s15, s16, s17, s18, s19, s20, some (.dat (ratD (f (am f (i + 1)))))], B', rfl, .inl ?_, rfl, _, rfl⟩
    have hle := am_le f i
    have e := sp_law_less (f (i + 1)) (f (am f i)) B' (hf _ (by omega) (by omega)) (hf _ (am_ge f i) (by omega)) (by decide)
    by_cases hc : f (i + 1) < f (am f i)
    · have q : am f (i + 1) = i + 1 := if_pos hc
      have hc := eq_true hc
      simp only [k_dC, k_var_ap, k_varO_ap, k_varV_ap, k_op, k_op1, k_op2, k_fin, k_tst, k_t1, k_t2, k_tF, k_opB, k_B, k_neg, k_neg1, k_andT, k_orT, k_notT, k_and1, k_and0, k_or1, k_or0, k_not1, k_tru, k_tru1, k_andV, k_orV, k_notV, k_andV1, k_andV0, k_orV1, k_orV0, k_notV1, k_if, k_if1, k_if0, k_ifD, k_nil, k_cons, k_cons1, k_cons2, k_nilA, k_consA, k_consA1, k_consA2, k_V, k_V1, k_F, k_F1, k_tup, k_tup1, k_lst, k_lst1, k_cl, k_cl1, k_clL, k_clL1, k_finL, k_isi, k_isi1, k_fn, k_fn1, k_dat, k_fnV, k_fnV1, k_seqI, k_seqI1, k_seqI2, k_rng1, k_rng1', k_rng2, k_rng2a, k_rng2b, k_enum, k_enum1, k_zip, k_zip1, k_zip2, k_P, k_P1, k_noP, k_sl, k_sl1, k_sl2, k_sl3, k_cmp, k_cmp1, k_yes, k_seq, k_seq1, k_seq2, k_seq3, k_seq4, k_next, k_brk, k_cont, k_retN, k_asg, k_asg1, k_asgV, k_asgV1, k_asgV2, k_asgV3, k_asgO, k_asgO1, k_asgG, k_asgG1, k_nx, k_gN, k_gT, k_gC, k_g1, k_g0, k_par, k_par1, k_par2, k_drop, k_drop1, k_ret, k_ret1, k_retV, k_retV1, k_ifS, k_ifS1, k_ifS0, k_ifSD, k_fz_ap, k_app, k_app1, k_for, k_for1, k_aug1, k_fun1, k_fun2, k_idx, k_idx1, k_idx2, k_lenC, k_lenC1, k_popC, k_bset, k_getC, k_getC1, k_getC2, k_at0, k_at1, k_at2, k_bg1, k_bg2, k_bs1, k_bs2, k_bc, k_pop1, sz0, sz1, sz2, sz3, sz4, sz5, sz6, k_fun, eqI, neI, addI, subI, ltI, leI, gtI, geI, truD, isTy, tyName, pyLen, pyAbs, pyMin2, pyMax2, pyInt, pyTuple, pyList, pyIx, pyIs, pyIsNot, isNon, nown, wipeD, Option.map_some, List.getElem?_cons_zero, List.getElem?_cons_succ, List.set_cons_zero, List.set_cons_succ, List.map_cons, List.map_nil, List.cons_append, List.nil_append, List.length_cons, List.length_nil, List.all_cons, List.all_nil, List.replicate_succ, List.replicate_zero, Bool.and_true, Bool.true_and, Bool.and_self, Bool.not_true, Bool.not_false, and_self, and_true, true_and, if_true, if_false, reduceIte, reduceCtorEq, decide_true, decide_false, Bool.false_eq_true, Nat.reduceAdd, Nat.reduceEqDiff, law_L1, e, hc, q]
    · have q : am f (i + 1) = am f i := if_neg hc
      have hc := eq_false hc
      simp only [k_dC, k_var_ap, k_varO_ap, k_varV_ap, k_op, k_op1, k_op2, k_fin, k_tst, k_t1, k_t2, k_tF, k_opB, k_B, k_neg, k_neg1, k_andT, k_orT, k_notT, k_and1, k_and0, k_or1, k_or0, k_not1, k_tru, k_tru1, k_andV, k_orV, k_notV, k_andV1, k_andV0, k_orV1, k_orV0, k_notV1, k_if, k_if1, k_if0, k_ifD, k_nil, k_cons, k_cons1, k_cons2, k_nilA, k_consA, k_consA1, k_consA2, k_V, k_V1, k_F, k_F1, k_tup, k_tup1, k_lst, k_lst1, k_cl, k_cl1, k_clL, k_clL1, k_finL, k_isi, k_isi1, k_fn, k_fn1, k_dat, k_fnV, k_fnV1, k_seqI, k_seqI1, k_seqI2, k_rng1, k_rng1', k_rng2, k_rng2a, k_rng2b, k_enum, k_enum1, k_zip, k_zip1, k_zip2, k_P, k_P1, k_noP, k_sl, k_sl1, k_sl2, k_sl3, k_cmp, k_cmp1, k_yes, k_seq, k_seq1, k_seq2, k_seq3, k_seq4, k_next, k_brk, k_cont, k_retN, k_asg, k_asg1, k_asgV, k_asgV1, k_asgV2, k_asgV3, k_asgO, k_asgO1, k_asgG, k_asgG1, k_nx, k_gN, k_gT, k_gC, k_g1, k_g0, k_par, k_par1, k_par2, k_drop, k_drop1, k_ret, k_ret1, k_retV, k_retV1, k_ifS, k_ifS1, k_ifS0, k_ifSD, k_fz_ap, k_app, k_app1, k_for, k_for1, k_aug1, k_fun1, k_fun2, k_idx, k_idx1, k_idx2, k_lenC, k_lenC1, k_popC, k_bset, k_getC, k_getC1, k_getC2, k_at0, k_at1, k_at2, k_bg1, k_bg2, k_bs1, k_bs2, k_bc, k_pop1, sz0, sz1, sz2, sz3, sz4, sz5, sz6, k_fun, eqI, neI, addI, subI, ltI, leI, gtI, geI, truD, isTy, tyName, pyLen, pyAbs, pyMin2, pyMax2, pyInt, pyTuple, pyList, pyIx, pyIs, pyIsNot, isNon, nown, wipeD, Option.map_some, List.getElem?_cons_zero, List.getElem?_cons_succ, List.set_cons_zero, List.set_cons_succ, List.map_cons, List.map_nil, List.cons_append, List.nil_append, List.length_cons, List.length_nil, List.all_cons, List.all_nil, List.replicate_succ, List.replicate_zero, Bool.and_true, Bool.true_and, Bool.and_self, Bool.not_true, Bool.not_false, and_self, and_true, true_and, if_true, if_false, reduceIte, reduceCtorEq, decide_true, decide_false, Bool.false_eq_true, Nat.reduceAdd, Nat.reduceEqDiff, law_L1, e, hc, q])
    0 [s0, some .box, s2, s3, s4, s5, s6, s7, s8, s9, s10, s11, s12, s13, s14, s15, s16, s17, s18, s19, s20, some (.dat (ratD (f 1)))] B (Nat.zero_le _) ⟨rfl, s10, rfl⟩
  rw [vals_length] at h
  obtain ⟨rfl, t, rfl⟩ := h
  exact ⟨t, e⟩
theorem ratD_at0 (r : Rat) : pyIx (ratD r) (.int 0) = some (.int r.num) := by unfold ratD pyIx; rfl
theorem sameT {d : PyData} (B : Bx) (h1 : dep d < 8) (h2 : pln d = true) : d_law_same 8 [.dat d, .dat d] B = some (.dat (.bool true), B) := sp_same 8 d B h1 h2
theorem pln_rat (r : Rat) : pln (ratD r) = true := rfl
theorem dep_rat (r : Rat) : dep (ratD r) = 1 := rfl
theorem mul3 {p : Nat} : pyMul (.int 3) (.int p) = some (.int (3 * p)) := mulI (mulOk_l (by decide) (by decide))
theorem mul2 {p : Nat} : pyMul (.int 2) (.int p) = some (.int (2 * p)) := mulI (mulOk_l (by decide) (by decide))
theorem body_L7 {s0 s2 s6 s7 s8 s9 s10 s11 s12 s13 s14 s15 s16 s17 s18 s19 s20 s21 : Option Sv} (p d : Nat) (xs : List PyData) (hx : xs.length < 500) (hp : 1 ≤ p) (hq : p < 50) (hd : 1 ≤ d) (hd' : d ≤ 2 * p + 2) (B : Bx) : ∃ t6 t7 t8 t9 t10, law_L7 [s0, some .box, s2, some (.dat (.int p)), some (.own xs), some (.dat (.int d)), s6, s7, s8, s9, s10, s11, s12, s13, s14, s15, s16, s17, s18, s19, s20, s21] B = some (.nx [s0, some .box, s2, some (.dat (.int p)), some (.own (xs ++ [ratD (worstV p d)])), some (.dat (.int d)), t6, t7, t8, t9, t10, s11, s12, s13, s14, s15, s16, s17, s18, s19, s20, s21] B) := by
  obtain ⟨t8, t9, t10, e⟩ := loop_L6 (s0 := s0) (s2 := s2) (s4 := some (.own xs)) (s8 := s8) (s9 := s9) (s10 := s10) (s11 := s11) (s12 := s12) (s13 := s13) (s14 := s14) (s15 := s15) (s16 := s16) (s17 := s17) (s18 := s18) (s19 := s19) (s20 := s20) (s21 := s21) p d hp hq hd hd' B
  refine ⟨some (.dat (ratD (worstV p d))), some (.dat (.int d)), t8, t9, t10, ?_⟩
  have r1 := rng_ok2 (i := 1) (j := 3 * (p : Int) + 5) (by decide) (by decide) (by omega) (by omega)
  have r2 : (3 * (p : Int) + 5 - 1).toNat = 3 * p + 4 := by omega
  have r3 : (xs.length < sizeLine) = True := eq_true (szlt (by omega))
  have e2 := sameT (d := .tuple [ratD (worstV p d), .int d]) B (by show 2 < 8; decide) rfl
  simp only [k_dC, k_var_ap, k_varO_ap, k_varV_ap, k_op, k_op1, k_op2, k_fin, k_tst, k_t1, k_t2, k_tF, k_opB, k_B, k_neg, k_neg1, k_andT, k_orT, k_notT, k_and1, k_and0, k_or1, k_or0, k_not1, k_tru, k_tru1, k_andV, k_orV, k_notV, k_andV1, k_andV0, k_orV1, k_orV0, k_notV1, k_if, k_if1, k_if0, k_ifD, k_nil, k_cons, k_cons1, k_cons2, k_nilA, k_consA, k_consA1, k_consA2, k_V, k_V1, k_F, k_F1, k_tup, k_tup1, k_lst, k_lst1, k_cl, k_cl1, k_clL, k_clL1, k_finL, k_isi, k_isi1, k_fn, k_fn1, k_dat, k_fnV, k_fnV1, k_seqI, k_seqI1, k_seqI2, k_rng1, k_rng1', k_rng2, k_rng2a, k_rng2b, k_enum, k_enum1, k_zip, k_zip1, k_zip2, k_P, k_P1, k_noP, k_sl, k_sl1, k_sl2, k_sl3, k_cmp, k_cmp1, k_yes, k_seq, k_seq1, k_seq2, k_seq3, k_seq4, k_next, k_brk, k_cont, k_retN, k_asg, k_asg1, k_asgV, k_asgV1, k_asgV2, k_asgV3, k_asgO, k_asgO1, k_asgG, k_asgG1, k_nx, k_gN, k_gT, k_gC, k_g1, k_g0, k_par, k_par1, k_par2, k_drop, k_drop1, k_ret, k_ret1, k_retV, k_retV1, k_ifS, k_ifS1, k_ifS0, k_ifSD, k_fz_ap, k_app, k_app1, k_for, k_for1, k_aug1, k_fun1, k_fun2, k_idx, k_idx1, k_idx2, k_lenC, k_lenC1, k_popC, k_bset, k_getC, k_getC1, k_getC2, k_at0, k_at1, k_at2, k_bg1, k_bg2, k_bs1, k_bs2, k_bc, k_pop1, sz0, sz1, sz2, sz3, sz4, sz5, sz6, k_fun, eqI, neI, addI, subI, ltI, leI, gtI, geI, truD, isTy, tyName, pyLen, pyAbs, pyMin2, pyMax2, pyInt, pyTuple, pyList, pyIx, pyIs, pyIsNot, isNon, nown, wipeD, Option.map_some, List.getElem?_cons_zero, List.getElem?_cons_succ, List.set_cons_zero, List.set_cons_succ, List.map_cons, List.map_nil, List.cons_append, List.nil_append, List.length_cons, List.length_nil, List.all_cons, List.all_nil, List.replicate_succ, List.replicate_zero, Bool.and_true, Bool.true_and, Bool.and_self, Bool.not_true, Bool.not_false, and_self, and_true, true_and, if_true, if_false, reduceIte, reduceCtorEq, decide_true, decide_false, Bool.false_eq_true, Nat.reduceAdd, Nat.reduceEqDiff, law_L7, mul3, r1, r2, e, r3, sp_worst p d B hp hd (by omega), sp_adv, e2]
theorem loop_L7 {s0 s2 s5 s6 s7 s8 s9 s10 s11 s12 s13 s14 s15 s16 s17 s18 s19 s20 s21 : Option Sv} (p : Nat) (hp : 1 ≤ p) (hq : p < 50) (B : Bx) : ∃ t5 t6 t7 t8 t9 t10, forGo (gN 5) law_L7 (rngD 1 (2 * p + 2)) [s0, some .box, s2, some (.dat (.int p)), some (.own []), s5, s6, s7, s8, s9, s10, s11, s12, s13, s14, s15, s16, s17, s18, s19, s20, s21] B = some (.nx [s0, some .box, s2, some (.dat (.int p)), some (.own (vals (worstV p) (2 * p + 2))), t5, t6, t7, t8, t9, t10, s11, s12, s13, s14, s15, s16, s17, s18, s19, s20, s21] B) := by
  obtain ⟨s2, B2, e, h⟩ := forGo_inv (tg := gN 5) (body := law_L7) (rngD 1 (2 * p + 2)) (fun i sl B' => B' = B ∧ ∃ t5 t6 t7 t8 t9 t10, sl = [s0, some .box, s2, some (.dat (.int p)), some (.own (vals (worstV p) i)), t5, t6, t7, t8, t9, t10, s11, s12, s13, s14, s15, s16, s17, s18, s19, s20, s21]) (fun i x sl B' hx hp2 => by
    obtain ⟨hi, rfl⟩ := rngD_get hx
    obtain ⟨rfl, t5, t6, t7, t8, t9, t10, rfl⟩ := hp2
    rw [show ((1 : Int) + (i : Int)) = ((i + 1 : Nat) : Int) by omega]
    obtain ⟨u6, u7, u8, u9, u10, e⟩ := body_L7 (s0 := s0) (s2 := s2) (s6 := t6) (s7 := t7) (s8 := t8) (s9 := t9) (s10 := t10) (s11 := s11) (s12 := s12) (s13 := s13) (s14 := s14) (s15 := s15) (s16 := s16) (s17 := s17) (s18 := s18) (s19 := s19) (s20 := s20) (s21 := s21) p (i + 1) (vals (worstV p) i) (by rw [vals_length]; omega) hp hq (by omega) (by omega) B'
    rw [← vals_succ] at e
    exact ⟨_, _, B', rfl, .inl e, rfl, _, _, _, _, _, _, rfl⟩)
    0 [s0, some .box, s2, some (.dat (.int p)), some (.own []), s5, s6, s7, s8, s9, s10, s11, s12, s13, s14, s15, s16, s17, s18, s19, s20, s21] B (Nat.zero_le _) ⟨rfl, s5, s6, s7, s8, s9, s10, rfl⟩
  rw [rngD_length] at h
  obtain ⟨rfl, t5, t6, t7, t8, t9, t10, rfl⟩ := h
  exact ⟨t5, t6, t7, t8, t9, t10, e⟩
theorem loop_L4 {s0 s2 s3 s4 s5 s6 s7 s8 s9 s10 s11 s12 s13 s14 s15 s16 s18 s19 s20 s21 : Option Sv} (cs : List Rat) (hc : Ch cs) (B : Bx) : ∃ t, forGo (gN 18) law_L4 (cs.map ratD) [s0, some .box, s2, s3, s4, s5, s6, s7, s8, s9, s10, s11, s12, s13, s14, s15, s16, some (.dat (ratD 0)), s18, s19, s20, s21] B = some (.nx [s0, some .box, s2, s3, s4, s5, s6, s7, s8, s9, s10, s11, s12, s13, s14, s15, s16, some (.dat (ratD (wh cs cs.length))), t, s19, s20, s21] B) := by
  have hl := hc.1
  obtain ⟨s2, B2, e, h⟩ := forGo_inv (tg := gN 18) (body := law_L4) (cs.map ratD) (fun i sl B' => B' = B ∧ ∃ t, sl = [s0, some .box, s2, s3, s4, s5, s6, s7, s8, s9, s10, s11, s12, s13, s14, s15, s16, some (.dat (ratD (wh cs i))), t, s19, s20, s21]) (fun i x sl B' hx hp => by
    obtain ⟨rfl, hi⟩ := ratD_get hx
    obtain ⟨rfl, t, rfl⟩ := hp
    refine ⟨_, [s0, some .box, s2, s3, s4, s5, s6, s7, s8, s9, s10, s11, s12, s13, s14, s15, s16, some (.dat (ratD (wh cs (i + 1)))), some (.dat (ratD (cs.getD i 0))), s19, s20, s21], B', rfl, .inl ?_, rfl, _, rfl⟩
    have e := sp_law_plus _ _ B' (wh_Bd hc i) (Ch_get hc i).1 (by omega)
    rw [show wh cs (i + 1) = wh cs i + cs.getD i 0 from rfl]
    simp only [k_dC, k_var_ap, k_varO_ap, k_varV_ap, k_op, k_op1, k_op2, k_fin, k_tst, k_t1, k_t2, k_tF, k_opB, k_B, k_neg, k_neg1, k_andT, k_orT, k_notT, k_and1, k_and0, k_or1, k_or0, k_not1, k_tru, k_tru1, k_andV, k_orV, k_notV, k_andV1, k_andV0, k_orV1, k_orV0, k_notV1, k_if, k_if1, k_if0, k_ifD, k_nil, k_cons, k_cons1, k_cons2, k_nilA, k_consA, k_consA1, k_consA2, k_V, k_V1, k_F, k_F1, k_tup, k_tup1, k_lst, k_lst1, k_cl, k_cl1, k_clL, k_clL1, k_finL, k_isi, k_isi1, k_fn, k_fn1, k_dat, k_fnV, k_fnV1, k_seqI, k_seqI1, k_seqI2, k_rng1, k_rng1', k_rng2, k_rng2a, k_rng2b, k_enum, k_enum1, k_zip, k_zip1, k_zip2, k_P, k_P1, k_noP, k_sl, k_sl1, k_sl2, k_sl3, k_cmp, k_cmp1, k_yes, k_seq, k_seq1, k_seq2, k_seq3, k_seq4, k_next, k_brk, k_cont, k_retN, k_asg, k_asg1, k_asgV, k_asgV1, k_asgV2, k_asgV3, k_asgO, k_asgO1, k_asgG, k_asgG1, k_nx, k_gN, k_gT, k_gC, k_g1, k_g0, k_par, k_par1, k_par2, k_drop, k_drop1, k_ret, k_ret1, k_retV, k_retV1, k_ifS, k_ifS1, k_ifS0, k_ifSD, k_fz_ap, k_app, k_app1, k_for, k_for1, k_aug1, k_fun1, k_fun2, k_idx, k_idx1, k_idx2, k_lenC, k_lenC1, k_popC, k_bset, k_getC, k_getC1, k_getC2, k_at0, k_at1, k_at2, k_bg1, k_bg2, k_bs1, k_bs2, k_bc, k_pop1, sz0, sz1, sz2, sz3, sz4, sz5, sz6, k_fun, eqI, neI, addI, subI, ltI, leI, gtI, geI, truD, isTy, tyName, pyLen, pyAbs, pyMin2, pyMax2, pyInt, pyTuple, pyList, pyIx, pyIs, pyIsNot, isNon, nown, wipeD, Option.map_some, List.getElem?_cons_zero, List.getElem?_cons_succ, List.set_cons_zero, List.set_cons_succ, List.map_cons, List.map_nil, List.cons_append, List.nil_append, List.length_cons, List.length_nil, List.all_cons, List.all_nil, List.replicate_succ, List.replicate_zero, Bool.and_true, Bool.true_and, Bool.and_self, Bool.not_true, Bool.not_false, and_self, and_true, true_and, if_true, if_false, reduceIte, reduceCtorEq, decide_true, decide_false, Bool.false_eq_true, Nat.reduceAdd, Nat.reduceEqDiff, law_L4, e])
    0 [s0, some .box, s2, s3, s4, s5, s6, s7, s8, s9, s10, s11, s12, s13, s14, s15, s16, some (.dat (ratD 0)), s18, s19, s20, s21] B (Nat.zero_le _) ⟨rfl, s18, rfl⟩
  rw [List.length_map] at h
  obtain ⟨rfl, t, rfl⟩ := h
  exact ⟨t, e⟩
theorem pyIx_tuple {ys : List PyData} {i : Nat} {y : PyData} (h : ys[i]? = some y) : pyIx (.tuple ys) (.int i) = some y := by
  show L2.atI ys (i : Int) = some y
  exact L2.atI_nat h
theorem ch_at {cs : List Rat} {i : Nat} (h : i < cs.length) : (cs.map ratD)[i]? = some (ratD (cs.getD i 0)) := by
  rw [List.getElem?_map, List.getD_eq_getElem?_getD, List.getElem?_eq_getElem h]
  rfl
theorem loop_L2 {s0 s2 s4 s6 s7 s8 s9 s10 s11 s12 s13 s14 s15 s17 s18 s19 s21 : Option Sv} (p d : Nat) (cs : List Rat) (hc : Ch cs) (hp : p < 100) (hd : 1 ≤ d) (hd' : d < 200) (B : Bx) : ∃ t, forGo (gN 15) law_L2 (rngD 0 cs.length) [s0, some .box, s2, some (.dat (.int p)), s4, some (.dat (.int d)), s6, s7, s8, s9, s10, s11, s12, s13, s14, s15, some (.dat (.tuple (cs.map ratD))), s17, s18, s19, some (.dat (.tuple [.int 0, .int 1])), s21] B = some (.nx [s0, some .box, s2, some (.dat (.int p)), s4, some (.dat (.int d)), s6, s7, s8, s9, s10, s11, s12, s13, s14, t, some (.dat (.tuple (cs.map ratD))), s17, s18, s19, some (.dat (ratD (tt p d cs cs.length))), s21] B) := by
  have hl := hc.1
  obtain ⟨s2, B2, e, h⟩ := forGo_inv (tg := gN 15) (body := law_L2) (rngD 0 cs.length) (fun i sl B' => B' = B ∧ ∃ t, sl = [s0, some .box, s2, some (.dat (.int p)), s4, some (.dat (.int d)), s6, s7, s8, s9, s10, s11, s12, s13, s14, t, some (.dat (.tuple (cs.map ratD))), s17, s18, s19, some (.dat (ratD (tt p d cs i))), s21]) (fun i x sl B' hx hp2 => by
    obtain ⟨hi, rfl⟩ := rngD_get hx
    obtain ⟨rfl, t, rfl⟩ := hp2
    rw [Int.zero_add]
    refine ⟨_, [s0, some .box, s2, some (.dat (.int p)), s4, some (.dat (.int d)), s6, s7, s8, s9, s10, s11, s12, s13, s14, some (.dat (.int i)), some (.dat (.tuple (cs.map ratD))), s17, s18, s19, some (.dat (ratD (tt p d cs (i + 1)))), s21], B', rfl, .inl ?_, rfl, _, rfl⟩
    have e0 := pyIx_tuple (ch_at hi)
    have e1 := sp_paid p d (i + 1) B' hd (by omega)
    rw [show ((i + 1 : Nat) : Int) = (i : Int) + 1 from rfl] at e1
    have e2 := sp_law_times (cs.getD i 0) (mkRat (paidV p d (i + 1) : Nat) 1) B' (Ch_get hc i).1 (paid_Bd hp hd' (by omega)) (by decide)
    have e3 := sp_law_plus (tt p d cs i) (cs.getD i 0 * mkRat (paidV p d (i + 1) : Nat) 1) B' (tt_Bd hc hp hd' i (by omega)) (Bd_mul (Ch_get hc i).1 (paid_Bd hp hd' (by omega))) (by omega)
    rw [show tt p d cs (i + 1) = tt p d cs i + cs.getD i 0 * mkRat (paidV p d (i + 1) : Nat) 1 from rfl]
    have z := rat_int (paidV p d (i + 1))
    simp only [k_dC, k_var_ap, k_varO_ap, k_varV_ap, k_op, k_op1, k_op2, k_fin, k_tst, k_t1, k_t2, k_tF, k_opB, k_B, k_neg, k_neg1, k_andT, k_orT, k_notT, k_and1, k_and0, k_or1, k_or0, k_not1, k_tru, k_tru1, k_andV, k_orV, k_notV, k_andV1, k_andV0, k_orV1, k_orV0, k_notV1, k_if, k_if1, k_if0, k_ifD, k_nil, k_cons, k_cons1, k_cons2, k_nilA, k_consA, k_consA1, k_consA2, k_V, k_V1, k_F, k_F1, k_tup, k_tup1, k_lst, k_lst1, k_cl, k_cl1, k_clL, k_clL1, k_finL, k_isi, k_isi1, k_fn, k_fn1, k_dat, k_fnV, k_fnV1, k_seqI, k_seqI1, k_seqI2, k_rng1, k_rng1', k_rng2, k_rng2a, k_rng2b, k_enum, k_enum1, k_zip, k_zip1, k_zip2, k_P, k_P1, k_noP, k_sl, k_sl1, k_sl2, k_sl3, k_cmp, k_cmp1, k_yes, k_seq, k_seq1, k_seq2, k_seq3, k_seq4, k_next, k_brk, k_cont, k_retN, k_asg, k_asg1, k_asgV, k_asgV1, k_asgV2, k_asgV3, k_asgO, k_asgO1, k_asgG, k_asgG1, k_nx, k_gN, k_gT, k_gC, k_g1, k_g0, k_par, k_par1, k_par2, k_drop, k_drop1, k_ret, k_ret1, k_retV, k_retV1, k_ifS, k_ifS1, k_ifS0, k_ifSD, k_fz_ap, k_app, k_app1, k_for, k_for1, k_aug1, k_fun1, k_fun2, k_idx, k_idx1, k_idx2, k_lenC, k_lenC1, k_popC, k_bset, k_getC, k_getC1, k_getC2, k_bg1, k_bg2, k_bs1, k_bs2, k_bc, k_pop1, sz0, sz1, sz2, sz3, sz4, sz5, sz6, k_fun, eqI, neI, addI, subI, ltI, leI, gtI, geI, truD, isTy, tyName, pyLen, pyAbs, pyMin2, pyMax2, pyInt, pyTuple, pyList, pyIs, pyIsNot, isNon, nown, wipeD, Option.map_some, List.getElem?_cons_zero, List.getElem?_cons_succ, List.set_cons_zero, List.set_cons_succ, List.map_cons, List.map_nil, List.cons_append, List.nil_append, List.length_cons, List.length_nil, List.all_cons, List.all_nil, List.replicate_succ, List.replicate_zero, Bool.and_true, Bool.true_and, Bool.and_self, Bool.not_true, Bool.not_false, and_self, and_true, true_and, if_true, if_false, reduceIte, reduceCtorEq, decide_true, decide_false, Bool.false_eq_true, Nat.reduceAdd, Nat.reduceEqDiff, law_L2, e0, e1, z, e2, e3])
    0 [s0, some .box, s2, some (.dat (.int p)), s4, some (.dat (.int d)), s6, s7, s8, s9, s10, s11, s12, s13, s14, s15, some (.dat (.tuple (cs.map ratD))), s17, s18, s19, some (.dat (.tuple [.int 0, .int 1])), s21] B (Nat.zero_le _) ⟨rfl, s15, rfl⟩
  rw [rngD_length] at h
  obtain ⟨rfl, t, rfl⟩ := h
  exact ⟨t, e⟩
end Dn

set_option Elab.async false
set_option linter.all false
set_option autoImplicit false
set_option maxRecDepth 100000
set_option maxHeartbeats 4000000
set_option exponentiation.threshold 100000
namespace Dn
open PySem
theorem ix_num (r : Rat) : pyIx (ratD r) (.int 0) = some (.int r.num) := rfl
theorem ix_den (r : Rat) : pyIx (ratD r) (.int 1) = some (.int (r.den : Int)) := rfl
theorem ix_last (xs : List PyData) (y : PyData) : pyIx (.list (xs ++ [y])) (.int (-1)) = some y := by
  show L2.atI (xs ++ [y]) (-1) = some y
  have e : L2.ixN (xs ++ [y]).length (-1) = some xs.length := by
    unfold L2.ixN
    rw [if_neg (by decide), List.length_append, List.length_singleton, if_pos (by omega)]
    congr 1
    omega
  unfold L2.atI
  rw [e]
  show (xs ++ [y])[xs.length]? = some y
  rw [List.getElem?_append_right (Nat.le_refl _), Nat.sub_self]
  rfl
theorem ix_list {ys : List PyData} {i : Nat} {y : PyData} (h : ys[i]? = some y) : pyIx (.list ys) (.int i) = some y := by
  show L2.atI ys (i : Int) = some y
  exact L2.atI_nat h
theorem body_L3 {s0 s2 s4 s6 s7 s8 s9 s10 s11 s12 s13 s14 s15 s18 s20 s21 : Option Sv} (p d : Nat) (cs : List Rat) (hc : Ch cs) (xs : List PyData) (hx : xs.length < 500) (hp : p < 100) (hd : 1 ≤ d) (hd' : d < 200) (hw : 0 < wh cs cs.length) (B : Bx) : ∃ t15, law_L3 [s0, some .box, s2, some (.dat (.int p)), s4, some (.dat (.int d)), s6, s7, s8, s9, s10, s11, s12, s13, s14, s15, some (.dat (.tuple (cs.map ratD))), some (.dat (ratD (wh cs cs.length))), s18, some (.own xs), s20, s21] B = some (.nx [s0, some .box, s2, some (.dat (.int p)), s4, some (.dat (.int d)), s6, s7, s8, s9, s10, s11, s12, s13, s14, t15, some (.dat (.tuple (cs.map ratD))), some (.dat (ratD (wh cs cs.length))), s18, some (.own (xs ++ [ratD (avg p d cs)])), some (.dat (ratD (tt p d cs cs.length))), s21] B) := by
  have hl := hc.1
  obtain ⟨t15, e⟩ := loop_L2 (s0 := s0) (s2 := s2) (s4 := s4) (s6 := s6) (s7 := s7) (s8 := s8) (s9 := s9) (s10 := s10) (s11 := s11) (s12 := s12) (s13 := s13) (s14 := s14) (s15 := s15) (s17 := some (.dat (ratD (wh cs cs.length)))) (s18 := s18) (s19 := some (.own xs)) (s21 := s21) p d cs hc hp hd hd' B
  refine ⟨t15, ?_⟩
  have r1 := rng_ok (n := cs.length) (by omega)
  have r3 : (xs.length < sizeLine) = True := eq_true (szlt (by omega))
  have e2 := sameT (d := ratD (avg p d cs)) B (by show 1 < 8; decide) rfl
  have e3 := sp_average p d cs B hc hp hd hd' hw
  have e4 := sp_law_times (tt p d cs cs.length) (wh cs cs.length)⁻¹ B (tt_Bd hc hp hd' _ hl) (inv_Bd hw (wh_Bd hc _)) (by omega)
  rw [show tt p d cs cs.length * (wh cs cs.length)⁻¹ = avg p d cs from rfl] at e4
  have z := rat_inv hw
  simp only [k_dC, k_var_ap, k_varO_ap, k_varV_ap, k_op, k_op1, k_op2, k_fin, k_tst, k_t1, k_t2, k_tF, k_opB, k_B, k_neg, k_neg1, k_andT, k_orT, k_notT, k_and1, k_and0, k_or1, k_or0, k_not1, k_tru, k_tru1, k_andV, k_orV, k_notV, k_andV1, k_andV0, k_orV1, k_orV0, k_notV1, k_if, k_if1, k_if0, k_ifD, k_nil, k_cons, k_cons1, k_cons2, k_nilA, k_consA, k_consA1, k_consA2, k_V, k_V1, k_F, k_F1, k_tup, k_tup1, k_lst, k_lst1, k_cl, k_cl1, k_clL, k_clL1, k_finL, k_isi, k_isi1, k_fn, k_fn1, k_dat, k_fnV, k_fnV1, k_seqI, k_seqI1, k_seqI2, k_rng1, k_rng1', k_rng2, k_rng2a, k_rng2b, k_enum, k_enum1, k_zip, k_zip1, k_zip2, k_P, k_P1, k_noP, k_sl, k_sl1, k_sl2, k_sl3, k_cmp, k_cmp1, k_yes, k_seq, k_seq1, k_seq2, k_seq3, k_seq4, k_next, k_brk, k_cont, k_retN, k_asg, k_asg1, k_asgV, k_asgV1, k_asgV2, k_asgV3, k_asgO, k_asgO1, k_asgG, k_asgG1, k_nx, k_gN, k_gT, k_gC, k_g1, k_g0, k_par, k_par1, k_par2, k_drop, k_drop1, k_ret, k_ret1, k_retV, k_retV1, k_ifS, k_ifS1, k_ifS0, k_ifSD, k_fz_ap, k_app, k_app1, k_for, k_for1, k_aug1, k_fun1, k_fun2, k_idx, k_idx1, k_idx2, k_lenC, k_lenC1, k_popC, k_bset, k_getC, k_getC1, k_getC2, k_bg1, k_bg2, k_bs1, k_bs2, k_bc, k_pop1, sz0, sz1, sz2, sz3, sz4, sz5, sz6, k_fun, eqI, neI, addI, subI, ltI, leI, gtI, geI, truD, isTy, tyName, pyLen, pyAbs, pyMin2, pyMax2, pyInt, pyTuple, pyList, pyIs, pyIsNot, isNon, nown, wipeD, Option.map_some, List.getElem?_cons_zero, List.getElem?_cons_succ, List.set_cons_zero, List.set_cons_succ, List.map_cons, List.map_nil, List.cons_append, List.nil_append, List.length_cons, List.length_nil, List.all_cons, List.all_nil, List.replicate_succ, List.replicate_zero, Bool.and_true, Bool.true_and, Bool.and_self, Bool.not_true, Bool.not_false, and_self, and_true, true_and, if_true, if_false, reduceIte, reduceCtorEq, decide_true, decide_false, Bool.false_eq_true, Nat.reduceAdd, Nat.reduceEqDiff, law_L3, r1, Int.toNat_natCast, List.length_map, e, ix_num, ix_den, z, e4, r3, ix_last, e3, e2]
theorem avg_Bd {p d : Nat} {cs : List Rat} (hc : Ch cs) (hp : p < 100) (hd' : d < 200) (hw : 0 < wh cs cs.length) : Bd 150 (avg p d cs) := by
  have hl := hc.1
  exact (Bd_mul (tt_Bd hc hp hd' _ hl) (inv_Bd hw (wh_Bd hc _))).mono (by omega)
theorem loop_L3 {s0 s2 s4 s5 s6 s7 s8 s9 s10 s11 s12 s13 s14 s15 s18 s20 s21 : Option Sv} (p : Nat) (cs : List Rat) (hc : Ch cs) (hp : p < 100) (hw : 0 < wh cs cs.length) (B : Bx) : ∃ t5 t15 t20, forGo (gN 5) law_L3 (rngD 1 (cs.length + 1)) [s0, some .box, s2, some (.dat (.int p)), s4, s5, s6, s7, s8, s9, s10, s11, s12, s13, s14, s15, some (.dat (.tuple (cs.map ratD))), some (.dat (ratD (wh cs cs.length))), s18, some (.own []), s20, s21] B = some (.nx [s0, some .box, s2, some (.dat (.int p)), s4, t5, s6, s7, s8, s9, s10, s11, s12, s13, s14, t15, some (.dat (.tuple (cs.map ratD))), some (.dat (ratD (wh cs cs.length))), s18, some (.own (vals (fun d => avg p d cs) (cs.length + 1))), t20, s21] B) := by
  have hl := hc.1
  obtain ⟨sx, B2, e, h⟩ := forGo_inv (tg := gN 5) (body := law_L3) (rngD 1 (cs.length + 1)) (fun i sl B' => B' = B ∧ ∃ t5 t15 t20, sl = [s0, some .box, s2, some (.dat (.int p)), s4, t5, s6, s7, s8, s9, s10, s11, s12, s13, s14, t15, some (.dat (.tuple (cs.map ratD))), some (.dat (ratD (wh cs cs.length))), s18, some (.own (vals (fun d => avg p d cs) i)), t20, s21]) (fun i x sl B' hx hp2 => by
    obtain ⟨hi, rfl⟩ := rngD_get hx
    obtain ⟨rfl, t5, t15, t20, rfl⟩ := hp2
    rw [show ((1 : Int) + (i : Int)) = ((i + 1 : Nat) : Int) by omega]
    obtain ⟨u15, e⟩ := body_L3 (s0 := s0) (s2 := s2) (s4 := s4) (s6 := s6) (s7 := s7) (s8 := s8) (s9 := s9) (s10 := s10) (s11 := s11) (s12 := s12) (s13 := s13) (s14 := s14) (s15 := t15) (s18 := s18) (s20 := t20) (s21 := s21) p (i + 1) cs hc (vals (fun d => avg p d cs) i) (by rw [vals_length]; omega) hp (by omega) (by omega) hw B'
    rw [← vals_succ (fun d => avg p d cs)] at e
    exact ⟨_, _, B', rfl, .inl e, rfl, _, _, _, rfl⟩)
    0 [s0, some .box, s2, some (.dat (.int p)), s4, s5, s6, s7, s8, s9, s10, s11, s12, s13, s14, s15, some (.dat (.tuple (cs.map ratD))), some (.dat (ratD (wh cs cs.length))), s18, some (.own []), s20, s21] B (Nat.zero_le _) ⟨rfl, s5, s15, s20, rfl⟩
  rw [rngD_length] at h
  obtain ⟨rfl, t5, t15, t20, rfl⟩ := h
  exact ⟨t5, t15, t20, e⟩
theorem sp_best_avg (p : Nat) (cs : List Rat) (hc : Ch cs) (hp : p < 100) (hw : 0 < wh cs cs.length) (B : Bx) : d_best_on_average [.dat (.int p), .dat (.tuple (cs.map ratD))] B = some (.dat (.int (am (fun d => avg p d cs) (cs.length + 1))), B) := by
  have hl := hc.1
  obtain ⟨sx, B2, e, h⟩ := forGo_inv (tg := gN 3) (body := best_on_average_L1) (rngD 1 (cs.length + 1)) (fun i sl B' => B' = B ∧ ∃ t, sl = [some (.dat (.int p)), some (.dat (.tuple (cs.map ratD))), some (.dat (.int (am (fun d => avg p d cs) i))), t]) (fun i x sl B' hx hp2 => by
    obtain ⟨hi, rfl⟩ := rngD_get hx
    obtain ⟨rfl, t, rfl⟩ := hp2
    rw [show ((1 : Int) + (i : Int)) = ((i + 1 : Nat) : Int) by omega]
    refine ⟨_, [some (.dat (.int p)), some (.dat (.tuple (cs.map ratD))), some (.dat (.int (am (fun d => avg p d cs) (i + 1)))), some (.dat (.int ((i + 1 : Nat) : Int)))], B', rfl, .inl ?_, rfl, _, rfl⟩
    have h1 := am_ge (fun d => avg p d cs) i
    have h2 := am_le (fun d => avg p d cs) i
    have e1 := sp_average p (i + 1) cs B' hc hp (by omega) (by omega) hw
    have e2 := sp_average p (am (fun d => avg p d cs) i) cs B' hc hp h1 (by omega) hw
    have e3 := sp_less (avg p (i + 1) cs) (avg p (am (fun d => avg p d cs) i) cs) B' (avg_Bd hc hp (by omega) hw) (avg_Bd hc hp (by omega) hw) (by decide)
    by_cases hh : avg p (i + 1) cs < avg p (am (fun d => avg p d cs) i) cs
    · have q : am (fun d => avg p d cs) (i + 1) = i + 1 := if_pos hh
      have hh := eq_true hh
      simp only [k_dC, k_var_ap, k_varO_ap, k_varV_ap, k_op, k_op1, k_op2, k_fin, k_tst, k_t1, k_t2, k_tF, k_opB, k_B, k_neg, k_neg1, k_andT, k_orT, k_notT, k_and1, k_and0, k_or1, k_or0, k_not1, k_tru, k_tru1, k_andV, k_orV, k_notV, k_andV1, k_andV0, k_orV1, k_orV0, k_notV1, k_if, k_if1, k_if0, k_ifD, k_nil, k_cons, k_cons1, k_cons2, k_nilA, k_consA, k_consA1, k_consA2, k_V, k_V1, k_F, k_F1, k_tup, k_tup1, k_lst, k_lst1, k_cl, k_cl1, k_clL, k_clL1, k_finL, k_isi, k_isi1, k_fn, k_fn1, k_dat, k_fnV, k_fnV1, k_seqI, k_seqI1, k_seqI2, k_rng1, k_rng1', k_rng2, k_rng2a, k_rng2b, k_enum, k_enum1, k_zip, k_zip1, k_zip2, k_P, k_P1, k_noP, k_sl, k_sl1, k_sl2, k_sl3, k_cmp, k_cmp1, k_yes, k_seq, k_seq1, k_seq2, k_seq3, k_seq4, k_next, k_brk, k_cont, k_retN, k_asg, k_asg1, k_asgV, k_asgV1, k_asgV2, k_asgV3, k_asgO, k_asgO1, k_asgG, k_asgG1, k_nx, k_gN, k_gT, k_gC, k_g1, k_g0, k_par, k_par1, k_par2, k_drop, k_drop1, k_ret, k_ret1, k_retV, k_retV1, k_ifS, k_ifS1, k_ifS0, k_ifSD, k_fz_ap, k_app, k_app1, k_for, k_for1, k_aug1, k_fun1, k_fun2, k_idx, k_idx1, k_idx2, k_lenC, k_lenC1, k_popC, k_bset, k_getC, k_getC1, k_getC2, k_at0, k_at1, k_at2, k_bg1, k_bg2, k_bs1, k_bs2, k_bc, k_pop1, sz0, sz1, sz2, sz3, sz4, sz5, sz6, k_fun, eqI, neI, addI, subI, ltI, leI, gtI, geI, truD, isTy, tyName, pyLen, pyAbs, pyMin2, pyMax2, pyInt, pyTuple, pyList, pyIx, pyIs, pyIsNot, isNon, nown, wipeD, Option.map_some, List.getElem?_cons_zero, List.getElem?_cons_succ, List.set_cons_zero, List.set_cons_succ, List.map_cons, List.map_nil, List.cons_append, List.nil_append, List.length_cons, List.length_nil, List.all_cons, List.all_nil, List.replicate_succ, List.replicate_zero, Bool.and_true, Bool.true_and, Bool.and_self, Bool.not_true, Bool.not_false, and_self, and_true, true_and, if_true, if_false, reduceIte, reduceCtorEq, decide_true, decide_false, Bool.false_eq_true, Nat.reduceAdd, Nat.reduceEqDiff, best_on_average_L1, e1, e2, e3, hh, q]
    · have q : am (fun d => avg p d cs) (i + 1) = am (fun d => avg p d cs) i := if_neg hh
      have hh := eq_false hh
      simp only [k_dC, k_var_ap, k_varO_ap, k_varV_ap, k_op, k_op1, k_op2, k_fin, k_tst, k_t1, k_t2, k_tF, k_opB, k_B, k_neg, k_neg1, k_andT, k_orT, k_notT, k_and1, k_and0, k_or1, k_or0, k_not1, k_tru, k_tru1, k_andV, k_orV, k_notV, k_andV1, k_andV0, k_orV1, k_orV0, k_notV1, k_if, k_if1, k_if0, k_ifD, k_nil, k_cons, k_cons1, k_cons2, k_nilA, k_consA, k_consA1, k_consA2, k_V, k_V1, k_F, k_F1, k_tup, k_tup1, k_lst, k_lst1, k_cl, k_cl1, k_clL, k_clL1, k_finL, k_isi, k_isi1, k_fn, k_fn1, k_dat, k_fnV, k_fnV1, k_seqI, k_seqI1, k_seqI2, k_rng1, k_rng1', k_rng2, k_rng2a, k_rng2b, k_enum, k_enum1, k_zip, k_zip1, k_zip2, k_P, k_P1, k_noP, k_sl, k_sl1, k_sl2, k_sl3, k_cmp, k_cmp1, k_yes, k_seq, k_seq1, k_seq2, k_seq3, k_seq4, k_next, k_brk, k_cont, k_retN, k_asg, k_asg1, k_asgV, k_asgV1, k_asgV2, k_asgV3, k_asgO, k_asgO1, k_asgG, k_asgG1, k_nx, k_gN, k_gT, k_gC, k_g1, k_g0, k_par, k_par1, k_par2, k_drop, k_drop1, k_ret, k_ret1, k_retV, k_retV1, k_ifS, k_ifS1, k_ifS0, k_ifSD, k_fz_ap, k_app, k_app1, k_for, k_for1, k_aug1, k_fun1, k_fun2, k_idx, k_idx1, k_idx2, k_lenC, k_lenC1, k_popC, k_bset, k_getC, k_getC1, k_getC2, k_at0, k_at1, k_at2, k_bg1, k_bg2, k_bs1, k_bs2, k_bc, k_pop1, sz0, sz1, sz2, sz3, sz4, sz5, sz6, k_fun, eqI, neI, addI, subI, ltI, leI, gtI, geI, truD, isTy, tyName, pyLen, pyAbs, pyMin2, pyMax2, pyInt, pyTuple, pyList, pyIx, pyIs, pyIsNot, isNon, nown, wipeD, Option.map_some, List.getElem?_cons_zero, List.getElem?_cons_succ, List.set_cons_zero, List.set_cons_succ, List.map_cons, List.map_nil, List.cons_append, List.nil_append, List.length_cons, List.length_nil, List.all_cons, List.all_nil, List.replicate_succ, List.replicate_zero, Bool.and_true, Bool.true_and, Bool.and_self, Bool.not_true, Bool.not_false, and_self, and_true, true_and, if_true, if_false, reduceIte, reduceCtorEq, decide_true, decide_false, Bool.false_eq_true, Nat.reduceAdd, Nat.reduceEqDiff, best_on_average_L1, e1, e2, e3, hh, q])
    0 [some (.dat (.int p)), some (.dat (.tuple (cs.map ratD))), some (.dat (.int 1)), none] B (Nat.zero_le _) ⟨rfl, none, rfl⟩
  rw [rngD_length, List.drop_zero] at *
  obtain ⟨rfl, t, rfl⟩ := h
  have r1 := rng_ok2 (i := 1) (j := (cs.length : Int) + 2) (by decide) (by decide) (by omega) (by omega)
  have r2 : ((cs.length : Int) + 2 - 1).toNat = cs.length + 1 := by omega
  simp only [k_dC, k_var_ap, k_varO_ap, k_varV_ap, k_op, k_op1, k_op2, k_fin, k_tst, k_t1, k_t2, k_tF, k_opB, k_B, k_neg, k_neg1, k_andT, k_orT, k_notT, k_and1, k_and0, k_or1, k_or0, k_not1, k_tru, k_tru1, k_andV, k_orV, k_notV, k_andV1, k_andV0, k_orV1, k_orV0, k_notV1, k_if, k_if1, k_if0, k_ifD, k_nil, k_cons, k_cons1, k_cons2, k_nilA, k_consA, k_consA1, k_consA2, k_V, k_V1, k_F, k_F1, k_tup, k_tup1, k_lst, k_lst1, k_cl, k_cl1, k_clL, k_clL1, k_finL, k_isi, k_isi1, k_fn, k_fn1, k_dat, k_fnV, k_fnV1, k_seqI, k_seqI1, k_seqI2, k_rng1, k_rng1', k_rng2, k_rng2a, k_rng2b, k_enum, k_enum1, k_zip, k_zip1, k_zip2, k_P, k_P1, k_noP, k_sl, k_sl1, k_sl2, k_sl3, k_cmp, k_cmp1, k_yes, k_seq, k_seq1, k_seq2, k_seq3, k_seq4, k_next, k_brk, k_cont, k_retN, k_asg, k_asg1, k_asgV, k_asgV1, k_asgV2, k_asgV3, k_asgO, k_asgO1, k_asgG, k_asgG1, k_nx, k_gN, k_gT, k_gC, k_g1, k_g0, k_par, k_par1, k_par2, k_drop, k_drop1, k_ret, k_ret1, k_retV, k_retV1, k_ifS, k_ifS1, k_ifS0, k_ifSD, k_fz_ap, k_app, k_app1, k_for, k_for1, k_aug1, k_fun1, k_fun2, k_idx, k_idx1, k_idx2, k_lenC, k_lenC1, k_popC, k_bset, k_getC, k_getC1, k_getC2, k_at0, k_at1, k_at2, k_bg1, k_bg2, k_bs1, k_bs2, k_bc, k_pop1, sz0, sz1, sz2, sz3, sz4, sz5, sz6, k_fun, eqI, neI, addI, subI, ltI, leI, gtI, geI, truD, isTy, tyName, pyLen, pyAbs, pyMin2, pyMax2, pyInt, pyTuple, pyList, pyIx, pyIs, pyIsNot, isNon, nown, wipeD, Option.map_some, List.getElem?_cons_zero, List.getElem?_cons_succ, List.set_cons_zero, List.set_cons_succ, List.map_cons, List.map_nil, List.cons_append, List.nil_append, List.length_cons, List.length_nil, List.all_cons, List.all_nil, List.replicate_succ, List.replicate_zero, Bool.and_true, Bool.true_and, Bool.and_self, Bool.not_true, Bool.not_false, and_self, and_true, true_and, if_true, if_false, reduceIte, reduceCtorEq, decide_true, decide_false, Bool.false_eq_true, Nat.reduceAdd, Nat.reduceEqDiff, d_best_on_average, b_best_on_average, r1, r2, List.length_map, e]
theorem el_ch {s0 s2 s3 s4 s5 s6 s7 s8 s9 s10 s11 s12 s13 s14 s15 s16 s17 s18 s19 s20 s21 : Option Sv} (B : Bx) (hb : BI B) : ∃ c B', Bd 2 c ∧ 0 ≤ c ∧ BI B' ∧ (dFn (d_law_ratio) (dConsA (dV (dFn (d_law_draw) (dConsA (dVarV 1) (dConsA (dV (dC (.int 4))) dNilA)))) (dConsA (dV (dOp pyAdd (dC (.int 1)) (dFn (d_law_draw) (dConsA (dVarV 1) (dConsA (dV (dC (.int 3))) dNilA))))) dNilA))) [s0, some .box, s2, s3, s4, s5, s6, s7, s8, s9, s10, s11, s12, s13, s14, s15, s16, s17, s18, s19, s20, s21] B = some (ratD c, B') := by
  obtain ⟨r, B1, b1, h1, h2, e1⟩ := sp_draw 4 B hb (by decide) (by decide)
  obtain ⟨r', B2, b2, h3, h4, e2⟩ := sp_draw 3 B1 b1 (by decide) (by decide)
  have e3 := sp_law_ratio r (1 + r') B2 (by omega) (by rw [show 1 + r' = ((r'.toNat + 1 : Nat) : Int) by omega]; exact small_int (by omega)) (small_intA (by omega))
  refine ⟨mkRat r (1 + r').toNat, B2, Bd_mk (by omega) (by omega) (by omega), ?_, b2, ?_⟩
  · rw [Rat.mkRat_eq_div]
    have q1 : (0 : Rat) ≤ (r : Rat) := by exact_mod_cast h1
    have q2 : (0 : Rat) < (((1 + r').toNat : Nat) : Rat) := by exact_mod_cast (show 0 < (1 + r').toNat by omega)
    rw [Rat.div_def]
    exact Rat.mul_nonneg q1 (Rat.le_of_lt (Rat.inv_pos.mpr q2))
  · simp only [k_dC, k_var_ap, k_varO_ap, k_varV_ap, k_op, k_op1, k_op2, k_fin, k_tst, k_t1, k_t2, k_tF, k_opB, k_B, k_neg, k_neg1, k_andT, k_orT, k_notT, k_and1, k_and0, k_or1, k_or0, k_not1, k_tru, k_tru1, k_andV, k_orV, k_notV, k_andV1, k_andV0, k_orV1, k_orV0, k_notV1, k_if, k_if1, k_if0, k_ifD, k_nil, k_cons, k_cons1, k_cons2, k_nilA, k_consA, k_consA1, k_consA2, k_V, k_V1, k_F, k_F1, k_tup, k_tup1, k_lst, k_lst1, k_cl, k_cl1, k_clL, k_clL1, k_finL, k_isi, k_isi1, k_fn, k_fn1, k_dat, k_fnV, k_fnV1, k_seqI, k_seqI1, k_seqI2, k_rng1, k_rng1', k_rng2, k_rng2a, k_rng2b, k_enum, k_enum1, k_zip, k_zip1, k_zip2, k_P, k_P1, k_noP, k_sl, k_sl1, k_sl2, k_sl3, k_cmp, k_cmp1, k_yes, k_seq, k_seq1, k_seq2, k_seq3, k_seq4, k_next, k_brk, k_cont, k_retN, k_asg, k_asg1, k_asgV, k_asgV1, k_asgV2, k_asgV3, k_asgO, k_asgO1, k_asgG, k_asgG1, k_nx, k_gN, k_gT, k_gC, k_g1, k_g0, k_par, k_par1, k_par2, k_drop, k_drop1, k_ret, k_ret1, k_retV, k_retV1, k_ifS, k_ifS1, k_ifS0, k_ifSD, k_fz_ap, k_app, k_app1, k_for, k_for1, k_aug1, k_fun1, k_fun2, k_idx, k_idx1, k_idx2, k_lenC, k_lenC1, k_popC, k_bset, k_getC, k_getC1, k_getC2, k_at0, k_at1, k_at2, k_bg1, k_bg2, k_bs1, k_bs2, k_bc, k_pop1, sz0, sz1, sz2, sz3, sz4, sz5, sz6, k_fun, eqI, neI, addI, subI, ltI, leI, gtI, geI, truD, isTy, tyName, pyLen, pyAbs, pyMin2, pyMax2, pyInt, pyTuple, pyList, pyIx, pyIs, pyIsNot, isNon, nown, wipeD, Option.map_some, List.getElem?_cons_zero, List.getElem?_cons_succ, List.set_cons_zero, List.set_cons_succ, List.map_cons, List.map_nil, List.cons_append, List.nil_append, List.length_cons, List.length_nil, List.all_cons, List.all_nil, List.replicate_succ, List.replicate_zero, Bool.and_true, Bool.true_and, Bool.and_self, Bool.not_true, Bool.not_false, and_self, and_true, true_and, if_true, if_false, reduceIte, reduceCtorEq, decide_true, decide_false, Bool.false_eq_true, Nat.reduceAdd, Nat.reduceEqDiff, e1, e2, e3]
theorem cmpGo_st {tg : DG} {e : DE} {sw : Sl} (Q : PyData → Prop) : ∀ (xs : List PyData) (B : Bx), BI B → (∀ x ∈ xs, ∀ B, BI B → ∃ s2 y B', tg x sw = some s2 ∧ e s2 B = some (y, B') ∧ Q y ∧ BI B') → ∃ ys B', cmpGo tg dYes e sw xs B = some (ys, B') ∧ ys.length = xs.length ∧ (∀ y ∈ ys, Q y) ∧ BI B'
  | [], B, hb, _ => ⟨[], B, rfl, rfl, (fun _ h => absurd h List.not_mem_nil), hb⟩
  | x :: xs, B, hb, h => by
    obtain ⟨s2, y, B1, e1, e2, q, b1⟩ := h x List.mem_cons_self B hb
    obtain ⟨ys, B2, e3, hl, hq, b2⟩ := cmpGo_st Q xs B1 b1 fun z hz => h z (List.mem_cons_of_mem _ hz)
    refine ⟨y :: ys, B2, ?_, by rw [List.length_cons, List.length_cons, hl], ?_, b2⟩
    · unfold cmpGo
      rw [e1]
      show ((e s2 B).bind fun y => (cmpGo tg dYes e sw xs y.2).map fun r => (y.1 :: r.1, r.2)) = _
      rw [e2]
      show (cmpGo tg dYes e sw xs B1).map _ = _
      rw [e3]
      rfl
    · intro z hz
      rcases List.mem_cons.mp hz with k | k
      · rw [k]; exact q
      · exact hq z k
theorem rats_of : ∀ (ys : List PyData), (∀ y ∈ ys, ∃ c, y = ratD c ∧ Bd 2 c ∧ 0 ≤ c) → ∃ cs : List Rat, ys = cs.map ratD ∧ ∀ c ∈ cs, Bd 2 c ∧ 0 ≤ c
  | [], _ => ⟨[], rfl, (fun _ h => absurd h List.not_mem_nil)⟩
  | y :: ys, h => by
    obtain ⟨c, rfl, hc⟩ := h y List.mem_cons_self
    obtain ⟨cs, rfl, hcs⟩ := rats_of ys fun z hz => h z (List.mem_cons_of_mem _ hz)
    refine ⟨c :: cs, rfl, fun z hz => ?_⟩
    rcases List.mem_cons.mp hz with k | k
    · rw [k]; exact hc
    · exact hcs z k
theorem cm_ch {s0 s2 s3 s4 s5 s6 s7 s8 s9 s10 s11 s12 s13 s14 s15 s16 s17 s18 s19 s20 s21 : Option Sv} (B : Bx) (hb : BI B) : ∃ cs B', Ch cs ∧ BI B' ∧ (dCmp (dRng1 (dOp pyAdd (dC (.int 1)) (dFn (d_law_draw) (dConsA (dVarV 1) (dConsA (dV (dC (.int 8))) dNilA))))) (gN 15) dYes (dFn (d_law_ratio) (dConsA (dV (dFn (d_law_draw) (dConsA (dVarV 1) (dConsA (dV (dC (.int 4))) dNilA)))) (dConsA (dV (dOp pyAdd (dC (.int 1)) (dFn (d_law_draw) (dConsA (dVarV 1) (dConsA (dV (dC (.int 3))) dNilA))))) dNilA))) [15]) [s0, some .box, s2, s3, s4, s5, s6, s7, s8, s9, s10, s11, s12, s13, s14, s15, s16, s17, s18, s19, s20, s21] B = some (cs.map ratD, B') := by
  obtain ⟨r, B1, b1, h1, h2, e1⟩ := sp_draw 8 B hb (by decide) (by decide)
  obtain ⟨ys, B2, e2, hl, hq, b2⟩ := cmpGo_st (tg := gN 15) (e := (dFn (d_law_ratio) (dConsA (dV (dFn (d_law_draw) (dConsA (dVarV 1) (dConsA (dV (dC (.int 4))) dNilA)))) (dConsA (dV (dOp pyAdd (dC (.int 1)) (dFn (d_law_draw) (dConsA (dVarV 1) (dConsA (dV (dC (.int 3))) dNilA))))) dNilA)))) (sw := [s0, some .box, s2, s3, s4, s5, s6, s7, s8, s9, s10, s11, s12, s13, s14, none, s16, s17, s18, s19, s20, s21]) (fun y => ∃ c, y = ratD c ∧ Bd 2 c ∧ 0 ≤ c) (rngD 0 (1 + r).toNat) B1 b1 fun x hx B0 b0 => by
    obtain ⟨c, B', q1, q2, q3, q4⟩ := el_ch (s0 := s0) (s2 := s2) (s3 := s3) (s4 := s4) (s5 := s5) (s6 := s6) (s7 := s7) (s8 := s8) (s9 := s9) (s10 := s10) (s11 := s11) (s12 := s12) (s13 := s13) (s14 := s14) (s15 := some (.dat x)) (s16 := s16) (s17 := s17) (s18 := s18) (s19 := s19) (s20 := s20) (s21 := s21) B0 b0
    exact ⟨_, _, B', rfl, q4, ⟨c, rfl, q1, q2⟩, q3⟩
  obtain ⟨cs, rfl, hcs⟩ := rats_of ys hq
  rw [List.length_map, rngD_length] at hl
  refine ⟨cs, B2, ⟨by omega, hcs⟩, b2, ?_⟩
  have r1 := rng_okI (i := 1 + r) (by omega) (by omega)
  have r2 : ((1 + r).toNat < sizeLine) = True := eq_true (szlt (by omega))
  rw [k_cmp]
  generalize (dFn (d_law_ratio) (dConsA (dV (dFn (d_law_draw) (dConsA (dVarV 1) (dConsA (dV (dC (.int 4))) dNilA)))) (dConsA (dV (dOp pyAdd (dC (.int 1)) (dFn (d_law_draw) (dConsA (dVarV 1) (dConsA (dV (dC (.int 3))) dNilA))))) dNilA))) = E at e2 ⊢
  simp only [k_dC, k_var_ap, k_varO_ap, k_varV_ap, k_op, k_op1, k_op2, k_fin, k_tst, k_t1, k_t2, k_tF, k_opB, k_B, k_neg, k_neg1, k_andT, k_orT, k_notT, k_and1, k_and0, k_or1, k_or0, k_not1, k_tru, k_tru1, k_andV, k_orV, k_notV, k_andV1, k_andV0, k_orV1, k_orV0, k_notV1, k_if, k_if1, k_if0, k_ifD, k_nil, k_cons, k_cons1, k_cons2, k_nilA, k_consA, k_consA1, k_consA2, k_V, k_V1, k_F, k_F1, k_tup, k_tup1, k_lst, k_lst1, k_cl, k_cl1, k_clL, k_clL1, k_finL, k_isi, k_isi1, k_fn, k_fn1, k_dat, k_fnV, k_fnV1, k_seqI, k_seqI1, k_seqI2, k_rng1, k_rng1', k_rng2, k_rng2a, k_rng2b, k_enum, k_enum1, k_zip, k_zip1, k_zip2, k_P, k_P1, k_noP, k_sl, k_sl1, k_sl2, k_sl3, k_cmp, k_cmp1, k_yes, k_seq, k_seq1, k_seq2, k_seq3, k_seq4, k_next, k_brk, k_cont, k_retN, k_asg, k_asg1, k_asgV, k_asgV1, k_asgV2, k_asgV3, k_asgO, k_asgO1, k_asgG, k_asgG1, k_nx, k_gN, k_gT, k_gC, k_g1, k_g0, k_par, k_par1, k_par2, k_drop, k_drop1, k_ret, k_ret1, k_retV, k_retV1, k_ifS, k_ifS1, k_ifS0, k_ifSD, k_fz_ap, k_app, k_app1, k_for, k_for1, k_aug1, k_fun1, k_fun2, k_idx, k_idx1, k_idx2, k_lenC, k_lenC1, k_popC, k_bset, k_getC, k_getC1, k_getC2, k_at0, k_at1, k_at2, k_bg1, k_bg2, k_bs1, k_bs2, k_bc, k_pop1, sz0, sz1, sz2, sz3, sz4, sz5, sz6, k_fun, eqI, neI, addI, subI, ltI, leI, gtI, geI, truD, isTy, tyName, pyLen, pyAbs, pyMin2, pyMax2, pyInt, pyTuple, pyList, pyIx, pyIs, pyIsNot, isNon, nown, wipeD, Option.map_some, List.getElem?_cons_zero, List.getElem?_cons_succ, List.set_cons_zero, List.set_cons_succ, List.map_cons, List.map_nil, List.cons_append, List.nil_append, List.length_cons, List.length_nil, List.all_cons, List.all_nil, List.replicate_succ, List.replicate_zero, Bool.and_true, Bool.true_and, Bool.and_self, Bool.not_true, Bool.not_false, and_self, and_true, true_and, if_true, if_false, reduceIte, reduceCtorEq, decide_true, decide_false, Bool.false_eq_true, Nat.reduceAdd, Nat.reduceEqDiff, e1, r1, rngD_length, r2, e2]
end Dn

set_option Elab.async false
set_option linter.all false
set_option autoImplicit false
set_option maxRecDepth 100000
set_option maxHeartbeats 4000000
set_option exponentiation.threshold 100000
namespace Dn
open PySem
def OKs (sl : Sl) : Prop := ∃ s0 s2 s3 s4 s5 s6 s7 s8 s9 s10 s11 s12 s13 s14 s15 s16 s17 s18 s19 s20 s21 : Option Sv, sl = [s0, some .box, s2, s3, s4, s5, s6, s7, s8, s9, s10, s11, s12, s13, s14, s15, s16, s17, s18, s19, s20, s21]
theorem mk22 {s0 s2 s3 s4 s5 s6 s7 s8 s9 s10 s11 s12 s13 s14 s15 s16 s17 s18 s19 s20 s21 : Option Sv} : OKs [s0, some .box, s2, s3, s4, s5, s6, s7, s8, s9, s10, s11, s12, s13, s14, s15, s16, s17, s18, s19, s20, s21] := by exact ⟨_, _, _, _, _, _, _, _, _, _, _, _, _, _, _, _, _, _, _, _, _, rfl⟩
theorem tail17 {s0 s2 s4 s5 s6 s7 s8 s9 s10 s11 s12 s13 s14 s15 s17 s18 s19 s20 s21 : Option Sv} (p : Nat) (hp : p < 100) (cs : List Rat) (hc : Ch cs) (B : Bx) : ∃ sl, OKs sl ∧ ((dSeq (dAsg 17 (dTup (dCons (dC (.int 0)) (dCons (dC (.int 1)) dNil)))) (dSeq (dFor (dSeq' (dVar 16)) (gN 18) law_L4) (dSeq (dIfS (dTst pyEq (dVarO 17) (dTup (dCons (dC (.int 0)) (dCons (dC (.int 1)) dNil)))) dCont dNext) (dSeq (dAsgO 19 (dLst dNil)) (dSeq (dFor (dRng2 (dC (.int 1)) (dOp pyAdd (dCl pyLen (dCons (dVarO 16) dNil)) (dC (.int 2)))) (gN 5) law_L3) (dSeq (dAsg 21 (dOp pyIx (dVarO 19) (dC (.int 0)))) (dFz 19 (dSeq (dFor (dSeq' (dVar 19)) (gN 10) law_L1) (dIfS (dNotT (dTru (dFn (d_law_same 8) (dConsA (dV (dFn (d_best_on_average) (dConsA (dVarV 3) (dConsA (dVarV 16) dNilA)))) (dConsA (dV (dOp pyAdd (dIndex (dVarO 19) (dVarO 21)) (dC (.int 1)))) dNilA))))) (dRet (dC (.bool false))) dNext))))))))) [s0, some .box, s2, some (.dat (.int p)), s4, s5, s6, s7, s8, s9, s10, s11, s12, s13, s14, s15, some (.dat (.tuple (cs.map ratD))), s17, s18, s19, s20, s21] B = some (.nx sl B) ∨ (dSeq (dAsg 17 (dTup (dCons (dC (.int 0)) (dCons (dC (.int 1)) dNil)))) (dSeq (dFor (dSeq' (dVar 16)) (gN 18) law_L4) (dSeq (dIfS (dTst pyEq (dVarO 17) (dTup (dCons (dC (.int 0)) (dCons (dC (.int 1)) dNil)))) dCont dNext) (dSeq (dAsgO 19 (dLst dNil)) (dSeq (dFor (dRng2 (dC (.int 1)) (dOp pyAdd (dCl pyLen (dCons (dVarO 16) dNil)) (dC (.int 2)))) (gN 5) law_L3) (dSeq (dAsg 21 (dOp pyIx (dVarO 19) (dC (.int 0)))) (dFz 19 (dSeq (dFor (dSeq' (dVar 19)) (gN 10) law_L1) (dIfS (dNotT (dTru (dFn (d_law_same 8) (dConsA (dV (dFn (d_best_on_average) (dConsA (dVarV 3) (dConsA (dVarV 16) dNilA)))) (dConsA (dV (dOp pyAdd (dIndex (dVarO 19) (dVarO 21)) (dC (.int 1)))) dNilA))))) (dRet (dC (.bool false))) dNext))))))))) [s0, some .box, s2, some (.dat (.int p)), s4, s5, s6, s7, s8, s9, s10, s11, s12, s13, s14, s15, some (.dat (.tuple (cs.map ratD))), s17, s18, s19, s20, s21] B = some (.ct sl B)) := by
  have hl := hc.1
  obtain ⟨t18, e4⟩ := loop_L4 (s0 := s0) (s2 := s2) (s3 := some (.dat (.int p))) (s4 := s4) (s5 := s5) (s6 := s6) (s7 := s7) (s8 := s8) (s9 := s9) (s10 := s10) (s11 := s11) (s12 := s12) (s13 := s13) (s14 := s14) (s15 := s15) (s16 := some (.dat (.tuple (cs.map ratD)))) (s18 := s18) (s19 := s19) (s20 := s20) (s21 := s21) cs hc B
  by_cases hw : wh cs cs.length = 0
  · have key : (dSeq (dAsg 17 (dTup (dCons (dC (.int 0)) (dCons (dC (.int 1)) dNil)))) (dSeq (dFor (dSeq' (dVar 16)) (gN 18) law_L4) (dSeq (dIfS (dTst pyEq (dVarO 17) (dTup (dCons (dC (.int 0)) (dCons (dC (.int 1)) dNil)))) dCont dNext) (dSeq (dAsgO 19 (dLst dNil)) (dSeq (dFor (dRng2 (dC (.int 1)) (dOp pyAdd (dCl pyLen (dCons (dVarO 16) dNil)) (dC (.int 2)))) (gN 5) law_L3) (dSeq (dAsg 21 (dOp pyIx (dVarO 19) (dC (.int 0)))) (dFz 19 (dSeq (dFor (dSeq' (dVar 19)) (gN 10) law_L1) (dIfS (dNotT (dTru (dFn (d_law_same 8) (dConsA (dV (dFn (d_best_on_average) (dConsA (dVarV 3) (dConsA (dVarV 16) dNilA)))) (dConsA (dV (dOp pyAdd (dIndex (dVarO 19) (dVarO 21)) (dC (.int 1)))) dNilA))))) (dRet (dC (.bool false))) dNext))))))))) [s0, some .box, s2, some (.dat (.int p)), s4, s5, s6, s7, s8, s9, s10, s11, s12, s13, s14, s15, some (.dat (.tuple (cs.map ratD))), s17, s18, s19, s20, s21] B = some (.ct [s0, some .box, s2, some (.dat (.int p)), s4, s5, s6, s7, s8, s9, s10, s11, s12, s13, s14, s15, some (.dat (.tuple (cs.map ratD))), some (.dat (ratD (wh cs cs.length))), t18, s19, s20, s21] B) := by
      have hq := eq_true hw
      simp only [k_dC, k_var_ap, k_varO_ap, k_varV_ap, k_op, k_op1, k_op2, k_fin, k_tst, k_t1, k_t2, k_tF, k_opB, k_B, k_neg, k_neg1, k_andT, k_orT, k_notT, k_and1, k_and0, k_or1, k_or0, k_not1, k_tru, k_tru1, k_andV, k_orV, k_notV, k_andV1, k_andV0, k_orV1, k_orV0, k_notV1, k_if, k_if1, k_if0, k_ifD, k_nil, k_cons, k_cons1, k_cons2, k_nilA, k_consA, k_consA1, k_consA2, k_V, k_V1, k_F, k_F1, k_tup, k_tup1, k_lst, k_lst1, k_cl, k_cl1, k_clL, k_clL1, k_finL, k_isi, k_isi1, k_fn, k_fn1, k_dat, k_fnV, k_fnV1, k_seqI, k_seqI1, k_seqI2, k_rng1, k_rng1', k_rng2, k_rng2a, k_rng2b, k_enum, k_enum1, k_zip, k_zip1, k_zip2, k_P, k_P1, k_noP, k_sl, k_sl1, k_sl2, k_sl3, k_cmp, k_cmp1, k_yes, k_seq, k_seq1, k_seq2, k_seq3, k_seq4, k_next, k_brk, k_cont, k_retN, k_asg, k_asg1, k_asgV, k_asgV1, k_asgV2, k_asgV3, k_asgO, k_asgO1, k_asgG, k_asgG1, k_nx, k_gN, k_gT, k_gC, k_g1, k_g0, k_par, k_par1, k_par2, k_drop, k_drop1, k_ret, k_ret1, k_retV, k_retV1, k_ifS, k_ifS1, k_ifS0, k_ifSD, k_fz_ap, k_app, k_app1, k_for, k_for1, k_aug1, k_fun1, k_fun2, k_idx, k_idx1, k_idx2, k_lenC, k_lenC1, k_popC, k_bset, k_getC, k_getC1, k_getC2, k_bg1, k_bg2, k_bs1, k_bs2, k_bc, k_pop1, sz0, sz1, sz2, sz3, sz4, sz5, sz6, k_fun, eqI, neI, addI, subI, ltI, leI, gtI, geI, truD, isTy, tyName, pyLen, pyAbs, pyMin2, pyMax2, pyInt, pyTuple, pyList, pyIs, pyIsNot, isNon, nown, wipeD, Option.map_some, List.getElem?_cons_zero, List.getElem?_cons_succ, List.set_cons_zero, List.set_cons_succ, List.map_cons, List.map_nil, List.cons_append, List.nil_append, List.length_cons, List.length_nil, List.all_cons, List.all_nil, List.replicate_succ, List.replicate_zero, Bool.and_true, Bool.true_and, Bool.and_self, Bool.not_true, Bool.not_false, and_self, and_true, true_and, if_true, if_false, reduceIte, reduceCtorEq, decide_true, decide_false, Bool.false_eq_true, Nat.reduceAdd, Nat.reduceEqDiff, ratD_zero, e4, eqR, hq]
    exact ⟨_, mk22, .inr key⟩
  · have hpos : 0 < wh cs cs.length := Rat.lt_of_le_of_ne (wh_nn hc _) (Ne.symm hw)
    obtain ⟨t5, t15, t20, e3⟩ := loop_L3 (s0 := s0) (s2 := s2) (s4 := s4) (s5 := s5) (s6 := s6) (s7 := s7) (s8 := s8) (s9 := s9) (s10 := s10) (s11 := s11) (s12 := s12) (s13 := s13) (s14 := s14) (s15 := s15) (s18 := t18) (s20 := s20) (s21 := s21) p cs hc hp hpos B
    obtain ⟨t10, e1⟩ := loop_L1 (s0 := s0) (s2 := s2) (s3 := some (.dat (.int p))) (s4 := s4) (s5 := t5) (s6 := s6) (s7 := s7) (s8 := s8) (s9 := s9) (s10 := s10) (s11 := s11) (s12 := s12) (s13 := s13) (s14 := s14) (s15 := t15) (s16 := some (.dat (.tuple (cs.map ratD)))) (s17 := some (.dat (ratD (wh cs cs.length)))) (s18 := t18) (s19 := some (.dat (.list (vals (fun d => avg p d cs) (cs.length + 1))))) (s20 := t20) (fun d => avg p d cs) cs.length (fun k h1 h2 => avg_Bd hc hp (by omega) hpos) B
    have key : (dSeq (dAsg 17 (dTup (dCons (dC (.int 0)) (dCons (dC (.int 1)) dNil)))) (dSeq (dFor (dSeq' (dVar 16)) (gN 18) law_L4) (dSeq (dIfS (dTst pyEq (dVarO 17) (dTup (dCons (dC (.int 0)) (dCons (dC (.int 1)) dNil)))) dCont dNext) (dSeq (dAsgO 19 (dLst dNil)) (dSeq (dFor (dRng2 (dC (.int 1)) (dOp pyAdd (dCl pyLen (dCons (dVarO 16) dNil)) (dC (.int 2)))) (gN 5) law_L3) (dSeq (dAsg 21 (dOp pyIx (dVarO 19) (dC (.int 0)))) (dFz 19 (dSeq (dFor (dSeq' (dVar 19)) (gN 10) law_L1) (dIfS (dNotT (dTru (dFn (d_law_same 8) (dConsA (dV (dFn (d_best_on_average) (dConsA (dVarV 3) (dConsA (dVarV 16) dNilA)))) (dConsA (dV (dOp pyAdd (dIndex (dVarO 19) (dVarO 21)) (dC (.int 1)))) dNilA))))) (dRet (dC (.bool false))) dNext))))))))) [s0, some .box, s2, some (.dat (.int p)), s4, s5, s6, s7, s8, s9, s10, s11, s12, s13, s14, s15, some (.dat (.tuple (cs.map ratD))), s17, s18, s19, s20, s21] B = some (.nx [s0, some .box, s2, some (.dat (.int p)), s4, t5, s6, s7, s8, s9, t10, s11, s12, s13, s14, t15, some (.dat (.tuple (cs.map ratD))), some (.dat (ratD (wh cs cs.length))), t18, some (.dat (.list (vals (fun d => avg p d cs) (cs.length + 1)))), t20, some (.dat (ratD (avg p (am (fun d => avg p d cs) (cs.length + 1)) cs)))] B) := by
      have hq := eq_false hw
      have r1 := rng_ok2 (i := 1) (j := (cs.length : Int) + 2) (by decide) (by decide) (by omega) (by omega)
      have r2 : ((cs.length : Int) + 2 - 1).toNat = cs.length + 1 := by omega
      have i0 := ix_list (vals_at (f := fun d => avg p d cs) (show 0 < cs.length + 1 by omega))
      have ix := am_index (fun d => avg p d cs) (cs.length + 1) (by omega)
      have a1 := am_ge (fun d => avg p d cs) (cs.length + 1)
      have r3 : ((am (fun d => avg p d cs) (cs.length + 1) - 1 : Nat) : Int) + 1 = am (fun d => avg p d cs) (cs.length + 1) := by omega
      have e5 := sp_best_avg p cs hc hp hpos B
      have e6 := sameT (d := .int (am (fun d => avg p d cs) (cs.length + 1))) B (by show 0 < 8; decide) rfl
      rw [show ((0 : Nat) : Int) = 0 from rfl] at i0
      rw [Nat.zero_add] at i0
      simp only [k_dC, k_var_ap, k_varO_ap, k_varV_ap, k_op, k_op1, k_op2, k_fin, k_tst, k_t1, k_t2, k_tF, k_opB, k_B, k_neg, k_neg1, k_andT, k_orT, k_notT, k_and1, k_and0, k_or1, k_or0, k_not1, k_tru, k_tru1, k_andV, k_orV, k_notV, k_andV1, k_andV0, k_orV1, k_orV0, k_notV1, k_if, k_if1, k_if0, k_ifD, k_nil, k_cons, k_cons1, k_cons2, k_nilA, k_consA, k_consA1, k_consA2, k_V, k_V1, k_F, k_F1, k_tup, k_tup1, k_lst, k_lst1, k_cl, k_cl1, k_clL, k_clL1, k_finL, k_isi, k_isi1, k_fn, k_fn1, k_dat, k_fnV, k_fnV1, k_seqI, k_seqI1, k_seqI2, k_rng1, k_rng1', k_rng2, k_rng2a, k_rng2b, k_enum, k_enum1, k_zip, k_zip1, k_zip2, k_P, k_P1, k_noP, k_sl, k_sl1, k_sl2, k_sl3, k_cmp, k_cmp1, k_yes, k_seq, k_seq1, k_seq2, k_seq3, k_seq4, k_next, k_brk, k_cont, k_retN, k_asg, k_asg1, k_asgV, k_asgV1, k_asgV2, k_asgV3, k_asgO, k_asgO1, k_asgG, k_asgG1, k_nx, k_gN, k_gT, k_gC, k_g1, k_g0, k_par, k_par1, k_par2, k_drop, k_drop1, k_ret, k_ret1, k_retV, k_retV1, k_ifS, k_ifS1, k_ifS0, k_ifSD, k_fz_ap, k_app, k_app1, k_for, k_for1, k_aug1, k_fun1, k_fun2, k_idx, k_idx1, k_idx2, k_lenC, k_lenC1, k_popC, k_bset, k_getC, k_getC1, k_getC2, k_bg1, k_bg2, k_bs1, k_bs2, k_bc, k_pop1, sz0, sz1, sz2, sz3, sz4, sz5, sz6, k_fun, eqI, neI, addI, subI, ltI, leI, gtI, geI, truD, isTy, tyName, pyLen, pyAbs, pyMin2, pyMax2, pyInt, pyTuple, pyList, pyIs, pyIsNot, isNon, nown, wipeD, Option.map_some, List.getElem?_cons_zero, List.getElem?_cons_succ, List.set_cons_zero, List.set_cons_succ, List.map_cons, List.map_nil, List.cons_append, List.nil_append, List.length_cons, List.length_nil, List.all_cons, List.all_nil, List.replicate_succ, List.replicate_zero, Bool.and_true, Bool.true_and, Bool.and_self, Bool.not_true, Bool.not_false, and_self, and_true, true_and, if_true, if_false, reduceIte, reduceCtorEq, decide_true, decide_false, Bool.false_eq_true, Nat.reduceAdd, Nat.reduceEqDiff, ratD_zero, e4, eqR, hq, r1, r2, List.length_map, e3, i0, e1, ix, r3, e5, e6]
    exact ⟨_, mk22, .inl key⟩
end Dn

set_option Elab.async false
set_option linter.all false
set_option autoImplicit false
set_option maxRecDepth 100000
set_option maxHeartbeats 4000000
set_option exponentiation.threshold 100000
namespace Dn
open PySem
theorem am_worst {p : Nat} (hp : 1 ≤ p) : am (worstV p) (2 * p + 2) = p := by
  have h1 := am_ge (worstV p) (2 * p + 2)
  by_cases h : am (worstV p) (2 * p + 2) = p
  · exact h
  · exact absurd (worst_least hp h1 h) (am_least (worstV p) (2 * p + 2) p hp (by omega))
theorem filt_vals (f : Nat → Rat) (j : Nat) (hj : 1 ≤ j) (h : ∀ k, 1 ≤ k → k ≠ j → f k ≠ f j) : ∀ n, ((vals f n).filter fun x => PyData.eqv x (ratD (f j))).length = if j ≤ n then 1 else 0
  | 0 => by rw [if_neg (by omega)]; rfl
  | n + 1 => by
    rw [vals_succ, List.filter_append, List.length_append, filt_vals f j hj h n]
    by_cases e : n + 1 = j
    · subst e
      have q : PyData.eqv (ratD (f (n + 1))) (ratD (f (n + 1))) = true := by rw [eqv_rat]; simp
      rw [List.filter_cons_of_pos (p := fun x => PyData.eqv x (ratD (f (n + 1)))) q, if_neg (by omega), if_pos (Nat.le_refl _)]
      rfl
    · have q : ¬ PyData.eqv (ratD (f (n + 1))) (ratD (f j)) = true := by
        rw [eqv_rat]; simpa using h (n + 1) (by omega) e
      rw [List.filter_cons_of_neg (p := fun x => PyData.eqv x (ratD (f j))) q]
      split <;> split <;> first | rfl | omega
theorem cm_count {s0 s2 s3 s5 s6 s7 s8 s9 s10 s12 s13 s14 s15 s16 s17 s18 s19 s20 s21 : Option Sv} (f : Nat → Rat) (n : Nat) (hn : n < 1000) (v : Rat) (B : Bx) : (dCmp (dSeq' (dVarO 4)) (gN 10) (dTst pyEq (dVarO 10) (dVarO 11)) (dVar 10) [10]) [s0, some .box, s2, s3, some (.dat (.list (vals f n))), s5, s6, s7, s8, s9, s10, some (.dat (ratD v)), s12, s13, s14, s15, s16, s17, s18, s19, s20, s21] B = some ((vals f n).filter fun x => PyData.eqv x (ratD v), B) := by
  have e := cmpGo_pure (tg := gN 10) (t := dTst pyEq (dVarO 10) (dVarO 11)) (e := dVar 10) (sw := [s0, some .box, s2, s3, some (.dat (.list (vals f n))), s5, s6, s7, s8, s9, none, some (.dat (ratD v)), s12, s13, s14, s15, s16, s17, s18, s19, s20, s21]) (B := B) (fun x => PyData.eqv x (ratD v)) id (vals f n) fun x hx => by
    obtain ⟨i, hi, rfl⟩ := vals_mem hx
    refine ⟨_, rfl, ?_, fun _ => rfl⟩
    have q := eqR (f (i + 1)) v
    rw [← eqv_rat] at q
    simp only [k_dC, k_var_ap, k_varO_ap, k_varV_ap, k_op, k_op1, k_op2, k_fin, k_tst, k_t1, k_t2, k_tF, k_opB, k_B, k_neg, k_neg1, k_andT, k_orT, k_notT, k_and1, k_and0, k_or1, k_or0, k_not1, k_tru, k_tru1, k_andV, k_orV, k_notV, k_andV1, k_andV0, k_orV1, k_orV0, k_notV1, k_if, k_if1, k_if0, k_ifD, k_nil, k_cons, k_cons1, k_cons2, k_nilA, k_consA, k_consA1, k_consA2, k_V, k_V1, k_F, k_F1, k_tup, k_tup1, k_lst, k_lst1, k_cl, k_cl1, k_clL, k_clL1, k_finL, k_isi, k_isi1, k_fn, k_fn1, k_dat, k_fnV, k_fnV1, k_seqI, k_seqI1, k_seqI2, k_rng1, k_rng1', k_rng2, k_rng2a, k_rng2b, k_enum, k_enum1, k_zip, k_zip1, k_zip2, k_P, k_P1, k_noP, k_sl, k_sl1, k_sl2, k_sl3, k_cmp, k_cmp1, k_yes, k_seq, k_seq1, k_seq2, k_seq3, k_seq4, k_next, k_brk, k_cont, k_retN, k_asg, k_asg1, k_asgV, k_asgV1, k_asgV2, k_asgV3, k_asgO, k_asgO1, k_asgG, k_asgG1, k_nx, k_gN, k_gT, k_gC, k_g1, k_g0, k_par, k_par1, k_par2, k_drop, k_drop1, k_ret, k_ret1, k_retV, k_retV1, k_ifS, k_ifS1, k_ifS0, k_ifSD, k_fz_ap, k_app, k_app1, k_for, k_for1, k_aug1, k_fun1, k_fun2, k_idx, k_idx1, k_idx2, k_lenC, k_lenC1, k_popC, k_bset, k_getC, k_getC1, k_getC2, k_at0, k_at1, k_at2, k_bg1, k_bg2, k_bs1, k_bs2, k_bc, k_pop1, sz0, sz1, sz2, sz3, sz4, sz5, sz6, k_fun, eqI, neI, addI, subI, ltI, leI, gtI, geI, truD, isTy, tyName, pyLen, pyAbs, pyMin2, pyMax2, pyInt, pyTuple, pyList, pyIx, pyIs, pyIsNot, isNon, nown, wipeD, Option.map_some, List.getElem?_cons_zero, List.getElem?_cons_succ, List.set_cons_zero, List.set_cons_succ, List.map_cons, List.map_nil, List.cons_append, List.nil_append, List.length_cons, List.length_nil, List.all_cons, List.all_nil, List.replicate_succ, List.replicate_zero, Bool.and_true, Bool.true_and, Bool.and_self, Bool.not_true, Bool.not_false, and_self, and_true, true_and, if_true, if_false, reduceIte, reduceCtorEq, decide_true, decide_false, Bool.false_eq_true, Nat.reduceAdd, Nat.reduceEqDiff, q]
  rw [List.map_id] at e
  have r2 : (n < sizeLine) = True := eq_true (szlt (by omega))
  simp only [k_dC, k_var_ap, k_varO_ap, k_varV_ap, k_op, k_op1, k_op2, k_fin, k_tst, k_t1, k_t2, k_tF, k_opB, k_B, k_neg, k_neg1, k_andT, k_orT, k_notT, k_and1, k_and0, k_or1, k_or0, k_not1, k_tru, k_tru1, k_andV, k_orV, k_notV, k_andV1, k_andV0, k_orV1, k_orV0, k_notV1, k_if, k_if1, k_if0, k_ifD, k_nil, k_cons, k_cons1, k_cons2, k_nilA, k_consA, k_consA1, k_consA2, k_V, k_V1, k_F, k_F1, k_tup, k_tup1, k_lst, k_lst1, k_cl, k_cl1, k_clL, k_clL1, k_finL, k_isi, k_isi1, k_fn, k_fn1, k_dat, k_fnV, k_fnV1, k_seqI, k_seqI1, k_seqI2, k_rng1, k_rng1', k_rng2, k_rng2a, k_rng2b, k_enum, k_enum1, k_zip, k_zip1, k_zip2, k_P, k_P1, k_noP, k_sl, k_sl1, k_sl2, k_sl3, k_cmp, k_cmp1, k_yes, k_seq, k_seq1, k_seq2, k_seq3, k_seq4, k_next, k_brk, k_cont, k_retN, k_asg, k_asg1, k_asgV, k_asgV1, k_asgV2, k_asgV3, k_asgO, k_asgO1, k_asgG, k_asgG1, k_nx, k_gN, k_gT, k_gC, k_g1, k_g0, k_par, k_par1, k_par2, k_drop, k_drop1, k_ret, k_ret1, k_retV, k_retV1, k_ifS, k_ifS1, k_ifS0, k_ifSD, k_fz_ap, k_app, k_app1, k_for, k_for1, k_aug1, k_fun1, k_fun2, k_idx, k_idx1, k_idx2, k_lenC, k_lenC1, k_popC, k_bset, k_getC, k_getC1, k_getC2, k_at0, k_at1, k_at2, k_bg1, k_bg2, k_bs1, k_bs2, k_bc, k_pop1, sz0, sz1, sz2, sz3, sz4, sz5, sz6, k_fun, eqI, neI, addI, subI, ltI, leI, gtI, geI, truD, isTy, tyName, pyLen, pyAbs, pyMin2, pyMax2, pyInt, pyTuple, pyList, pyIx, pyIs, pyIsNot, isNon, nown, wipeD, Option.map_some, List.getElem?_cons_zero, List.getElem?_cons_succ, List.set_cons_zero, List.set_cons_succ, List.map_cons, List.map_nil, List.cons_append, List.nil_append, List.length_cons, List.length_nil, List.all_cons, List.all_nil, List.replicate_succ, List.replicate_zero, Bool.and_true, Bool.true_and, Bool.and_self, Bool.not_true, Bool.not_false, and_self, and_true, true_and, if_true, if_false, reduceIte, reduceCtorEq, decide_true, decide_false, Bool.false_eq_true, Nat.reduceAdd, Nat.reduceEqDiff, vals_length, r2, e]
theorem body_L8 {s0 s2 s3 s4 s5 s6 s7 s8 s9 s10 s11 s12 s13 s14 s15 s16 s17 s18 s19 s20 s21 : Option Sv} (B : Bx) (hb : BI B) : ∃ sl B', OKs sl ∧ BI B' ∧ (law_L8 [s0, some .box, s2, s3, s4, s5, s6, s7, s8, s9, s10, s11, s12, s13, s14, s15, s16, s17, s18, s19, s20, s21] B = some (.nx sl B') ∨ law_L8 [s0, some .box, s2, s3, s4, s5, s6, s7, s8, s9, s10, s11, s12, s13, s14, s15, s16, s17, s18, s19, s20, s21] B = some (.ct sl B')) := by
  obtain ⟨r0, B1, b1, hr0, hr0', d0⟩ := sp_draw 40 B hb (by decide) (by decide)
  obtain ⟨p, hp⟩ : ∃ p : Nat, 1 + r0 = (p : Int) := ⟨(1 + r0).toNat, by omega⟩
  have p1 : 1 ≤ p := by omega
  have p2 : p ≤ 40 := by omega
  obtain ⟨t5, t6, t7, t8, t9, t10, e7⟩ := loop_L7 (s0 := s0) (s2 := s2) (s5 := s5) (s6 := s6) (s7 := s7) (s8 := s8) (s9 := s9) (s10 := s10) (s11 := s11) (s12 := s12) (s13 := s13) (s14 := s14) (s15 := s15) (s16 := s16) (s17 := s17) (s18 := s18) (s19 := s19) (s20 := s20) (s21 := s21) p p1 (by omega) B1
  obtain ⟨r1, B2, b2, hr1, hr1', d1⟩ := sp_draw 80 B1 b1 (by decide) (by decide)
  obtain ⟨n, hn⟩ : ∃ n : Nat, 1 + r1 = (n : Int) := ⟨(1 + r1).toNat, by omega⟩
  obtain ⟨r2, B3, b3, hr2, hr2', d2⟩ := sp_draw 80 B2 b2 (by decide) (by decide)
  obtain ⟨d, hd⟩ : ∃ d : Nat, 1 + r2 = (d : Int) := ⟨(1 + r2).toNat, by omega⟩
  obtain ⟨u10, e5⟩ := loop_L5 (s0 := s0) (s2 := s2) (s3 := some (.dat (.int p))) (s4 := some (.dat (.list (vals (worstV p) (2 * p + 2))))) (s5 := some (.dat (.int d))) (s6 := t6) (s7 := t7) (s8 := some (.dat (.int n))) (s9 := t9) (s10 := t10) (s12 := s12) (s13 := s13) (s14 := s14) (s15 := s15) (s16 := s16) (s17 := s17) (s18 := s18) (s19 := s19) (s20 := s20) (s21 := s21) (worstV p) (2 * p + 1) (fun k h1 h2 => (worst_Bd p1 h1 (by omega) (by omega)).mono (by decide)) B3
  rw [show 2 * p + 1 + 1 = 2 * p + 2 from rfl, am_worst p1] at e5
  obtain ⟨r3, B4, b4, hr3, hr3', d3⟩ := sp_draw (2 * p + 2) B3 b3 (by omega) (by omega)
  obtain ⟨o, ho⟩ : ∃ o : Nat, 1 + r3 = (o : Int) := ⟨(1 + r3).toNat, by omega⟩
  obtain ⟨cs, B5, hc, b5, e8⟩ := cm_ch (s0 := s0) (s2 := s2) (s3 := some (.dat (.int p))) (s4 := some (.dat (.list (vals (worstV p) (2 * p + 2))))) (s5 := some (.dat (.int d))) (s6 := t6) (s7 := t7) (s8 := some (.dat (.int n))) (s9 := t9) (s10 := u10) (s11 := some (.dat (ratD (worstV p p)))) (s12 := some (.dat (.int p))) (s13 := some (.dat (.int o))) (s14 := some (.dat (.tuple [.bool (decide (worstV p d < worstV p o)), ratD (mkRat n (min p n))]))) (s15 := s15) (s16 := s16) (s17 := s17) (s18 := s18) (s19 := s19) (s20 := s20) (s21 := s21) B4 b4
  obtain ⟨sl, ok, hT⟩ := tail17 (s0 := s0) (s2 := s2) (s4 := some (.dat (.list (vals (worstV p) (2 * p + 2))))) (s5 := some (.dat (.int d))) (s6 := t6) (s7 := t7) (s8 := some (.dat (.int n))) (s9 := t9) (s10 := u10) (s11 := some (.dat (ratD (worstV p p)))) (s12 := some (.dat (.int p))) (s13 := some (.dat (.int o))) (s14 := some (.dat (.tuple [.bool (decide (worstV p d < worstV p o)), ratD (mkRat n (min p n))]))) (s15 := s15) (s17 := s17) (s18 := s18) (s19 := s19) (s20 := s20) (s21 := s21) p (by omega) cs hc B5
  refine ⟨sl, B5, ok, b5, ?_⟩
  have e9 := cm_count (s0 := s0) (s2 := s2) (s3 := some (.dat (.int p))) (s5 := some (.dat (.int d))) (s6 := t6) (s7 := t7) (s8 := some (.dat (.int n))) (s9 := t9) (s10 := u10) (s12 := some (.dat (.int p))) (s13 := s13) (s14 := s14) (s15 := s15) (s16 := s16) (s17 := s17) (s18 := s18) (s19 := s19) (s20 := s20) (s21 := s21) (worstV p) (2 * p + 2) (by omega) (worstV p p) B3
  have hlen : (((vals (worstV p) (2 * p + 2)).filter fun x => PyData.eqv x (ratD (worstV p p))).length : Int) = 1 := by
    rw [filt_vals (worstV p) p p1 (fun k h1 h2 e => by have := worst_least p1 h1 h2; rw [e] at this; exact Rat.lt_irrefl this), if_pos (by omega)]
    rfl
  have q1 := rng_ok2 (i := 1) (j := 2 * (p : Int) + 3) (by decide) (by decide) (by omega) (by omega)
  have q2 : (2 * (p : Int) + 3 - 1).toNat = 2 * p + 2 := by omega
  have i0 := ix_list (vals_at (f := worstV p) (show 0 < 2 * p + 2 by omega))
  rw [show ((0 : Nat) : Int) = 0 from rfl, Nat.zero_add] at i0
  have f1 := sp_cost_hired p d n B3 (by omega)
  have f2 := sp_best_known p n B3
  have f3 := sp_paid p d n B3 (by omega) (by omega)
  have f4 := sameT (d := .tuple [.int (paidV p d n), .int (min p n : Nat)]) B3 (by show 1 < 8; decide) rfl
  have f5 := sp_best_day p B3 p1 (by omega)
  have f6 := sp_law_ratio (2 * (p : Int) - 1) p B3 (by omega) (small_int (by omega)) (small_intA (by omega))
  have f7 : mkRat (2 * (p : Int) - 1) (p : Int).toNat = worstV p p := by
    unfold worstV
    rw [Int.toNat_natCast, Nat.min_self, show 2 * (p : Int) - 1 = ((p - 1 + p : Nat) : Int) by omega]
  rw [f7] at f6
  have f8 := sameT (d := ratD (worstV p p)) B3 (by show 1 < 8; decide) rfl
  have ix := am_index (worstV p) (2 * p + 2) (by omega)
  rw [am_worst p1] at ix
  have q3 : ((p - 1 : Nat) : Int) + 1 = p := by omega
  have g1 := sp_worst p d B4 p1 (by omega) (by omega)
  have g2 := sp_worst p o B4 p1 (by omega) (by omega)
  have g3 := sp_law_less (worstV p d) (worstV p o) B4 (worst_Bd p1 (by omega) (by omega) (by omega)) (worst_Bd p1 (by omega) (by omega) (by omega)) (by decide)
  have g4 := sp_law_ratio (n : Int) ((min p n : Nat) : Int) B4 (by omega) (small_int (by omega)) (small_intA (by omega))
  rw [Int.toNat_natCast] at g4
  have g5 := sp_beats p d o B4 p1 (by omega) (by omega) (by omega) (by omega) (by omega)
  have g6 := sp_never p n B4 p1 (by omega) (by omega)
  have g7 := sameT (d := .tuple [.bool (decide (worstV p d < worstV p o)), ratD (mkRat n (min p n))]) B4 (by show 2 < 8; decide) rfl
  rw [law_L8]
  generalize (dSeq (dAsg 17 (dTup (dCons (dC (.int 0)) (dCons (dC (.int 1)) dNil)))) (dSeq (dFor (dSeq' (dVar 16)) (gN 18) law_L4) (dSeq (dIfS (dTst pyEq (dVarO 17) (dTup (dCons (dC (.int 0)) (dCons (dC (.int 1)) dNil)))) dCont dNext) (dSeq (dAsgO 19 (dLst dNil)) (dSeq (dFor (dRng2 (dC (.int 1)) (dOp pyAdd (dCl pyLen (dCons (dVarO 16) dNil)) (dC (.int 2)))) (gN 5) law_L3) (dSeq (dAsg 21 (dOp pyIx (dVarO 19) (dC (.int 0)))) (dFz 19 (dSeq (dFor (dSeq' (dVar 19)) (gN 10) law_L1) (dIfS (dNotT (dTru (dFn (d_law_same 8) (dConsA (dV (dFn (d_best_on_average) (dConsA (dVarV 3) (dConsA (dVarV 16) dNilA)))) (dConsA (dV (dOp pyAdd (dIndex (dVarO 19) (dVarO 21)) (dC (.int 1)))) dNilA))))) (dRet (dC (.bool false))) dNext))))))))) = T at hT ⊢
  generalize (dCmp (dRng1 (dOp pyAdd (dC (.int 1)) (dFn (d_law_draw) (dConsA (dVarV 1) (dConsA (dV (dC (.int 8))) dNilA))))) (gN 15) dYes (dFn (d_law_ratio) (dConsA (dV (dFn (d_law_draw) (dConsA (dVarV 1) (dConsA (dV (dC (.int 4))) dNilA)))) (dConsA (dV (dOp pyAdd (dC (.int 1)) (dFn (d_law_draw) (dConsA (dVarV 1) (dConsA (dV (dC (.int 3))) dNilA))))) dNilA))) [15]) = C1 at e8 ⊢
  generalize (dCmp (dSeq' (dVarO 4)) (gN 10) (dTst pyEq (dVarO 10) (dVarO 11)) (dVar 10) [10]) = C2 at e9 ⊢
  rcases hT with hT | hT
  · left
    simp only [k_dC, k_var_ap, k_varO_ap, k_varV_ap, k_op, k_op1, k_op2, k_fin, k_tst, k_t1, k_t2, k_tF, k_opB, k_B, k_neg, k_neg1, k_andT, k_orT, k_notT, k_and1, k_and0, k_or1, k_or0, k_not1, k_tru, k_tru1, k_andV, k_orV, k_notV, k_andV1, k_andV0, k_orV1, k_orV0, k_notV1, k_if, k_if1, k_if0, k_ifD, k_nil, k_cons, k_cons1, k_cons2, k_nilA, k_consA, k_consA1, k_consA2, k_V, k_V1, k_F, k_F1, k_tup, k_tup1, k_lst, k_lst1, k_cl, k_cl1, k_clL, k_clL1, k_finL, k_isi, k_isi1, k_fn, k_fn1, k_dat, k_fnV, k_fnV1, k_seqI, k_seqI1, k_seqI2, k_rng1, k_rng1', k_rng2, k_rng2a, k_rng2b, k_enum, k_enum1, k_zip, k_zip1, k_zip2, k_P, k_P1, k_noP, k_sl, k_sl1, k_sl2, k_sl3, k_cmp, k_cmp1, k_yes, k_seq, k_seq1, k_seq2, k_seq3, k_seq4, k_next, k_brk, k_cont, k_retN, k_asg, k_asg1, k_asgV, k_asgV1, k_asgV2, k_asgV3, k_asgO, k_asgO1, k_asgG, k_asgG1, k_nx, k_gN, k_gT, k_gC, k_g1, k_g0, k_par, k_par1, k_par2, k_drop, k_drop1, k_ret, k_ret1, k_retV, k_retV1, k_ifS, k_ifS1, k_ifS0, k_ifSD, k_fz_ap, k_app, k_app1, k_for, k_for1, k_aug1, k_fun1, k_fun2, k_idx, k_idx1, k_idx2, k_lenC, k_lenC1, k_popC, k_bset, k_getC, k_getC1, k_getC2, k_bg1, k_bg2, k_bs1, k_bs2, k_bc, k_pop1, sz0, sz1, sz2, sz3, sz4, sz5, sz6, k_fun, eqI, neI, addI, subI, ltI, leI, gtI, geI, truD, isTy, tyName, pyLen, pyAbs, pyMin2, pyMax2, pyInt, pyTuple, pyList, pyIs, pyIsNot, isNon, nown, wipeD, Option.map_some, List.getElem?_cons_zero, List.getElem?_cons_succ, List.set_cons_zero, List.set_cons_succ, List.map_cons, List.map_nil, List.cons_append, List.nil_append, List.length_cons, List.length_nil, List.all_cons, List.all_nil, List.replicate_succ, List.replicate_zero, Bool.and_true, Bool.true_and, Bool.and_self, Bool.not_true, Bool.not_false, and_self, and_true, true_and, if_true, if_false, reduceIte, reduceCtorEq, decide_true, decide_false, Bool.false_eq_true, Nat.reduceAdd, Nat.reduceEqDiff, d0, hp, mul2, q1, q2, e7, d1, hn, d2, hd, f1, f2, f3, minN, f4, i0, e5, f5, f6, f8, ix, q3, e9, hlen, ne_eq, not_true_eq_false, not_false_eq_true, d3, ho, g1, g2, g3, g4, g5, g6, g7, e8, hT]
  · right
    simp only [k_dC, k_var_ap, k_varO_ap, k_varV_ap, k_op, k_op1, k_op2, k_fin, k_tst, k_t1, k_t2, k_tF, k_opB, k_B, k_neg, k_neg1, k_andT, k_orT, k_notT, k_and1, k_and0, k_or1, k_or0, k_not1, k_tru, k_tru1, k_andV, k_orV, k_notV, k_andV1, k_andV0, k_orV1, k_orV0, k_notV1, k_if, k_if1, k_if0, k_ifD, k_nil, k_cons, k_cons1, k_cons2, k_nilA, k_consA, k_consA1, k_consA2, k_V, k_V1, k_F, k_F1, k_tup, k_tup1, k_lst, k_lst1, k_cl, k_cl1, k_clL, k_clL1, k_finL, k_isi, k_isi1, k_fn, k_fn1, k_dat, k_fnV, k_fnV1, k_seqI, k_seqI1, k_seqI2, k_rng1, k_rng1', k_rng2, k_rng2a, k_rng2b, k_enum, k_enum1, k_zip, k_zip1, k_zip2, k_P, k_P1, k_noP, k_sl, k_sl1, k_sl2, k_sl3, k_cmp, k_cmp1, k_yes, k_seq, k_seq1, k_seq2, k_seq3, k_seq4, k_next, k_brk, k_cont, k_retN, k_asg, k_asg1, k_asgV, k_asgV1, k_asgV2, k_asgV3, k_asgO, k_asgO1, k_asgG, k_asgG1, k_nx, k_gN, k_gT, k_gC, k_g1, k_g0, k_par, k_par1, k_par2, k_drop, k_drop1, k_ret, k_ret1, k_retV, k_retV1, k_ifS, k_ifS1, k_ifS0, k_ifSD, k_fz_ap, k_app, k_app1, k_for, k_for1, k_aug1, k_fun1, k_fun2, k_idx, k_idx1, k_idx2, k_lenC, k_lenC1, k_popC, k_bset, k_getC, k_getC1, k_getC2, k_bg1, k_bg2, k_bs1, k_bs2, k_bc, k_pop1, sz0, sz1, sz2, sz3, sz4, sz5, sz6, k_fun, eqI, neI, addI, subI, ltI, leI, gtI, geI, truD, isTy, tyName, pyLen, pyAbs, pyMin2, pyMax2, pyInt, pyTuple, pyList, pyIs, pyIsNot, isNon, nown, wipeD, Option.map_some, List.getElem?_cons_zero, List.getElem?_cons_succ, List.set_cons_zero, List.set_cons_succ, List.map_cons, List.map_nil, List.cons_append, List.nil_append, List.length_cons, List.length_nil, List.all_cons, List.all_nil, List.replicate_succ, List.replicate_zero, Bool.and_true, Bool.true_and, Bool.and_self, Bool.not_true, Bool.not_false, and_self, and_true, true_and, if_true, if_false, reduceIte, reduceCtorEq, decide_true, decide_false, Bool.false_eq_true, Nat.reduceAdd, Nat.reduceEqDiff, d0, hp, mul2, q1, q2, e7, d1, hn, d2, hd, f1, f2, f3, minN, f4, i0, e5, f5, f6, f8, ix, q3, e9, hlen, ne_eq, not_true_eq_false, not_false_eq_true, d3, ho, g1, g2, g3, g4, g5, g6, g7, e8, hT]
theorem law_den (ns : List Int) (hn : ns.length ≤ 63) : ∃ B', d_law [.scr ns] ⟨[], [], false⟩ = some (.dat (.bool true), B') := by
  obtain ⟨B0, b0, e0⟩ := sp_box ns
  obtain ⟨sx, B2, e, h⟩ := forGo_inv (tg := gN 2) (body := law_L8) (rngD 0 4) (fun i sl B' => OKs sl ∧ BI B') (fun i x sl B' hx hp2 => by
    obtain ⟨⟨s0, s2, s3, s4, s5, s6, s7, s8, s9, s10, s11, s12, s13, s14, s15, s16, s17, s18, s19, s20, s21, rfl⟩, hb⟩ := hp2
    obtain ⟨sl, B3, ok, b3, h⟩ := body_L8 (s0 := s0) (s2 := some (.dat x)) (s3 := s3) (s4 := s4) (s5 := s5) (s6 := s6) (s7 := s7) (s8 := s8) (s9 := s9) (s10 := s10) (s11 := s11) (s12 := s12) (s13 := s13) (s14 := s14) (s15 := s15) (s16 := s16) (s17 := s17) (s18 := s18) (s19 := s19) (s20 := s20) (s21 := s21) B' hb
    exact ⟨_, sl, B3, rfl, h, ok, b3⟩)
    0 [some (.scr ns), some .box, none, none, none, none, none, none, none, none, none, none, none, none, none, none, none, none, none, none, none, none] B0 (Nat.zero_le _) ⟨mk22, b0⟩
  rw [List.drop_zero] at e
  refine ⟨B2, ?_⟩
  have r1 := rng_okI (i := 4) (by decide) (by decide)
  have r2 : ((4 : Int)).toNat = 4 := rfl
  have f1 := sp_best_day 5 B2 (by decide) (by decide)
  have f2 := sp_worst 5 5 B2 (by decide) (by decide) (by decide)
  have z : ratD (worstV 5 5) = .tuple [.int 9, .int 5] := rfl
  rw [z] at f2
  have f3 := sameT (d := .tuple [.int 5, .tuple [.int 9, .int 5]]) B2 (by show 2 < 8; decide) rfl
  rw [show ((5 : Nat) : Int) = 5 from rfl] at f1 f2
  simp only [k_dC, k_var_ap, k_varO_ap, k_varV_ap, k_op, k_op1, k_op2, k_fin, k_tst, k_t1, k_t2, k_tF, k_opB, k_B, k_neg, k_neg1, k_andT, k_orT, k_notT, k_and1, k_and0, k_or1, k_or0, k_not1, k_tru, k_tru1, k_andV, k_orV, k_notV, k_andV1, k_andV0, k_orV1, k_orV0, k_notV1, k_if, k_if1, k_if0, k_ifD, k_nil, k_cons, k_cons1, k_cons2, k_nilA, k_consA, k_consA1, k_consA2, k_V, k_V1, k_F, k_F1, k_tup, k_tup1, k_lst, k_lst1, k_cl, k_cl1, k_clL, k_clL1, k_finL, k_isi, k_isi1, k_fn, k_fn1, k_dat, k_fnV, k_fnV1, k_seqI, k_seqI1, k_seqI2, k_rng1, k_rng1', k_rng2, k_rng2a, k_rng2b, k_enum, k_enum1, k_zip, k_zip1, k_zip2, k_P, k_P1, k_noP, k_sl, k_sl1, k_sl2, k_sl3, k_cmp, k_cmp1, k_yes, k_seq, k_seq1, k_seq2, k_seq3, k_seq4, k_next, k_brk, k_cont, k_retN, k_asg, k_asg1, k_asgV, k_asgV1, k_asgV2, k_asgV3, k_asgO, k_asgO1, k_asgG, k_asgG1, k_nx, k_gN, k_gT, k_gC, k_g1, k_g0, k_par, k_par1, k_par2, k_drop, k_drop1, k_ret, k_ret1, k_retV, k_retV1, k_ifS, k_ifS1, k_ifS0, k_ifSD, k_fz_ap, k_app, k_app1, k_for, k_for1, k_aug1, k_fun1, k_fun2, k_idx, k_idx1, k_idx2, k_lenC, k_lenC1, k_popC, k_bset, k_getC, k_getC1, k_getC2, k_at0, k_at1, k_at2, k_bg1, k_bg2, k_bs1, k_bs2, k_bc, k_pop1, sz0, sz1, sz2, sz3, sz4, sz5, sz6, k_fun, eqI, neI, addI, subI, ltI, leI, gtI, geI, truD, isTy, tyName, pyLen, pyAbs, pyMin2, pyMax2, pyInt, pyTuple, pyList, pyIx, pyIs, pyIsNot, isNon, nown, wipeD, Option.map_some, List.getElem?_cons_zero, List.getElem?_cons_succ, List.set_cons_zero, List.set_cons_succ, List.map_cons, List.map_nil, List.cons_append, List.nil_append, List.length_cons, List.length_nil, List.all_cons, List.all_nil, List.replicate_succ, List.replicate_zero, Bool.and_true, Bool.true_and, Bool.and_self, Bool.not_true, Bool.not_false, and_self, and_true, true_and, if_true, if_false, reduceIte, reduceCtorEq, decide_true, decide_false, Bool.false_eq_true, Nat.reduceAdd, Nat.reduceEqDiff, d_law, b_law, e0, ne_eq, not_true_eq_false, r1, r2, e, f1, f2, f3]
end Dn

set_option maxHeartbeats 0
namespace Dn
open PySem PySem.Spec PyProof.Rows L2
theorem all_mk {l : PySem.W.OpenLaw} {w : World} {K : Frg} {h : Heap} {mg : Str → Option Value} {fa : Addr} (X : K.In h) (G : h.Ns mainGlobals mg) (hfa : mg "law" = some (.ref fa))
    {f1 : Addr} {od1 an1 : Option Addr} {sl1 : Array (Option Value)} {oc1 kV1 dc1 pm1 cd1 ct1 : Value}
    {f2 : Addr} {od2 an2 : Option Addr} {sl2 : Array (Option Value)} {oc2 kV2 dc2 pm2 cd2 ct2 : Value}
    {f3 : Addr} {od3 an3 : Option Addr} {sl3 : Array (Option Value)} {oc3 kV3 dc3 pm3 cd3 ct3 : Value}
    {f4 : Addr} {od4 an4 : Option Addr} {sl4 : Array (Option Value)} {oc4 kV4 dc4 pm4 cd4 ct4 : Value}
    {f5 : Addr} {od5 an5 : Option Addr} {sl5 : Array (Option Value)} {oc5 kV5 dc5 pm5 cd5 ct5 : Value}
    {f6 : Addr} {od6 an6 : Option Addr} {sl6 : Array (Option Value)} {oc6 kV6 dc6 pm6 cd6 ct6 : Value}
    {f7 : Addr} {od7 an7 : Option Addr} {sl7 : Array (Option Value)} {oc7 kV7 dc7 pm7 cd7 ct7 : Value}
    {f8 : Addr} {od8 an8 : Option Addr} {sl8 : Array (Option Value)} {oc8 kV8 dc8 pm8 cd8 ct8 : Value}
    {f9 : Addr} {od9 an9 : Option Addr} {sl9 : Array (Option Value)} {oc9 kV9 dc9 pm9 cd9 ct9 : Value}
    {f10 : Addr} {od10 an10 : Option Addr} {sl10 : Array (Option Value)} {oc10 kV10 dc10 pm10 cd10 ct10 : Value}
    {f11 : Addr} {od11 an11 : Option Addr} {sl11 : Array (Option Value)} {oc11 kV11 dc11 pm11 cd11 ct11 : Value}
    {f12 : Addr} {od12 an12 : Option Addr} {sl12 : Array (Option Value)} {oc12 kV12 dc12 pm12 cd12 ct12 : Value}
    {f13 : Addr} {od13 an13 : Option Addr} {sl13 : Array (Option Value)} {oc13 kV13 dc13 pm13 cd13 ct13 : Value}
    {f14 : Addr} {od14 an14 : Option Addr} {sl14 : Array (Option Value)} {oc14 kV14 dc14 pm14 cd14 ct14 : Value}
    {f15 : Addr} {od15 an15 : Option Addr} {sl15 : Array (Option Value)} {oc15 kV15 dc15 pm15 cd15 ct15 : Value}
    {f16 : Addr} {od16 an16 : Option Addr} {sl16 : Array (Option Value)} {oc16 kV16 dc16 pm16 cd16 ct16 : Value}
    {f17 : Addr} {od17 an17 : Option Addr} {sl17 : Array (Option Value)} {oc17 kV17 dc17 pm17 cd17 ct17 : Value}
    {f18 : Addr} {od18 an18 : Option Addr} {sl18 : Array (Option Value)} {oc18 kV18 dc18 pm18 cd18 ct18 : Value}
    {f19 : Addr} {od19 an19 : Option Addr} {sl19 : Array (Option Value)} {oc19 kV19 dc19 pm19 cd19 ct19 : Value}
    {f20 : Addr} {od20 an20 : Option Addr} {sl20 : Array (Option Value)} {oc20 kV20 dc20 pm20 cd20 ct20 : Value}
    {f21 : Addr} {od21 an21 : Option Addr} {sl21 : Array (Option Value)} {oc21 kV21 dc21 pm21 cd21 ct21 : Value}
    {f22 : Addr} {od22 an22 : Option Addr} {sl22 : Array (Option Value)} {oc22 kV22 dc22 pm22 cd22 ct22 : Value}
    {f23 : Addr} {od23 an23 : Option Addr} {sl23 : Array (Option Value)} {oc23 kV23 dc23 pm23 cd23 ct23 : Value}
    {tc0 : Tok}
    (a1 : PySem.W.nsIn K mainGlobals "_law_box" = some (some (.ref f1))) (l1 : K.lookup f1 = some ⟨oc1, od1, .func (PySem.W.fnOf "_law_box" "_law_box" (defArgs s_law_box) (defBody s_law_box) (defScope s_law_box) .none kV1 dc1 pm1 an1 cd1 ct1), sl1⟩) (c1 : PySem.W.codeIn K cd1 "_law_box" = true) (k1 : PySem.W.keepIn K (.ref f1) = true)
    (a2 : PySem.W.nsIn K mainGlobals "_law_same" = some (some (.ref f2))) (l2 : K.lookup f2 = some ⟨oc2, od2, .func (PySem.W.fnOf "_law_same" "_law_same" (defArgs s_law_same) (defBody s_law_same) (defScope s_law_same) .none kV2 dc2 pm2 an2 cd2 ct2), sl2⟩) (c2 : PySem.W.codeIn K cd2 "_law_same" = true) (k2 : PySem.W.keepIn K (.ref f2) = true)
    (a3 : PySem.W.nsIn K mainGlobals "less" = some (some (.ref f3))) (l3 : K.lookup f3 = some ⟨oc3, od3, .func (PySem.W.fnOf "less" "less" (defArgs s_less) (defBody s_less) (defScope s_less) .none kV3 dc3 pm3 an3 cd3 ct3), sl3⟩) (c3 : PySem.W.codeIn K cd3 "less" = true) (k3 : PySem.W.keepIn K (.ref f3) = true)
    (a4 : PySem.W.nsIn K mainGlobals "common_divisor" = some (some (.ref f4))) (l4 : K.lookup f4 = some ⟨oc4, od4, .func (PySem.W.fnOf "common_divisor" "common_divisor" (defArgs s_common_divisor) (defBody s_common_divisor) (defScope s_common_divisor) .none kV4 dc4 pm4 an4 cd4 ct4), sl4⟩) (c4 : PySem.W.codeIn K cd4 "common_divisor" = true) (k4 : PySem.W.keepIn K (.ref f4) = true)
    (a5 : PySem.W.nsIn K mainGlobals "ratio" = some (some (.ref f5))) (l5 : K.lookup f5 = some ⟨oc5, od5, .func (PySem.W.fnOf "ratio" "ratio" (defArgs s_ratio) (defBody s_ratio) (defScope s_ratio) .none kV5 dc5 pm5 an5 cd5 ct5), sl5⟩) (c5 : PySem.W.codeIn K cd5 "ratio" = true) (k5 : PySem.W.keepIn K (.ref f5) = true)
    (a6 : PySem.W.nsIn K mainGlobals "worst_ratio" = some (some (.ref f6))) (l6 : K.lookup f6 = some ⟨oc6, od6, .func (PySem.W.fnOf "worst_ratio" "worst_ratio" (defArgs s_worst_ratio) (defBody s_worst_ratio) (defScope s_worst_ratio) .none kV6 dc6 pm6 an6 cd6 ct6), sl6⟩) (c6 : PySem.W.codeIn K cd6 "worst_ratio" = true) (k6 : PySem.W.keepIn K (.ref f6) = true)
    (a7 : PySem.W.nsIn K mainGlobals "best_day" = some (some (.ref f7))) (l7 : K.lookup f7 = some ⟨oc7, od7, .func (PySem.W.fnOf "best_day" "best_day" (defArgs s_best_day) (defBody s_best_day) (defScope s_best_day) .none kV7 dc7 pm7 an7 cd7 ct7), sl7⟩) (c7 : PySem.W.codeIn K cd7 "best_day" = true) (k7 : PySem.W.keepIn K (.ref f7) = true)
    (a8 : PySem.W.nsIn K mainGlobals "_law_load" = some (some (.ref f8))) (l8 : K.lookup f8 = some ⟨oc8, od8, .func (PySem.W.fnOf "_law_load" "_law_load" (defArgs s_law_load) (defBody s_law_load) (defScope s_law_load) .none kV8 dc8 pm8 an8 cd8 ct8), sl8⟩) (c8 : PySem.W.codeIn K cd8 "_law_load" = true) (k8 : PySem.W.keepIn K (.ref f8) = true)
    (a9 : PySem.W.nsIn K mainGlobals "_law_draw" = some (some (.ref f9))) (l9 : K.lookup f9 = some ⟨oc9, od9, .func (PySem.W.fnOf "_law_draw" "_law_draw" (defArgs s_law_draw) (defBody s_law_draw) (defScope s_law_draw) .none kV9 dc9 pm9 an9 cd9 ct9), sl9⟩) (c9 : PySem.W.codeIn K cd9 "_law_draw" = true) (k9 : PySem.W.keepIn K (.ref f9) = true)
    (a10 : PySem.W.nsIn K mainGlobals "_law_less" = some (some (.ref f10))) (l10 : K.lookup f10 = some ⟨oc10, od10, .func (PySem.W.fnOf "_law_less" "_law_less" (defArgs s_law_less) (defBody s_law_less) (defScope s_law_less) .none kV10 dc10 pm10 an10 cd10 ct10), sl10⟩) (c10 : PySem.W.codeIn K cd10 "_law_less" = true) (k10 : PySem.W.keepIn K (.ref f10) = true)
    (a11 : PySem.W.nsIn K mainGlobals "_law_divisor" = some (some (.ref f11))) (l11 : K.lookup f11 = some ⟨oc11, od11, .func (PySem.W.fnOf "_law_divisor" "_law_divisor" (defArgs s_law_divisor) (defBody s_law_divisor) (defScope s_law_divisor) .none kV11 dc11 pm11 an11 cd11 ct11), sl11⟩) (c11 : PySem.W.codeIn K cd11 "_law_divisor" = true) (k11 : PySem.W.keepIn K (.ref f11) = true)
    (a12 : PySem.W.nsIn K mainGlobals "_law_ratio" = some (some (.ref f12))) (l12 : K.lookup f12 = some ⟨oc12, od12, .func (PySem.W.fnOf "_law_ratio" "_law_ratio" (defArgs s_law_ratio) (defBody s_law_ratio) (defScope s_law_ratio) .none kV12 dc12 pm12 an12 cd12 ct12), sl12⟩) (c12 : PySem.W.codeIn K cd12 "_law_ratio" = true) (k12 : PySem.W.keepIn K (.ref f12) = true)
    (a13 : PySem.W.nsIn K mainGlobals "_law_plus" = some (some (.ref f13))) (l13 : K.lookup f13 = some ⟨oc13, od13, .func (PySem.W.fnOf "_law_plus" "_law_plus" (defArgs s_law_plus) (defBody s_law_plus) (defScope s_law_plus) .none kV13 dc13 pm13 an13 cd13 ct13), sl13⟩) (c13 : PySem.W.codeIn K cd13 "_law_plus" = true) (k13 : PySem.W.keepIn K (.ref f13) = true)
    (a14 : PySem.W.nsIn K mainGlobals "_law_paid" = some (some (.ref f14))) (l14 : K.lookup f14 = some ⟨oc14, od14, .func (PySem.W.fnOf "_law_paid" "_law_paid" (defArgs s_law_paid) (defBody s_law_paid) (defScope s_law_paid) .none kV14 dc14 pm14 an14 cd14 ct14), sl14⟩) (c14 : PySem.W.codeIn K cd14 "_law_paid" = true) (k14 : PySem.W.keepIn K (.ref f14) = true)
    (a15 : PySem.W.nsIn K mainGlobals "_law_times" = some (some (.ref f15))) (l15 : K.lookup f15 = some ⟨oc15, od15, .func (PySem.W.fnOf "_law_times" "_law_times" (defArgs s_law_times) (defBody s_law_times) (defScope s_law_times) .none kV15 dc15 pm15 an15 cd15 ct15), sl15⟩) (c15 : PySem.W.codeIn K cd15 "_law_times" = true) (k15 : PySem.W.keepIn K (.ref f15) = true)
    (a16 : PySem.W.nsIn K mainGlobals "cost_hired" = some (some (.ref f16))) (l16 : K.lookup f16 = some ⟨oc16, od16, .func (PySem.W.fnOf "cost_hired" "cost_hired" (defArgs s_cost_hired) (defBody s_cost_hired) (defScope s_cost_hired) .none kV16 dc16 pm16 an16 cd16 ct16), sl16⟩) (c16 : PySem.W.codeIn K cd16 "cost_hired" = true) (k16 : PySem.W.keepIn K (.ref f16) = true)
    (a17 : PySem.W.nsIn K mainGlobals "average_cost" = some (some (.ref f17))) (l17 : K.lookup f17 = some ⟨oc17, od17, .func (PySem.W.fnOf "average_cost" "average_cost" (defArgs s_average_cost) (defBody s_average_cost) (defScope s_average_cost) .none kV17 dc17 pm17 an17 cd17 ct17), sl17⟩) (c17 : PySem.W.codeIn K cd17 "average_cost" = true) (k17 : PySem.W.keepIn K (.ref f17) = true)
    (a18 : PySem.W.nsIn K mainGlobals "best_on_average" = some (some (.ref f18))) (l18 : K.lookup f18 = some ⟨oc18, od18, .func (PySem.W.fnOf "best_on_average" "best_on_average" (defArgs s_best_on_average) (defBody s_best_on_average) (defScope s_best_on_average) .none kV18 dc18 pm18 an18 cd18 ct18), sl18⟩) (c18 : PySem.W.codeIn K cd18 "best_on_average" = true) (k18 : PySem.W.keepIn K (.ref f18) = true)
    (a19 : PySem.W.nsIn K mainGlobals "best_known" = some (some (.ref f19))) (l19 : K.lookup f19 = some ⟨oc19, od19, .func (PySem.W.fnOf "best_known" "best_known" (defArgs s_best_known) (defBody s_best_known) (defScope s_best_known) .none kV19 dc19 pm19 an19 cd19 ct19), sl19⟩) (c19 : PySem.W.codeIn K cd19 "best_known" = true) (k19 : PySem.W.keepIn K (.ref f19) = true)
    (a20 : PySem.W.nsIn K mainGlobals "beats" = some (some (.ref f20))) (l20 : K.lookup f20 = some ⟨oc20, od20, .func (PySem.W.fnOf "beats" "beats" (defArgs s_beats) (defBody s_beats) (defScope s_beats) .none kV20 dc20 pm20 an20 cd20 ct20), sl20⟩) (c20 : PySem.W.codeIn K cd20 "beats" = true) (k20 : PySem.W.keepIn K (.ref f20) = true)
    (a21 : PySem.W.nsIn K mainGlobals "never_ratio" = some (some (.ref f21))) (l21 : K.lookup f21 = some ⟨oc21, od21, .func (PySem.W.fnOf "never_ratio" "never_ratio" (defArgs s_never_ratio) (defBody s_never_ratio) (defScope s_never_ratio) .none kV21 dc21 pm21 an21 cd21 ct21), sl21⟩) (c21 : PySem.W.codeIn K cd21 "never_ratio" = true) (k21 : PySem.W.keepIn K (.ref f21) = true)
    (a22 : PySem.W.nsIn K mainGlobals "adversary" = some (some (.ref f22))) (l22 : K.lookup f22 = some ⟨oc22, od22, .func (PySem.W.fnOf "adversary" "adversary" (defArgs s_adversary) (defBody s_adversary) (defScope s_adversary) .none kV22 dc22 pm22 an22 cd22 ct22), sl22⟩) (c22 : PySem.W.codeIn K cd22 "adversary" = true) (k22 : PySem.W.keepIn K (.ref f22) = true)
    (a23 : PySem.W.nsIn K mainGlobals "law" = some (some (.ref f23))) (l23 : K.lookup f23 = some ⟨oc23, od23, .func (PySem.W.fnOf "law" "law" (defArgs s_law) (defBody s_law) (defScope s_law) .none kV23 dc23 pm23 an23 cd23 ct23), sl23⟩) (c23 : PySem.W.codeIn K cd23 "law" = true) (k23 : PySem.W.keepIn K (.ref f23) = true)
    (z0 : PySem.W.nsIn K mainGlobals "abs" = some none)
    (z1 : PySem.W.nsIn K mainGlobals "all" = some none)
    (z2 : PySem.W.nsIn K mainGlobals "bool" = some none)
    (z3 : PySem.W.nsIn K mainGlobals "enumerate" = some none)
    (z4 : PySem.W.nsIn K mainGlobals "int" = some none)
    (z5 : PySem.W.nsIn K mainGlobals "isinstance" = some none)
    (z6 : PySem.W.nsIn K mainGlobals "len" = some none)
    (z7 : PySem.W.nsIn K mainGlobals "list" = some none)
    (z8 : PySem.W.nsIn K mainGlobals "min" = some none)
    (z9 : PySem.W.nsIn K mainGlobals "range" = some none)
    (z10 : PySem.W.nsIn K mainGlobals "str" = some none)
    (z11 : PySem.W.nsIn K mainGlobals "tuple" = some none)
    (y0 : PySem.W.nsIn K mainGlobals "MAX_HIRED" = some (some (.int 1000 tc0))) :
    ∃ fd : FuncData, (∀ (s : Shared) (v : Value), BindsTo s fd ⟨[v], []⟩ [("script", v)]) ∧ ∀ base : Heap, K.In base → base.Ns mainGlobals mg → FnOk l.prog w K mg base CX0 9 fa fd ["script"] (spD K d_law) := by
  have e := hfa.symm.trans (PySem.W.mg_of X G a23)
  cases e
  have T : Tx mg := ⟨PySem.W.mg_none_of X G z0, PySem.W.mg_none_of X G z1, PySem.W.mg_none_of X G z2, PySem.W.mg_none_of X G z3, PySem.W.mg_none_of X G z4, PySem.W.mg_none_of X G z5, PySem.W.mg_none_of X G z6, PySem.W.mg_none_of X G z7, PySem.W.mg_none_of X G z8, PySem.W.mg_none_of X G z9, PySem.W.mg_none_of X G z10, PySem.W.mg_none_of X G z11, ⟨_, PySem.W.mg_of X G y0⟩⟩
  have F1 := fun_mk (st := s_law_box) l1 c1 k1
  have b1 := F1.binds (ps := ["script"]) fun _ _ _ _ _ _ us hl => match us, hl with | [_], _ => rfl
  have F2 := fun_mk (st := s_law_same) l2 c2 k2
  have b2 := F2.binds (ps := ["a", "b"]) fun _ _ _ _ _ _ us hl => match us, hl with | [_, _], _ => rfl
  have F3 := fun_mk (st := s_less) l3 c3 k3
  have b3 := F3.binds (ps := ["one", "other"]) fun _ _ _ _ _ _ us hl => match us, hl with | [_, _], _ => rfl
  have F4 := fun_mk (st := s_common_divisor) l4 c4 k4
  have b4 := F4.binds (ps := ["a", "b"]) fun _ _ _ _ _ _ us hl => match us, hl with | [_, _], _ => rfl
  have F5 := fun_mk (st := s_ratio) l5 c5 k5
  have b5 := F5.binds (ps := ["p", "q"]) fun _ _ _ _ _ _ us hl => match us, hl with | [_, _], _ => rfl
  have F6 := fun_mk (st := s_worst_ratio) l6 c6 k6
  have b6 := F6.binds (ps := ["price", "day"]) fun _ _ _ _ _ _ us hl => match us, hl with | [_, _], _ => rfl
  have F7 := fun_mk (st := s_best_day) l7 c7 k7
  have b7 := F7.binds (ps := ["price"]) fun _ _ _ _ _ _ us hl => match us, hl with | [_], _ => rfl
  have F8 := fun_mk (st := s_law_load) l8 c8 k8
  have b8 := F8.binds (ps := ["box"]) fun _ _ _ _ _ _ us hl => match us, hl with | [_], _ => rfl
  have F9 := fun_mk (st := s_law_draw) l9 c9 k9
  have b9 := F9.binds (ps := ["box", "many"]) fun _ _ _ _ _ _ us hl => match us, hl with | [_, _], _ => rfl
  have F10 := fun_mk (st := s_law_less) l10 c10 k10
  have b10 := F10.binds (ps := ["one", "other"]) fun _ _ _ _ _ _ us hl => match us, hl with | [_, _], _ => rfl
  have F11 := fun_mk (st := s_law_divisor) l11 c11 k11
  have b11 := F11.binds (ps := ["a", "b"]) fun _ _ _ _ _ _ us hl => match us, hl with | [_, _], _ => rfl
  have F12 := fun_mk (st := s_law_ratio) l12 c12 k12
  have b12 := F12.binds (ps := ["p", "q"]) fun _ _ _ _ _ _ us hl => match us, hl with | [_, _], _ => rfl
  have F13 := fun_mk (st := s_law_plus) l13 c13 k13
  have b13 := F13.binds (ps := ["one", "other"]) fun _ _ _ _ _ _ us hl => match us, hl with | [_, _], _ => rfl
  have F14 := fun_mk (st := s_law_paid) l14 c14 k14
  have b14 := F14.binds (ps := ["price", "day", "needed"]) fun _ _ _ _ _ _ us hl => match us, hl with | [_, _, _], _ => rfl
  have F15 := fun_mk (st := s_law_times) l15 c15 k15
  have b15 := F15.binds (ps := ["one", "other"]) fun _ _ _ _ _ _ us hl => match us, hl with | [_, _], _ => rfl
  have F16 := fun_mk (st := s_cost_hired) l16 c16 k16
  have b16 := F16.binds (ps := ["price", "day", "needed"]) fun _ _ _ _ _ _ us hl => match us, hl with | [_, _, _], _ => rfl
  have F17 := fun_mk (st := s_average_cost) l17 c17 k17
  have b17 := F17.binds (ps := ["price", "day", "chances"]) fun _ _ _ _ _ _ us hl => match us, hl with | [_, _, _], _ => rfl
  have F18 := fun_mk (st := s_best_on_average) l18 c18 k18
  have b18 := F18.binds (ps := ["price", "chances"]) fun _ _ _ _ _ _ us hl => match us, hl with | [_, _], _ => rfl
  have F19 := fun_mk (st := s_best_known) l19 c19 k19
  have b19 := F19.binds (ps := ["price", "needed"]) fun _ _ _ _ _ _ us hl => match us, hl with | [_, _], _ => rfl
  have F20 := fun_mk (st := s_beats) l20 c20 k20
  have b20 := F20.binds (ps := ["price", "one", "other"]) fun _ _ _ _ _ _ us hl => match us, hl with | [_, _, _], _ => rfl
  have F21 := fun_mk (st := s_never_ratio) l21 c21 k21
  have b21 := F21.binds (ps := ["price", "needed"]) fun _ _ _ _ _ _ us hl => match us, hl with | [_, _], _ => rfl
  have F22 := fun_mk (st := s_adversary) l22 c22 k22
  have b22 := F22.binds (ps := ["price", "day"]) fun _ _ _ _ _ _ us hl => match us, hl with | [_, _], _ => rfl
  have F23 := fun_mk (st := s_law) l23 c23 k23
  refine ⟨PySem.W.fnOf "law" "law" (defArgs s_law) (defBody s_law) (defScope s_law) .none kV23 dc23 pm23 an23 cd23 ct23, fun s v => .of_eq rfl, fun base _ _ => ?_⟩
  have D_law_box : Def l.prog w K mg base 1 "_law_box" d_law_box := ⟨f1, _, ["script"], ok_law_box T F1 , PySem.W.mg_of X G a1, F1.kp, b1⟩
  have D_law_same : Def l.prog w K mg base 8 "_law_same" (d_law_same 8) := ⟨f2, _, ["a", "b"], (ok_law_same T F2 (PySem.W.mg_of X G a2) b2  8).mono (by decide), PySem.W.mg_of X G a2, F2.kp, b2⟩
  have D_less : Def l.prog w K mg base 1 "less" d_less := ⟨f3, _, ["one", "other"], ok_less T F3 , PySem.W.mg_of X G a3, F3.kp, b3⟩
  have D_common_divisor : Def l.prog w K mg base 1 "common_divisor" d_common_divisor := ⟨f4, _, ["a", "b"], ok_common_divisor T F4 , PySem.W.mg_of X G a4, F4.kp, b4⟩
  have D_ratio : Def l.prog w K mg base 2 "ratio" d_ratio := ⟨f5, _, ["p", "q"], ok_ratio T F5 D_common_divisor, PySem.W.mg_of X G a5, F5.kp, b5⟩
  have D_worst_ratio : Def l.prog w K mg base 3 "worst_ratio" d_worst_ratio := ⟨f6, _, ["price", "day"], ok_worst_ratio T F6 D_ratio, PySem.W.mg_of X G a6, F6.kp, b6⟩
  have D_best_day : Def l.prog w K mg base 4 "best_day" d_best_day := ⟨f7, _, ["price"], ok_best_day T F7 D_less D_worst_ratio, PySem.W.mg_of X G a7, F7.kp, b7⟩
  have D_law_load : Def l.prog w K mg base 1 "_law_load" d_law_load := ⟨f8, _, ["box"], ok_law_load T F8 , PySem.W.mg_of X G a8, F8.kp, b8⟩
  have D_law_draw : Def l.prog w K mg base 2 "_law_draw" d_law_draw := ⟨f9, _, ["box", "many"], ok_law_draw T F9 D_law_load, PySem.W.mg_of X G a9, F9.kp, b9⟩
  have D_law_less : Def l.prog w K mg base 1 "_law_less" d_law_less := ⟨f10, _, ["one", "other"], ok_law_less T F10 , PySem.W.mg_of X G a10, F10.kp, b10⟩
  have D_law_divisor : Def l.prog w K mg base 1 "_law_divisor" d_law_divisor := ⟨f11, _, ["a", "b"], ok_law_divisor T F11 , PySem.W.mg_of X G a11, F11.kp, b11⟩
  have D_law_ratio : Def l.prog w K mg base 2 "_law_ratio" d_law_ratio := ⟨f12, _, ["p", "q"], ok_law_ratio T F12 D_law_divisor, PySem.W.mg_of X G a12, F12.kp, b12⟩
  have D_law_plus : Def l.prog w K mg base 3 "_law_plus" d_law_plus := ⟨f13, _, ["one", "other"], ok_law_plus T F13 D_law_ratio, PySem.W.mg_of X G a13, F13.kp, b13⟩
  have D_law_paid : Def l.prog w K mg base 1 "_law_paid" d_law_paid := ⟨f14, _, ["price", "day", "needed"], ok_law_paid T F14 , PySem.W.mg_of X G a14, F14.kp, b14⟩
  have D_law_times : Def l.prog w K mg base 3 "_law_times" d_law_times := ⟨f15, _, ["one", "other"], ok_law_times T F15 D_law_ratio, PySem.W.mg_of X G a15, F15.kp, b15⟩
  have D_cost_hired : Def l.prog w K mg base 1 "cost_hired" d_cost_hired := ⟨f16, _, ["price", "day", "needed"], ok_cost_hired T F16 , PySem.W.mg_of X G a16, F16.kp, b16⟩
  have D_average_cost : Def l.prog w K mg base 3 "average_cost" d_average_cost := ⟨f17, _, ["price", "day", "chances"], ok_average_cost T F17 D_ratio D_cost_hired, PySem.W.mg_of X G a17, F17.kp, b17⟩
  have D_best_on_average : Def l.prog w K mg base 4 "best_on_average" d_best_on_average := ⟨f18, _, ["price", "chances"], ok_best_on_average T F18 D_less D_average_cost, PySem.W.mg_of X G a18, F18.kp, b18⟩
  have D_best_known : Def l.prog w K mg base 1 "best_known" d_best_known := ⟨f19, _, ["price", "needed"], ok_best_known T F19 , PySem.W.mg_of X G a19, F19.kp, b19⟩
  have D_beats : Def l.prog w K mg base 4 "beats" d_beats := ⟨f20, _, ["price", "one", "other"], ok_beats T F20 D_less D_worst_ratio, PySem.W.mg_of X G a20, F20.kp, b20⟩
  have D_never_ratio : Def l.prog w K mg base 3 "never_ratio" d_never_ratio := ⟨f21, _, ["price", "needed"], ok_never_ratio T F21 D_ratio D_best_known, PySem.W.mg_of X G a21, F21.kp, b21⟩
  have D_adversary : Def l.prog w K mg base 1 "adversary" d_adversary := ⟨f22, _, ["price", "day"], ok_adversary T F22 , PySem.W.mg_of X G a22, F22.kp, b22⟩
  exact ok_law T F23 D_law_box D_law_same D_best_day D_law_draw D_law_less D_law_ratio D_law_plus D_worst_ratio D_law_paid D_law_times D_best_on_average D_cost_hired D_best_known D_beats D_never_ratio D_average_cost D_adversary
theorem law_sp {K : Frg} {H : Hp} {a : Addr} {ns : List Int} (hl : ns.length ≤ 63) (h : SqL K H a (ns.map V.int)) : spD K d_law [.ref a] H (fun v _ => v = .bl true) fun _ _ _ => False := by
  obtain ⟨B', e⟩ := law_den ns hl
  refine ⟨H, none, ⟨[], [], false⟩, [.scr ns], .dat (.bool true), B', Ext.refl H, ⟨fun p z => (nomatch z), rfl⟩, .cons ⟨a, rfl, h⟩ .nil, e, fun v H' F' b' _ _ _ q => ?_⟩
  cases (show Rp K F' v (.bool true) from q)
  rfl
end Dn
open PySem PySem.W PyProof.Rows
set_option maxHeartbeats 0 in
theorem PySem.Challenge.cw_pantrykept_k91_whole_freezers_holds : PySem.Challenge.rw_pantrykept_k91_whole_freezers.Holds := by
  w_on; o_law; k_head; (case hw => w_witness2)
  k_fill
  refine L2.walk_of (l := PySem.Challenge.rw_pantrykept_k91_whole_freezers) (n := 63) (k := 9) (x := "script") (CX := fun _ => L2.CX0) (sp := fun w => Dn.spD _ Dn.d_law) rfl (by decide) rfl ⟨rfl, by decide, by decide⟩ (fun w h Y => PySem.W.kIn_of Y) ?F (fun _ _ a ns hl _ hS => Dn.law_sp hl hS) (fun _ _ _ _ _ h => h)
  case F =>
    intro w mg fa h KX G hmg
    refine' Dn.all_mk KX G hmg ?a1 ?l1 ?c1 ?k1 ?a2 ?l2 ?c2 ?k2 ?a3 ?l3 ?c3 ?k3 ?a4 ?l4 ?c4 ?k4 ?a5 ?l5 ?c5 ?k5 ?a6 ?l6 ?c6 ?k6 ?a7 ?l7 ?c7 ?k7 ?a8 ?l8 ?c8 ?k8 ?a9 ?l9 ?c9 ?k9 ?a10 ?l10 ?c10 ?k10 ?a11 ?l11 ?c11 ?k11 ?a12 ?l12 ?c12 ?k12 ?a13 ?l13 ?c13 ?k13 ?a14 ?l14 ?c14 ?k14 ?a15 ?l15 ?c15 ?k15 ?a16 ?l16 ?c16 ?k16 ?a17 ?l17 ?c17 ?k17 ?a18 ?l18 ?c18 ?k18 ?a19 ?l19 ?c19 ?k19 ?a20 ?l20 ?c20 ?k20 ?a21 ?l21 ?c21 ?k21 ?a22 ?l22 ?c22 ?k22 ?a23 ?l23 ?c23 ?k23 ?z0 ?z1 ?z2 ?z3 ?z4 ?z5 ?z6 ?z7 ?z8 ?z9 ?z10 ?z11 ?y0
    (case a1 => k_is); (case l1 => k_is); (case c1 => k_is); (case k1 => k_is); (case a2 => k_is); (case l2 => k_is); (case c2 => k_is); (case k2 => k_is); (case a3 => k_is); (case l3 => k_is); (case c3 => k_is); (case k3 => k_is); (case a4 => k_is); (case l4 => k_is); (case c4 => k_is); (case k4 => k_is); (case a5 => k_is); (case l5 => k_is); (case c5 => k_is); (case k5 => k_is); (case a6 => k_is); (case l6 => k_is); (case c6 => k_is); (case k6 => k_is); (case a7 => k_is); (case l7 => k_is); (case c7 => k_is); (case k7 => k_is); (case a8 => k_is); (case l8 => k_is); (case c8 => k_is); (case k8 => k_is); (case a9 => k_is); (case l9 => k_is); (case c9 => k_is); (case k9 => k_is); (case a10 => k_is); (case l10 => k_is); (case c10 => k_is); (case k10 => k_is); (case a11 => k_is); (case l11 => k_is); (case c11 => k_is); (case k11 => k_is); (case a12 => k_is); (case l12 => k_is); (case c12 => k_is); (case k12 => k_is); (case a13 => k_is); (case l13 => k_is); (case c13 => k_is); (case k13 => k_is); (case a14 => k_is); (case l14 => k_is); (case c14 => k_is); (case k14 => k_is); (case a15 => k_is); (case l15 => k_is); (case c15 => k_is); (case k15 => k_is); (case a16 => k_is); (case l16 => k_is); (case c16 => k_is); (case k16 => k_is); (case a17 => k_is); (case l17 => k_is); (case c17 => k_is); (case k17 => k_is); (case a18 => k_is); (case l18 => k_is); (case c18 => k_is); (case k18 => k_is); (case a19 => k_is); (case l19 => k_is); (case c19 => k_is); (case k19 => k_is); (case a20 => k_is); (case l20 => k_is); (case c20 => k_is); (case k20 => k_is); (case a21 => k_is); (case l21 => k_is); (case c21 => k_is); (case k21 => k_is); (case a22 => k_is); (case l22 => k_is); (case c22 => k_is); (case k22 => k_is); (case a23 => k_is); (case l23 => k_is); (case c23 => k_is); (case k23 => k_is); (case z0 => k_is); (case z1 => k_is); (case z2 => k_is); (case z3 => k_is); (case z4 => k_is); (case z5 => k_is); (case z6 => k_is); (case z7 => k_is); (case z8 => k_is); (case z9 => k_is); (case z10 => k_is); (case z11 => k_is); (case y0 => k_is)

