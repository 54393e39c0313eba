import PyProof.Rows.All
import Wide.All
import OpenK.AllK
import Wide.FinOn
import HandS.ForMost
import HandS.IsInst
import HandS.Wide
import HandS.Style
import HandS.Deep
import HandS.TupAny
import KE.GoesNew
import KE.DataCmp
import KE.DataMinMax
import KE.SortData
import PyProof.P3In
import HandS.SortKw
import KE.KRevSl
import HandS.Conv
import HandS.SetFor
import HandS.Strs
import KE.KTupSum
import PySem.Challenge.RW_pantrykept_k87_whole_trays_in_order
set_option Elab.async false
set_option linter.all false
set_option autoImplicit false
set_option maxRecDepth 100000
set_option maxHeartbeats 1000000
/-! Functional denotations over the hand layer: values are data, a def's own lists live in its slots, the law's draws are a state. -/
namespace Dn
open PySem PySem.Spec PyProof.Rows L2

abbrev Frg := PySem.W.Frag
/-- what a slot holds, what an expression gives -/
inductive Sv where
  | dat (d : PyData)
  | own (xs : List PyData)
  | box | cells
  | scr (ns : List Int)
abbrev Sl := List (Option Sv)
/-- the state that the law draws from -/
structure Bx where
  cells : List Int
  regs : List Int
  on : Bool
abbrev Bad := Option (Addr × Addr)

mutual
inductive Rp (K : Frg) (F : Hp) : V → PyData → Prop
  | non : Rp K F .non .none
  | bl (b : Bool) : Rp K F (.bl b) (.bool b)
  | int (i : Int) : Rp K F (.int i) (.int i)
  | str (x : Str) : Rp K F (.str x) (.str x)
  | lst {a : Addr} {xs : List V} {ds : List PyData} : F a = some (.lst xs) → Rps K F xs ds → Rp K F (.ref a) (.list ds)
  | tup {a : Addr} {xs : List V} {ds : List PyData} : SqT K F a xs → Rps K F xs ds → Rp K F (.ref a) (.tuple ds)
inductive Rps (K : Frg) (F : Hp) : List V → List PyData → Prop
  | nil : Rps K F [] []
  | cons {v : V} {vs : List V} {d : PyData} {ds : List PyData} : Rp K F v d → Rps K F vs ds → Rps K F (v :: vs) (d :: ds)
end

def Ext (H H' : Hp) : Prop := ∀ a o, H a = some o → H' a = some o
theorem Ext.refl (H : Hp) : Ext H H := fun _ _ h => h
theorem Ext.trans {H H1 H2 : Hp} (a : Ext H H1) (b : Ext H1 H2) : Ext H H2 := fun x o h => b x o (a x o h)
theorem Ext.new {H : Hp} {p : Addr} {o : HO} (h : H p = none) : Ext H (upd H p o) := fun a u e => by
  rw [upd_ne (ne_of_none e h)]
  exact e
theorem Ext.rd {H H' : Hp} {a : Addr} {u : HO} (e : Ext H H') (h : Rd H a u) : Rd H' a u := by
  rcases h with h | ⟨o, h⟩
  · exact Or.inl (e a _ h)
  · exact Or.inr ⟨o, e a _ h⟩
theorem Ext.sqL {K : Frg} {H H' : Hp} {a : Addr} {xs : List V} (e : Ext H H') (h : SqL K H a xs) : SqL K H' a xs := h.imp (fun z => e.rd z) id
theorem Ext.sqT {K : Frg} {H H' : Hp} {a : Addr} {xs : List V} (e : Ext H H') (h : SqT K H a xs) : SqT K H' a xs := h.imp (fun z => e.rd z) id

mutual
theorem Rp.mono {K : Frg} {F F' : Hp} (e : Ext F F') : ∀ {d : PyData} {v : V}, Rp K F v d → Rp K F' v d
  | .none, _, h => by cases h; exact .non
  | .bool b, _, h => by cases h; exact .bl b
  | .int b, _, h => by cases h; exact .int b
  | .str b, _, h => by cases h; exact .str b
  | .list ds, _, h => by
    cases h with
    | lst h1 h2 => exact .lst (e _ _ h1) (Rps.mono e h2)
  | .tuple ds, _, h => by
    cases h with
    | tup h1 h2 => exact .tup (e.sqT h1) (Rps.mono e h2)
  | .dict _, _, h => by cases h
theorem Rps.mono {K : Frg} {F F' : Hp} (e : Ext F F') : ∀ {ds : List PyData} {vs : List V}, Rps K F vs ds → Rps K F' vs ds
  | [], _, h => by cases h; exact .nil
  | d :: ds, _, h => by
    cases h with
    | cons h1 h2 => exact .cons (Rp.mono e h1) (Rps.mono e h2)
end
mutual
theorem Rp.dp {K : Frg} {F : Hp} : ∀ {d : PyData} {v : V}, Rp K F v d → Dp K F v d
  | .none, _, h => by cases h; exact .non
  | .bool b, _, h => by cases h; exact .bl b
  | .int b, _, h => by cases h; exact .int b
  | .str b, _, h => by cases h; exact .str b
  | .list ds, _, h => by
    cases h with
    | lst h1 h2 => exact .lst (SqL.of h1) (Rps.dp h2)
  | .tuple ds, _, h => by
    cases h with
    | tup h1 h2 => exact .tup h1 (Rps.dp h2)
  | .dict _, _, h => by cases h
theorem Rps.dp {K : Frg} {F : Hp} : ∀ {ds : List PyData} {vs : List V}, Rps K F vs ds → DpAll K F vs ds
  | [], _, h => by cases h; exact .nil
  | d :: ds, _, h => by
    cases h with
    | cons h1 h2 => exact .cons (Rp.dp h1) (Rps.dp h2)
end
section
variable {K : Frg} {F : Hp}
theorem Rps.length : ∀ {vs : List V} {ds : List PyData}, Rps K F vs ds → vs.length = ds.length
  | [], [], _ => rfl
  | _ :: _, _ :: _, h => by
    cases h with
    | cons _ h2 => rw [List.length_cons, List.length_cons, Rps.length h2]
  | [], _ :: _, h => by cases h
  | _ :: _, [], h => by cases h
theorem Rps.get : ∀ {vs : List V} {ds : List PyData} {i : Nat} {d : PyData}, Rps K F vs ds → ds[i]? = some d → ∃ v, vs[i]? = some v ∧ Rp K F v d
  | _ :: _, _ :: _, 0, _, h, e => by
    cases h with
    | cons h1 _ =>
      cases e
      exact ⟨_, rfl, h1⟩
  | _ :: _, _ :: _, i + 1, _, h, e => by
    cases h with
    | cons _ h2 => exact Rps.get (i := i) h2 e
  | [], [], _, _, _, e => by cases e
  | [], _ :: _, _, _, h, _ => by cases h
  | _ :: _, [], _, _, h, _ => by cases h
theorem Rps.get' : ∀ {vs : List V} {ds : List PyData} {i : Nat} {v : V}, Rps K F vs ds → vs[i]? = some v → ∃ d, ds[i]? = some d ∧ Rp K F v d
  | _ :: _, _ :: _, 0, _, h, e => by
    cases h with
    | cons h1 _ =>
      cases e
      exact ⟨_, rfl, h1⟩
  | _ :: _, _ :: _, i + 1, _, h, e => by
    cases h with
    | cons _ h2 => exact Rps.get' (i := i) h2 e
  | [], [], _, _, _, e => by cases e
  | [], _ :: _, _, _, h, _ => by cases h
  | _ :: _, [], _, _, h, _ => by cases h
theorem Rps.append : ∀ {vs us : List V} {ds es : List PyData}, Rps K F vs ds → Rps K F us es → Rps K F (vs ++ us) (ds ++ es)
  | [], _, [], _, _, h => h
  | _ :: _, _, _ :: _, _, h, h' => by
    cases h with
    | cons h1 h2 => exact .cons h1 (Rps.append h2 h')
  | [], _, _ :: _, _, h, _ => by cases h
  | _ :: _, _, [], _, h, _ => by cases h
theorem Rps.drop : ∀ (n : Nat) {vs : List V} {ds : List PyData}, Rps K F vs ds → Rps K F (vs.drop n) (ds.drop n)
  | 0, _, _, h => h
  | _ + 1, [], [], _ => .nil
  | n + 1, _ :: _, _ :: _, h => by
    cases h with
    | cons _ h2 => exact Rps.drop n h2
  | _ + 1, [], _ :: _, h => by cases h
  | _ + 1, _ :: _, [], h => by cases h
theorem Rps.take : ∀ (n : Nat) {vs : List V} {ds : List PyData}, Rps K F vs ds → Rps K F (vs.take n) (ds.take n)
  | 0, _, _, _ => .nil
  | _ + 1, [], [], _ => .nil
  | n + 1, _ :: _, _ :: _, h => by
    cases h with
    | cons h1 h2 => exact .cons h1 (Rps.take n h2)
  | _ + 1, [], _ :: _, h => by cases h
  | _ + 1, _ :: _, [], h => by cases h
theorem Rps.one {v : V} {d : PyData} (h : Rp K F v d) : Rps K F [v] [d] := .cons h .nil
theorem Rps.set {v : V} {d : PyData} (h : Rp K F v d) : ∀ (n : Nat) {vs : List V} {ds : List PyData}, Rps K F vs ds → Rps K F (vs.set n v) (ds.set n d)
  | _, [], [], _ => .nil
  | 0, _ :: _, _ :: _, h' => by
    cases h' with
    | cons _ h2 => exact .cons h h2
  | n + 1, _ :: _, _ :: _, h' => by
    cases h' with
    | cons h1 h2 => exact .cons h1 (Rps.set h n h2)
  | _, [], _ :: _, h => by cases h
  | _, _ :: _, [], h => by cases h
theorem Rps.reverse : ∀ {vs : List V} {ds : List PyData}, Rps K F vs ds → Rps K F vs.reverse ds.reverse
  | [], [], _ => .nil
  | v :: vs, d :: ds, h => by
    cases h with
    | cons h1 h2 =>
      rw [List.reverse_cons, List.reverse_cons]
      exact Rps.append (Rps.reverse h2) (.one h1)
  | [], _ :: _, h => by cases h
  | _ :: _, [], h => by cases h
theorem Rps.erase : ∀ (n : Nat) {vs : List V} {ds : List PyData}, Rps K F vs ds → Rps K F (vs.eraseIdx n) (ds.eraseIdx n)
  | _, [], [], _ => .nil
  | 0, _ :: _, _ :: _, h' => by
    cases h' with
    | cons _ h2 => exact h2
  | n + 1, _ :: _, _ :: _, h' => by
    cases h' with
    | cons h1 h2 => exact .cons h1 (Rps.erase n h2)
  | _, [], _ :: _, h => by cases h
  | _, _ :: _, [], h => by cases h
theorem Rps.ints : ∀ {vs : List V} {ns : List Int}, Rps K F vs (ns.map PyData.int) → vs = ns.map V.int
  | [], [], _ => rfl
  | v :: vs, n :: ns, h => by
    cases h with
    | cons h1 h2 =>
      cases h1
      rw [Rps.ints h2]
      rfl
  | [], _ :: _, h => by cases h
  | _ :: _, [], h => by cases h
theorem Rps.of_ints : ∀ (ns : List Int), Rps K F (ns.map V.int) (ns.map PyData.int)
  | [] => .nil
  | n :: ns => .cons (.int n) (Rps.of_ints ns)
theorem Rps.bls : ∀ {vs : List V} {ns : List Bool}, Rps K F vs (ns.map PyData.bool) → vs = ns.map V.bl
  | [], [], _ => rfl
  | v :: vs, n :: ns, h => by
    cases h with
    | cons h1 h2 =>
      cases h1
      rw [Rps.bls h2]
      rfl
  | [], _ :: _, h => by cases h
  | _ :: _, [], h => by cases h
end

/-! ### the state's relation -/
structure Fx where
  H0 : Hp
  F0 : Hp
  b0 : Bad
def inb (b : Bad) (a : Addr) : Prop := ∃ p, b = some p ∧ (a = p.1 ∨ a = p.2)
def SvR (K : Frg) (F H : Hp) (b : Bad) (v : V) : Sv → Prop
  | .dat d => Rp K F v d
  | .own xs => ∃ a vs, v = .ref a ∧ H a = some (.lst vs) ∧ Rps K F vs xs ∧ F a = none ∧ ¬ inb b a
  | .box => ∃ p, b = some p ∧ v = .ref p.1
  | .cells => ∃ p, b = some p ∧ v = .ref p.2
  | .scr ns => ∃ a, v = .ref a ∧ SqL K F a (ns.map V.int)
structure BxR (F H : Hp) (b : Bad) (B : Bx) : Prop where
  at_ : ∀ p, b = some p → H p.1 = some (.lst (.ref p.2 :: B.regs.map V.int)) ∧ H p.2 = some (.lst (B.cells.map V.int)) ∧ F p.1 = none ∧ F p.2 = none ∧ p.1 ≠ p.2
  liv : b.isSome = B.on
structure Rel (K : Frg) (C : Fx) (sl : Sl) (B : Bx) (F : Hp) (b : Bad) (σ : L2.St) (H : Hp) : Prop where
  fro : Ext F H
  len : sl.length = σ.length
  slt : ∀ (i : Nat) (s : Sv), sl[i]? = some (some s) → ∃ v, σ[i]? = some (some v) ∧ SvR K F H b v s
  dis : ∀ (i j : Nat) (xs ys : List PyData) (a : Addr), sl[i]? = some (some (.own xs)) → sl[j]? = some (some (.own ys)) → σ[i]? = some (some (.ref a)) → σ[j]? = some (some (.ref a)) → i = j
  own0 : ∀ (i : Nat) (xs : List PyData) (a : Addr), sl[i]? = some (some (.own xs)) → σ[i]? = some (some (.ref a)) → C.H0 a = none
  bx : BxR F H b B
  e1 : Ext C.F0 F
  e2 : ∀ a, C.H0 a ≠ none → C.F0 a = none → F a = none
  e3 : ∀ a o, C.H0 a = some o → ¬ inb C.b0 a → H a = some o
  e4 : ∀ p, C.b0 = some p → b = some p
  e5 : ∀ a, inb b a → C.H0 a = none ∨ inb C.b0 a
/-- what an expression does to the heap -/
structure Stp (F : Hp) (b : Bad) (H : Hp) (F' : Hp) (b' : Bad) (H' : Hp) : Prop where
  ex : Ext F F'
  pr : ∀ a o, H a = some o → ¬ inb b a → H' a = some o
  ko : ∀ a, H a ≠ none → F a = none → F' a = none
  bb : ∀ p, b = some p → b' = some p
  nb : ∀ a, inb b' a → inb b a ∨ H a = none
  tr : ∀ a, H a ≠ none → H' a ≠ none
section
variable {F F1 F2 H H1 H2 : Hp} {b b1 b2 : Bad}
theorem Stp.refl : Stp F b H F b H := ⟨Ext.refl _, fun _ _ h _ => h, fun _ _ h => h, fun _ h => h, fun _ h => .inl h, fun _ h => h⟩
theorem Stp.trans (x : Stp F b H F1 b1 H1) (y : Stp F1 b1 H1 F2 b2 H2) : Stp F b H F2 b2 H2 where
  ex := x.ex.trans y.ex
  pr := fun a o h n => y.pr a o (x.pr a o h n) fun z => by
    rcases x.nb a z with q | q
    · exact n q
    · rw [h] at q; cases q
  ko := fun a h n => y.ko a (x.tr a h) (x.ko a h n)
  bb := fun p h => y.bb p (x.bb p h)
  nb := fun a h => by
    rcases y.nb a h with q | q
    · exact x.nb a q
    · by_cases z : H a = none
      · exact .inr z
      · exact absurd q (x.tr a z)
  tr := fun a h => y.tr a (x.tr a h)
theorem Stp.new {p : Addr} {o : HO} (h : H p = none) : Stp F b H F b (upd H p o) where
  ex := Ext.refl _
  pr := fun a u e _ => Ext.new h a u e
  ko := fun _ _ h => h
  bb := fun _ h => h
  nb := fun _ h => .inl h
  tr := fun a q => by
    unfold upd
    split
    · exact Option.some_ne_none _
    · exact q
theorem Stp.fz {p : Addr} {o : HO} (fr : Ext F H) (h : H p = none) : Stp F b H (upd F p o) b (upd H p o) where
  ex := Ext.new (by
    cases q : F p with
    | none => rfl
    | some u => rw [fr p u q] at h; cases h)
  pr := fun a u e _ => Ext.new h a u e
  ko := fun a q n => by
    rw [upd_ne (fun z => by subst z; exact q h)]
    exact n
  bb := fun _ h => h
  nb := fun _ h => .inl h
  tr := fun a q => by
    unfold upd
    split
    · exact Option.some_ne_none _
    · exact q
theorem not_in_F (fr : Ext F H) {p : Addr} (h : H p = none) : F p = none := by
  cases q : F p with
  | none => rfl
  | some u => rw [fr p u q] at h; cases h
end
theorem SvR.mono {K : Frg} {F F' H H' : Hp} {b b' : Bad} {v : V} {s : Sv} (x : Stp F b H F' b' H') (h : SvR K F H b v s) : SvR K F' H' b' v s := by
  cases s with
  | dat d => exact Rp.mono x.ex h
  | own xs =>
    obtain ⟨a, vs, e, h1, h2, h3, h4⟩ := h
    refine ⟨a, vs, e, x.pr a _ h1 h4, Rps.mono x.ex h2, x.ko a (by rw [h1]; exact Option.some_ne_none _) h3, fun z => ?_⟩
    rcases x.nb a z with q | q
    · exact h4 q
    · rw [h1] at q; cases q
  | box =>
    obtain ⟨p, e, h⟩ := h
    exact ⟨p, x.bb p e, h⟩
  | cells =>
    obtain ⟨p, e, h⟩ := h
    exact ⟨p, x.bb p e, h⟩
  | scr ns =>
    obtain ⟨a, e, h⟩ := h
    exact ⟨a, e, x.ex.sqL h⟩
abbrev SvsR (K : Frg) (F H : Hp) (b : Bad) : List V → List Sv → Prop := Paired (fun v s => SvR K F H b v s)
theorem SvsR.mono {K : Frg} {F F' H H' : Hp} {b b' : Bad} (x : Stp F b H F' b' H') : ∀ {vs : List V} {ss : List Sv}, SvsR K F H b vs ss → SvsR K F' H' b' vs ss
  | _, _, .nil => .nil
  | _, _, .cons h t => .cons (SvR.mono x h) (SvsR.mono x t)
section
variable {K : Frg} {C : Fx} {sl : Sl} {B B' : Bx} {F F' H H' : Hp} {b b' : Bad} {σ : L2.St}
/-- a step that leaves the box as told -/
theorem Rel.step (r : Rel K C sl B F b σ H) (x : Stp F b H F' b' H') (fr : Ext F' H') (bx : BxR F' H' b' B') : Rel K C sl B' F' b' σ H' where
  fro := fr
  len := r.len
  slt := fun i s h => let ⟨v, e, q⟩ := r.slt i s h; ⟨v, e, q.mono x⟩
  dis := r.dis
  own0 := r.own0
  bx := bx
  e1 := r.e1.trans x.ex
  e2 := fun a h0 h1 => by
    have h2 := r.e2 a h0 h1
    by_cases z : H a = none
    · exfalso
      by_cases hb : inb C.b0 a
      · obtain ⟨p, e, q⟩ := hb
        have hp := r.bx.at_ p (r.e4 p e)
        rcases q with q | q
        · rw [q, hp.1] at z; cases z
        · rw [q, hp.2.1] at z; cases z
      · cases q : C.H0 a with
        | none => exact h0 q
        | some o => rw [r.e3 a o q hb] at z; cases z
    · exact x.ko a z h2
  e3 := fun a o h n => x.pr a o (r.e3 a o h n) fun z => by
    rcases r.e5 a z with q | q
    · rw [h] at q; cases q
    · exact n q
  e4 := fun p h => x.bb p (r.e4 p h)
  e5 := fun a h => by
    rcases x.nb a h with q | q
    · exact r.e5 a q
    · refine .inl ?_
      by_cases hb : inb C.b0 a
      · obtain ⟨p, e, q'⟩ := hb
        have hp := r.bx.at_ p (r.e4 p e)
        rcases q' with q' | q'
        · rw [q', hp.1] at q; cases q
        · rw [q', hp.2.1] at q; cases q
      · cases z : C.H0 a with
        | none => rfl
        | some o => rw [r.e3 a o z hb] at q; cases q
theorem Rel.t0 (r : Rel K C sl B F b σ H) {a : Addr} (h : H a = none) : C.H0 a = none := by
  by_cases hb : inb C.b0 a
  · obtain ⟨p, e, q'⟩ := hb
    have hp := r.bx.at_ p (r.e4 p e)
    rcases q' with q' | q'
    · rw [q', hp.1] at h; cases h
    · rw [q', hp.2.1] at h; cases h
  · cases z : C.H0 a with
    | none => rfl
    | some o => rw [r.e3 a o z hb] at h; cases h
theorem Rel.nbx (r : Rel K C sl B F b σ H) {a : Addr} (h : H a = none) : ¬ inb b a := fun ⟨p, e, q⟩ => by
  have hp := r.bx.at_ p e
  rcases q with q | q
  · rw [q, hp.1] at h; cases h
  · rw [q, hp.2.1] at h; cases h
theorem BxR.new {p : Addr} {o : HO} (x : BxR F H b B) (h : H p = none) : BxR F (upd H p o) b B := ⟨fun q e => by
  obtain ⟨h1, h2, h3, h4, h5⟩ := x.at_ q e
  exact ⟨by rw [upd_ne (ne_of_none h1 h)]; exact h1, by rw [upd_ne (ne_of_none h2 h)]; exact h2, h3, h4, h5⟩, x.liv⟩
theorem BxR.fz {p : Addr} {o : HO} (x : BxR F H b B) (h : H p = none) : BxR (upd F p o) (upd H p o) b B := ⟨fun q e => by
  obtain ⟨h1, h2, h3, h4, h5⟩ := x.at_ q e
  exact ⟨by rw [upd_ne (ne_of_none h1 h)]; exact h1, by rw [upd_ne (ne_of_none h2 h)]; exact h2, by rw [upd_ne (ne_of_none h1 h)]; exact h3, by rw [upd_ne (ne_of_none h2 h)]; exact h4, h5⟩, x.liv⟩
/-- a new object, not frozen | frozen at once -/
theorem Rel.new {p : Addr} {o : HO} (r : Rel K C sl B F b σ H) (h : H p = none) : Rel K C sl B F b σ (upd H p o) :=
  r.step (Stp.new h) (r.fro.trans (Ext.new h)) (r.bx.new h)
theorem Rel.fz {p : Addr} {o : HO} (r : Rel K C sl B F b σ H) (h : H p = none) : Rel K C sl B (upd F p o) b σ (upd H p o) :=
  r.step (Stp.fz r.fro h) (fun a u e => by
    by_cases z : a = p
    · subst z; rw [upd_same] at e; rw [upd_same]; exact e
    · rw [upd_ne z] at e; rw [upd_ne z]; exact r.fro a u e) (r.bx.fz h)
end
end Dn

set_option Elab.async false
set_option linter.all false
set_option autoImplicit false
set_option maxRecDepth 100000
set_option maxHeartbeats 1000000
namespace Dn
open PySem PySem.Spec PyProof.Rows L2

/-! ### what is read of the top of a value: an own list too -/
def TopR (K : Frg) (F H : Hp) (b : Bad) (v : V) : PyData → Prop
  | .list xs => ∃ a vs, v = .ref a ∧ H a = some (.lst vs) ∧ ¬ inb b a ∧ Rps K F vs xs
  | d => Rp K F v d
abbrev TopRs (K : Frg) (F H : Hp) (b : Bad) : List V → List PyData → Prop := Paired (fun v d => TopR K F H b v d)
section
variable {K : Frg} {C : Fx} {sl : Sl} {B B' : Bx} {F F' H H' : Hp} {b b' : Bad} {σ : L2.St} {v : V} {d : PyData}
theorem TopR.of (fr : Ext F H) (bx : BxR F H b B) (h : Rp K F v d) : TopR K F H b v d := by
  cases d with
  | list xs =>
    cases h with
    | lst h1 h2 =>
      refine ⟨_, _, rfl, fr _ _ h1, fun ⟨p, e, q⟩ => ?_, h2⟩
      have hp := bx.at_ p e
      rcases q with q | q
      · rw [q, hp.2.2.1] at h1; cases h1
      · rw [q, hp.2.2.2.1] at h1; cases h1
  | _ => exact h
theorem TopR.mono (x : Stp F b H F' b' H') (h : TopR K F H b v d) : TopR K F' H' b' v d := by
  cases d with
  | list xs =>
    obtain ⟨a, vs, e, h1, h2, h3⟩ := h
    refine ⟨a, vs, e, x.pr a _ h1 h2, fun z => ?_, Rps.mono x.ex h3⟩
    rcases x.nb a z with q | q
    · exact h2 q
    · rw [h1] at q; cases q
  | none => exact Rp.mono x.ex h
  | bool _ => exact Rp.mono x.ex h
  | int _ => exact Rp.mono x.ex h
  | str _ => exact Rp.mono x.ex h
  | tuple _ => exact Rp.mono x.ex h
  | dict _ => exact Rp.mono x.ex h
theorem TopR.dp (fr : Ext F H) (h : TopR K F H b v d) : Dp K H v d := by
  cases d with
  | list xs =>
    obtain ⟨a, vs, e, h1, h2, h3⟩ := h
    subst e
    exact .lst (SqL.of h1) (Rps.dp (Rps.mono fr h3))
  | none => exact (Rp.mono fr h).dp
  | bool _ => exact (Rp.mono fr h).dp
  | int _ => exact (Rp.mono fr h).dp
  | str _ => exact (Rp.mono fr h).dp
  | tuple _ => exact (Rp.mono fr h).dp
  | dict _ => exact (Rp.mono fr h).dp
theorem TopRs.mono (x : Stp F b H F' b' H') : ∀ {vs : List V} {ds : List PyData}, TopRs K F H b vs ds → TopRs K F' H' b' vs ds
  | _, _, .nil => .nil
  | _, _, .cons h t => .cons (TopR.mono x h) (TopRs.mono x t)
end
theorem top_int {K : Frg} {F H : Hp} {b : Bad} {v : V} {i : Int} (h : TopR K F H b v (.int i)) : v = .int i := by
  have h' : Rp K F v (.int i) := h
  cases h'
  rfl
theorem top_bool {K : Frg} {F H : Hp} {b : Bad} {v : V} {i : Bool} (h : TopR K F H b v (.bool i)) : v = .bl i := by
  have h' : Rp K F v (.bool i) := h
  cases h'
  rfl
theorem top_str {K : Frg} {F H : Hp} {b : Bad} {v : V} {i : Str} (h : TopR K F H b v (.str i)) : v = .str i := by
  have h' : Rp K F v (.str i) := h
  cases h'
  rfl
theorem top_none {K : Frg} {F H : Hp} {b : Bad} {v : V} (h : TopR K F H b v .none) : v = .non := by
  have h' : Rp K F v .none := h
  cases h'
  rfl
theorem top_tup {K : Frg} {F H : Hp} {b : Bad} {v : V} {ds : List PyData} (fr : Ext F H) (h : TopR K F H b v (.tuple ds)) : ∃ a vs, v = .ref a ∧ SqT K H a vs ∧ Rps K F vs ds := by
  have h' : Rp K F v (.tuple ds) := h
  cases h' with
  | tup h1 h2 => exact ⟨_, _, rfl, fr.sqT h1, h2⟩

/-! ### new objects -/
inductive Al : Hp → Hp → Hp → Hp → Prop
  | refl {F H : Hp} : Al F H F H
  | fz {F H F' H' : Hp} {p : Addr} {o : HO} : H p = none → Al (upd F p o) (upd H p o) F' H' → Al F H F' H'
  | nw {F H F' H' : Hp} {p : Addr} {o : HO} : H p = none → Al F (upd H p o) F' H' → Al F H F' H'
theorem Al.rel {K : Frg} {C : Fx} {sl : Sl} {B : Bx} {b : Bad} {σ : L2.St} {F H F' H' : Hp} (x : Al F H F' H') : Rel K C sl B F b σ H → Rel K C sl B F' b σ H' ∧ Stp F b H F' b H' := by
  induction x with
  | refl => exact fun r => ⟨r, Stp.refl⟩
  | fz h _ ih => exact fun r => let ⟨r2, s2⟩ := ih (r.fz h); ⟨r2, (Stp.fz r.fro h).trans s2⟩
  | nw h _ ih => exact fun r => let ⟨r2, s2⟩ := ih (r.new h); ⟨r2, (Stp.new h).trans s2⟩
theorem Al.one {F H : Hp} {p : Addr} {o : HO} (h : H p = none) : Al F H (upd F p o) (upd H p o) := .fz h .refl

/-! ### readings by denotations -/
abbrev DE := Sl → Bx → Option (PyData × Bx)
abbrev DV := Sl → Bx → Option (Sv × Bx)
abbrev DT := Sl → Bx → Option (Bool × Bx)
abbrev DA := Sl → Bx → Option (List Sv × Bx)
abbrev DL := Sl → Bx → Option (List PyData × Bx)
def liftE (K : Frg) (C : Fx) (d : DE) : TE := fun σ H Q => ∃ sl B F b r B', Rel K C sl B F b σ H ∧ d sl B = some (r, B') ∧ ∀ v H' F' b', Rel K C sl B' F' b' σ H' → Stp F b H F' b' H' → Rp K F' v r → Q v H'
def liftO (K : Frg) (C : Fx) (d : DE) : TE := fun σ H Q => ∃ sl B F b r B', Rel K C sl B F b σ H ∧ d sl B = some (r, B') ∧ ∀ v H' F' b', Rel K C sl B' F' b' σ H' → Stp F b H F' b' H' → TopR K F' H' b' v r → Q v H'
def liftV (K : Frg) (C : Fx) (d : DV) : TE := fun σ H Q => ∃ sl B F b r B', Rel K C sl B F b σ H ∧ d sl B = some (r, B') ∧ ∀ v H' F' b', Rel K C sl B' F' b' σ H' → Stp F b H F' b' H' → SvR K F' H' b' v r → Q v H'
def liftT (K : Frg) (C : Fx) (d : DT) : TT := fun σ H Q => ∃ sl B F b r B', Rel K C sl B F b σ H ∧ d sl B = some (r, B') ∧ ∀ H' F' b', Rel K C sl B' F' b' σ H' → Stp F b H F' b' H' → Q r H'
def liftA (K : Frg) (C : Fx) (d : DA) : TA := fun σ H Q => ∃ sl B F b r B', Rel K C sl B F b σ H ∧ d sl B = some (r, B') ∧ ∀ v H' F' b', Rel K C sl B' F' b' σ H' → Stp F b H F' b' H' → SvsR K F' H' b' v r → Q v H'
def liftQ (K : Frg) (C : Fx) (d : DL) : TA := fun σ H Q => ∃ sl B F b r B', Rel K C sl B F b σ H ∧ d sl B = some (r, B') ∧ ∀ v H' F' b', Rel K C sl B' F' b' σ H' → Stp F b H F' b' H' → TopRs K F' H' b' v r → Q v H'
/-- deep operands, for a display -/
def liftD (K : Frg) (C : Fx) (d : DL) : TA := fun σ H Q => ∃ sl B F b r B', Rel K C sl B F b σ H ∧ d sl B = some (r, B') ∧ ∀ v H' F' b', Rel K C sl B' F' b' σ H' → Stp F b H F' b' H' → Rps K F' v r → Q v H'
/-- a new list that nobody else holds -/
def liftL (K : Frg) (C : Fx) (d : DL) : TE := fun σ H Q => ∃ sl B F b r B', Rel K C sl B F b σ H ∧ d sl B = some (r, B') ∧ ∀ a vs H' F' b', Rel K C sl B' F' b' σ H' → Stp F b H F' b' H' → H a = none → F' a = none → ¬ inb b' a → H' a = some (.lst vs) → Rps K F' vs r → Q (.ref a) H'

section
variable {X : Cx}
theorem imp_e {e : Expr} {t t' : TE} (h : ∀ σ H Q, t' σ H Q → t σ H Q) (p : PE X e t) : PE X e t' := ⟨fun pins s σ H Q I w => p.run pins s σ H Q I (h σ H Q w)⟩
theorem imp_t {e : Expr} {t t' : TT} (h : ∀ σ H Q, t' σ H Q → t σ H Q) (p : PT X e t) : PT X e t' := ⟨fun pins s σ H Q I w => p.run pins s σ H Q I (h σ H Q w)⟩
theorem imp_w {e : Expr} {t t' : TT} (h : ∀ σ H Q, t' σ H Q → t σ H Q) (p : PW X e t) : PW X e t' := ⟨fun wh pins s σ H Q I w => p.run wh pins s σ H Q I (h σ H Q w)⟩
theorem imp_ts {e : List Expr} {t t' : TT} (h : ∀ σ H Q, t' σ H Q → t σ H Q) (p : PTs X e t) : PTs X e t' := ⟨fun pins s σ H Q I w => p.run pins s σ H Q I (h σ H Q w)⟩
theorem imp_a {es : List Expr} {t t' : TA} (h : ∀ σ H Q, t' σ H Q → t σ H Q) (p : PA X es t) : PA X es t' := ⟨fun pos pins s σ H Q I w => p.run pos pins s σ H Q I (h σ H Q w)⟩
theorem imp_s {e : Stmt} {t t' : TS} (h : ∀ D σ H, t' D σ H → t D σ H) (p : PS X e t) : PS X e t' := ⟨fun pins s σ H D I w => p.run pins s σ H D I (h D σ H w)⟩
theorem imp_ss {e : List Stmt} {t t' : TS} (h : ∀ D σ H, t' D σ H → t D σ H) (p : PSs X e t) : PSs X e t' := ⟨fun pins s σ H D I w => p.run pins s σ H D I (h D σ H w)⟩
theorem imp_g {e : Expr} {t t' : TG} (h : ∀ v σ H Q, t' v σ H Q → t v σ H Q) (p : PG X e t) : PG X e t' := ⟨fun pins s σ H v u Q I r w => p.run pins s σ H v u Q I r (h v σ H Q w)⟩
end
theorem bnd {α β : Type} {o : Option α} {f : α → Option β} {z : β} (h : o.bind f = some z) : ∃ x, o = some x ∧ f x = some z := Option.bind_eq_some_iff.mp h
theorem mpd {α β : Type} {o : Option α} {f : α → β} {z : β} (h : o.map f = some z) : ∃ x, o = some x ∧ f x = z := Option.map_eq_some_iff.mp h

/-! ### names, constants, operands -/
def dVar (i : Nat) : DE := fun sl B => match sl[i]? with
  | some (some (.dat d)) => some (d, B)
  | _ => none
def dVarO (i : Nat) : DE := fun sl B => match sl[i]? with
  | some (some (.dat d)) => some (d, B)
  | some (some (.own xs)) => some (.list xs, B)
  | _ => none
def dVarV (i : Nat) : DV := fun sl B => match sl[i]? with
  | some (some (.own _)) => none
  | some (some s) => some (s, B)
  | _ => none
def dC (d : PyData) : DE := fun _ B => some (d, B)
section
variable {X : Cx} {C : Fx}
theorem e_var (i : Nat) {x : Str} {pos : Pos} (hN : X.N[i]? = some x := by rfl) (hv : Vis X.env.scope x := by first | exact Or.inl rfl | exact Or.inr (Or.inl rfl) | exact Or.inr (Or.inr rfl)) (hd : (x == ("__debug__" : Str)) = false := by decide)
    (hcd : (x == ("__classdict__" : Str)) = false := by decide) : PE X (.Name x pos) (liftE X.K C (dVar i)) :=
  imp_e (fun σ H Q ⟨sl, B, F, b, r, B', R, e, k⟩ => by
    unfold dVar at e
    split at e
    · rename_i d hs
      cases e
      obtain ⟨v, hv, q⟩ := R.slt i _ hs
      exact ⟨v, hv, k v H F b R Stp.refl q⟩
    · cases e) (pe_var hN hv hd hcd)
theorem o_var (i : Nat) {x : Str} {pos : Pos} (hN : X.N[i]? = some x := by rfl) (hv : Vis X.env.scope x := by first | exact Or.inl rfl | exact Or.inr (Or.inl rfl) | exact Or.inr (Or.inr rfl)) (hd : (x == ("__debug__" : Str)) = false := by decide)
    (hcd : (x == ("__classdict__" : Str)) = false := by decide) : PE X (.Name x pos) (liftO X.K C (dVarO i)) :=
  imp_e (fun σ H Q ⟨sl, B, F, b, r, B', R, e, k⟩ => by
    unfold dVarO at e
    split at e
    · rename_i d hs
      cases e
      obtain ⟨v, hv, q⟩ := R.slt i _ hs
      exact ⟨v, hv, k v H F b R Stp.refl (TopR.of R.fro R.bx q)⟩
    · rename_i xs hs
      cases e
      obtain ⟨v, hv, a, vs, e1, h1, h2, h3, h4⟩ := R.slt i _ hs
      exact ⟨v, hv, k v H F b R Stp.refl ⟨a, vs, e1, h1, h4, h2⟩⟩
    · cases e) (pe_var hN hv hd hcd)
theorem v_var (i : Nat) {x : Str} {pos : Pos} (hN : X.N[i]? = some x := by rfl) (hv : Vis X.env.scope x := by first | exact Or.inl rfl | exact Or.inr (Or.inl rfl) | exact Or.inr (Or.inr rfl)) (hd : (x == ("__debug__" : Str)) = false := by decide)
    (hcd : (x == ("__classdict__" : Str)) = false := by decide) : PE X (.Name x pos) (liftV X.K C (dVarV i)) :=
  imp_e (fun σ H Q ⟨sl, B, F, b, r, B', R, e, k⟩ => by
    unfold dVarV at e
    split at e
    · cases e
    · rename_i s hn hs
      cases e
      obtain ⟨v, hv, q⟩ := R.slt i _ hs
      exact ⟨v, hv, k v H F b R Stp.refl q⟩
    · cases e) (pe_var hN hv hd hcd)
theorem c_of {e : Expr} {v : V} {d : PyData} (h : PE X e (tC v)) (r : ∀ F, Rp X.K F v d) : PE X e (liftE X.K C (dC d)) :=
  imp_e (fun σ H Q ⟨sl, B, F, b, rr, B', R, e, k⟩ => by
    cases e
    exact k v H F b R Stp.refl (r F)) h
theorem e_int {i j pos} : PE X (.Constant (.int i) j pos) (liftE X.K C (dC (.int i))) := c_of pe_int fun _ => .int i
theorem e_bl {i j pos} : PE X (.Constant (.bool i) j pos) (liftE X.K C (dC (.bool i))) := c_of pe_bl fun _ => .bl i
theorem e_non {j pos} : PE X (.Constant .none j pos) (liftE X.K C (dC .none)) := c_of pe_non fun _ => .non
theorem e_str {x j pos} : PE X (.Constant (.str x) j pos) (liftE X.K C (dC (.str x))) := c_of pe_str fun _ => .str x
/-- a module's constant -/
theorem e_glob {x : Str} {v : V} {u : Value} {d : PyData} {pos : Pos} (hm : X.mg x = some u) (r : RelV v u) (q : ∀ F, Rp X.K F v d) (hg : Gl X x := by rfl) (hd : (x == ("__debug__" : Str)) = false := by decide) : PE X (.Name x pos) (liftE X.K C (dC d)) :=
  c_of (pe_glob hg hm r hd) q
/-- a value as an operand, as an argument -/
theorem o_of {e : Expr} {d : DE} (h : PE X e (liftE X.K C d)) : PE X e (liftO X.K C d) :=
  imp_e (fun σ H Q ⟨sl, B, F, b, r, B', R, e, k⟩ => ⟨sl, B, F, b, r, B', R, e, fun v H' F' b' R' S' q => k v H' F' b' R' S' (TopR.of R'.fro R'.bx q)⟩) h
def dV (d : DE) : DV := fun sl B => (d sl B).map fun p => (.dat p.1, p.2)
theorem v_of {e : Expr} {d : DE} (h : PE X e (liftE X.K C d)) : PE X e (liftV X.K C (dV d)) :=
  imp_e (fun σ H Q ⟨sl, B, F, b, r, B', R, e, k⟩ => by
    obtain ⟨⟨x, B1⟩, e1, e2⟩ := mpd e
    cases e2
    exact ⟨sl, B, F, b, x, B1, R, e1, fun v H' F' b' R' S' q => k v H' F' b' R' S' q⟩) h
/-- a new list, frozen -/
def dF (d : DL) : DE := fun sl B => (d sl B).map fun p => (.list p.1, p.2)
theorem Rel.freeze {K : Frg} {C : Fx} {sl : Sl} {B B' : Bx} {F F' H H' : Hp} {b b' : Bad} {σ : L2.St} {a : Addr} {vs : List V} (R : Rel K C sl B F b σ H) (R' : Rel K C sl B' F' b' σ H') (S : Stp F b H F' b' H') (h0 : H a = none) (h1 : F' a = none) (h2 : ¬ inb b' a) (h3 : H' a = some (.lst vs)) :
    Rel K C sl B' (upd F' a (.lst vs)) b' σ H' ∧ Stp F b H (upd F' a (.lst vs)) b' H' := by
  have ex : Ext F' (upd F' a (.lst vs)) := Ext.new h1
  have S' : Stp F b H (upd F' a (.lst vs)) b' H' :=
    ⟨S.ex.trans ex, S.pr, fun c hc hn => by
      rw [upd_ne (fun z => by subst z; exact hc h0)]
      exact S.ko c hc hn, S.bb, S.nb, S.tr⟩
  refine ⟨R.step S' (fun c o hc => ?_) ⟨fun p e => ?_, R'.bx.liv⟩, S'⟩
  · by_cases z : c = a
    · subst z; rw [upd_same] at hc; rw [h3]; exact hc
    · rw [upd_ne z] at hc; exact R'.fro c o hc
  · obtain ⟨k1, k2, k3, k4, k5⟩ := R'.bx.at_ p e
    exact ⟨k1, k2, by rw [upd_ne (fun z => h2 ⟨p, e, .inl z.symm⟩)]; exact k3, by rw [upd_ne (fun z => h2 ⟨p, e, .inr z.symm⟩)]; exact k4, k5⟩
theorem f_of {e : Expr} {d : DL} (h : PE X e (liftL X.K C d)) : PE X e (liftE X.K C (dF d)) :=
  imp_e (fun σ H Q ⟨sl, B, F, b, r, B', R, e, k⟩ => by
    obtain ⟨⟨xs, B1⟩, e1, e2⟩ := mpd e
    cases e2
    refine ⟨sl, B, F, b, xs, B1, R, e1, fun a vs H' F' b' R' S' h0 h1 h2 h3 h4 => ?_⟩
    obtain ⟨R2, S2⟩ := R.freeze R' S' h0 h1 h2 h3
    exact k _ _ _ _ R2 S2 (.lst upd_same (Rps.mono (Ext.new h1) h4))) h
end

/-! ### two operands -/
def dOp (f : PyData → PyData → Option PyData) (da db : DE) : DE := fun sl B => (da sl B).bind fun p => (db sl p.2).bind fun q => (f p.1 q.1).map fun z => (z, q.2)
def dTst (f : PyData → PyData → Option Bool) (da db : DE) : DT := fun sl B => (da sl B).bind fun p => (db sl p.2).bind fun q => (f p.1 q.1).map fun z => (z, q.2)
def dOpB (f : PyData → PyData → Option Bool) (da db : DE) : DE := fun sl B => (da sl B).bind fun p => (db sl p.2).bind fun q => (f p.1 q.1).map fun z => (.bool z, q.2)
theorem two_o {K : Frg} {C : Fx} {sl : Sl} {B B1 B2 : Bx} {F H : Hp} {b : Bad} {σ : L2.St} {da db : DE} {x y : PyData} {Q : V → V → Hp → Prop} (R : Rel K C sl B F b σ H) (ea : da sl B = some (x, B1)) (eb : db sl B1 = some (y, B2))
    (k : ∀ v u H' F' b', Rel K C sl B2 F' b' σ H' → Stp F b H F' b' H' → TopR K F' H' b' v x → TopR K F' H' b' u y → Q v u H') : liftO K C da σ H fun v H1 => liftO K C db σ H1 fun u H2 => Q v u H2 :=
  ⟨sl, B, F, b, x, B1, R, ea, fun v H1 F1 b1 R1 S1 q1 => ⟨sl, B1, F1, b1, y, B2, R1, eb, fun u H2 F2 b2 R2 S2 q2 => k v u H2 F2 b2 R2 (S1.trans S2) (q1.mono S2) q2⟩⟩
/-- by values: an operator that gives data | a truth value -/
def ROp (K : Frg) (r : R2) (f : PyData → PyData → Option PyData) : Prop := ∀ x y z, f x y = some z → ∀ (F H : Hp) (b : Bad) (v u : V) (Q : VK), Ext F H → TopR K F H b v x → TopR K F H b u y → (∀ w F' H', Al F H F' H' → Rp K F' w z → Q w H') → r v u H Q
def RTs (K : Frg) (r : R2) (f : PyData → PyData → Option Bool) : Prop := ∀ x y z, f x y = some z → ∀ (F H : Hp) (b : Bad) (v u : V) (Q : VK), Ext F H → TopR K F H b v x → TopR K F H b u y → Q (.bl z) H → r v u H Q
section
variable {X : Cx} {C : Fx} {a c : Expr} {da db : DE} {pos : Pos}
theorem op_imp {r : R2} {f : PyData → PyData → Option PyData} (hr : ROp X.K r f) : ∀ σ H Q, liftE X.K C (dOp f da db) σ H Q → tOp r (liftO X.K C da) (liftO X.K C db) σ H Q :=
  fun σ H Q ⟨sl, B, F, b, rr, B', R, e, k⟩ => by
    obtain ⟨⟨x, B1⟩, e1, e⟩ := bnd e
    obtain ⟨⟨y, B2⟩, e2, e⟩ := bnd e
    obtain ⟨z, e3, e⟩ := mpd e
    cases e
    refine two_o R e1 e2 fun v u H' F' b' R' S' qx qy => ?_
    refine hr x y _ e3 F' H' b' v u Q R'.fro qx qy fun w F2 H2 al rp => ?_
    obtain ⟨R2, S2⟩ := al.rel R'
    exact k w H2 F2 b' R2 (S'.trans S2) rp
theorem ts_imp {r : R2} {f : PyData → PyData → Option Bool} (hr : RTs X.K r f) : ∀ σ H Q, liftT X.K C (dTst f da db) σ H Q → tTest (tOp r (liftO X.K C da) (liftO X.K C db)) σ H Q :=
  fun σ H Q ⟨sl, B, F, b, rr, B', R, e, k⟩ => by
    obtain ⟨⟨x, B1⟩, e1, e⟩ := bnd e
    obtain ⟨⟨y, B2⟩, e2, e⟩ := bnd e
    obtain ⟨z, e3, e⟩ := mpd e
    cases e
    refine two_o R e1 e2 fun v u H' F' b' R' S' qx qy => ?_
    exact hr x y _ e3 F' H' b' v u _ R'.fro qx qy ⟨_, rfl, k H' F' b' R' S'⟩
theorem tb_imp {r : R2} {f : PyData → PyData → Option Bool} (hr : RTs X.K r f) : ∀ σ H Q, liftE X.K C (dOpB f da db) σ H Q → tOp r (liftO X.K C da) (liftO X.K C db) σ H Q :=
  fun σ H Q ⟨sl, B, F, b, rr, B', R, e, k⟩ => by
    obtain ⟨⟨x, B1⟩, e1, e⟩ := bnd e
    obtain ⟨⟨y, B2⟩, e2, e⟩ := bnd e
    obtain ⟨z, e3, e⟩ := mpd e
    cases e
    refine two_o R e1 e2 fun v u H' F' b' R' S' qx qy => ?_
    exact hr x y _ e3 F' H' b' v u _ R'.fro qx qy (k _ H' F' b' R' S' (.bl _))
theorem e_op {op : Operator} {r : R2} {f : PyData → PyData → Option PyData} (ho : OpR X (binaryOp op) r) (hr : ROp X.K r f) (ha : PE X a (liftO X.K C da)) (hb : PE X c (liftO X.K C db)) : PE X (.BinOp a op c pos) (liftE X.K C (dOp f da db)) :=
  imp_e (op_imp hr) (pe_op ho ha hb)
theorem t_cmp {op : CmpOp} {r : R2} {f : PyData → PyData → Option Bool} (ho : OpR X (compareOp op) r) (hr : RTs X.K r f) (hm : behindInMarks op c = false) (ha : PE X a (liftO X.K C da)) (hb : PE X c (liftO X.K C db)) : PT X (.Compare a [op] [c] pos) (liftT X.K C (dTst f da db)) :=
  imp_t (ts_imp hr) (pt_cmpR ho ha hb hm)
theorem e_cmp {op : CmpOp} {r : R2} {f : PyData → PyData → Option Bool} (ho : OpR X (compareOp op) r) (hr : RTs X.K r f) (hm : behindInMarks op c = false) (ha : PE X a (liftO X.K C da)) (hb : PE X c (liftO X.K C db)) : PE X (.Compare a [op] [c] pos) (liftE X.K C (dOpB f da db)) :=
  imp_e (tb_imp hr) (pe_cmpR ho ha hb hm)
end

/-! ### the operators by values -/
def mulOk (i j : Int) : Bool := decide ((-(2 ^ 64) < i ∧ i < 2 ^ 64) ∨ (-(2 ^ 64) < j ∧ j < 2 ^ 64)) || decide (i.natAbs.log2 + j.natAbs.log2 < 1000000)
def pyAdd : PyData → PyData → Option PyData
  | .int i, .int j => some (.int (i + j))
  | .str x, .str y => if x.length + y.length ≤ sizeLine then some (.str (x ++ y)) else none
  | .list xs, .list ys => if xs.length + ys.length ≤ sizeLine then some (.list (xs ++ ys)) else none
  | .tuple xs, .tuple ys => if xs.length + ys.length ≤ sizeLine then some (.tuple (xs ++ ys)) else none
  | _, _ => none
def pySub : PyData → PyData → Option PyData
  | .int i, .int j => some (.int (i - j))
  | _, _ => none
def pyMul : PyData → PyData → Option PyData
  | .int i, .int j => if mulOk i j then some (.int (i * j)) else none
  | _, _ => none
def pyDiv : PyData → PyData → Option PyData
  | .int i, .int j => if 0 < j ∧ j.natAbs.log2 < 9000 then some (.int (i / j)) else none
  | _, _ => none
def pyMod : PyData → PyData → Option PyData
  | .int i, .int j => if 0 < j then some (.int (i % j)) else none
  | _, _ => none
def pyPow : PyData → PyData → Option PyData
  | .int i, .int j => if 0 ≤ j ∧ j ≤ 1000000 ∧ i.natAbs < 2 ^ 64 then some (.int (i ^ j.toNat)) else none
  | _, _ => none
def pyShl : PyData → PyData → Option PyData
  | .int i, .int j => if 0 ≤ j ∧ j ≤ 1000000 ∧ i.natAbs < 2 ^ 64 then some (.int (i * 2 ^ j.toNat)) else none
  | _, _ => none
def pyShr : PyData → PyData → Option PyData
  | .int i, .int j => if 0 ≤ j then some (.int (i / 2 ^ j.toNat)) else none
  | _, _ => none
def pyAnd : PyData → PyData → Option PyData
  | .int i, .int j => some (.int (Builtin.bitAnd i j))
  | _, _ => none
section
variable {X : Cx}
def rMulA : R2 := fun x y H Q => rI CMul (fun i j => .int (i * j)) x y H Q ∨ rI CMulW (fun i j => .int (i * j)) x y H Q
theorem op_mulA : OpR X (binaryOp .Mult) rMulA := op_mul.or op_mulW
theorem r_mul : ROp X.K rMulA pyMul := fun x y z e F H b v u Q fr qx qy k => by
  unfold pyMul at e
  split at e
  · rename_i i j
    have ex := top_int qx
    have ey := top_int qy
    split at e
    · rename_i hc
      cases e
      unfold mulOk at hc
      rw [Bool.or_eq_true, decide_eq_true_eq, decide_eq_true_eq] at hc
      have q : Q (.int (i * j)) H := k _ _ _ .refl (.int _)
      rcases hc with hc | hc
      · exact .inl ⟨i, j, ex, ey, hc, q⟩
      · exact .inr ⟨i, j, ex, ey, hc, q⟩
    · cases e
  · cases e
theorem r_int0 {g : Int → Int → Int} {f : PyData → PyData → Option PyData} (hf : ∀ x y z, f x y = some z → ∃ i j, x = .int i ∧ y = .int j ∧ z = .int (g i j)) : ROp X.K (rI0 fun i j => .int (g i j)) f := fun x y z e F H b v u Q fr qx qy k => by
  obtain ⟨i, j, rfl, rfl, rfl⟩ := hf x y z e
  exact ⟨i, j, top_int qx, top_int qy, k _ _ _ .refl (.int _)⟩
theorem r_intC {Cc : Int → Int → Prop} {g : Int → Int → Int} {f : PyData → PyData → Option PyData} (hf : ∀ x y z, f x y = some z → ∃ i j, x = .int i ∧ y = .int j ∧ Cc i j ∧ z = .int (g i j)) : ROp X.K (rI Cc fun i j => .int (g i j)) f := fun x y z e F H b v u Q fr qx qy k => by
  obtain ⟨i, j, rfl, rfl, hc, rfl⟩ := hf x y z e
  exact ⟨i, j, top_int qx, top_int qy, hc, k _ _ _ .refl (.int _)⟩
theorem r_sub : ROp X.K (rI0 fun i j => .int (i - j)) pySub := r_int0 fun x y z e => by
  unfold pySub at e
  split at e
  · cases e; exact ⟨_, _, rfl, rfl, rfl⟩
  · cases e
theorem r_and : ROp X.K (rI0 fun i j => .int (Builtin.bitAnd i j)) pyAnd := r_int0 fun x y z e => by
  unfold pyAnd at e
  split at e
  · cases e; exact ⟨_, _, rfl, rfl, rfl⟩
  · cases e
theorem r_div : ROp X.K (rI CDivW fun i j => .int (i / j)) pyDiv := r_intC fun x y z e => by
  unfold pyDiv at e
  split at e
  · split at e
    · rename_i h
      cases e; exact ⟨_, _, rfl, rfl, h, rfl⟩
    · cases e
  · cases e
theorem r_mod : ROp X.K (rI (fun _ j => 0 < j) fun i j => .int (i % j)) pyMod := r_intC fun x y z e => by
  unfold pyMod at e
  split at e
  · split at e
    · rename_i h
      cases e; exact ⟨_, _, rfl, rfl, h, rfl⟩
    · cases e
  · cases e
theorem r_pow : ROp X.K (rI CPow fun i j => .int (i ^ j.toNat)) pyPow := r_intC fun x y z e => by
  unfold pyPow at e
  split at e
  · split at e
    · rename_i h
      cases e; exact ⟨_, _, rfl, rfl, h, rfl⟩
    · cases e
  · cases e
theorem r_shl : ROp X.K (rI CPow fun i j => .int (i * 2 ^ j.toNat)) pyShl := r_intC fun x y z e => by
  unfold pyShl at e
  split at e
  · split at e
    · rename_i h
      cases e; exact ⟨_, _, rfl, rfl, h, rfl⟩
    · cases e
  · cases e
theorem r_shr : ROp X.K (rI (fun _ j => 0 ≤ j) fun i j => .int (i / 2 ^ j.toNat)) pyShr := r_intC fun x y z e => by
  unfold pyShr at e
  split at e
  · split at e
    · rename_i h
      cases e; exact ⟨_, _, rfl, rfl, h, rfl⟩
    · cases e
  · cases e
def rAddA (K : Frg) : R2 := fun x y H Q => (rI0 (fun i j => .int (i + j)) x y H Q ∨ (∃ i j, x = .str i ∧ y = .str j ∧ i.length + j.length ≤ sizeLine ∧ Q (.str (i ++ j)) H)) ∨ (rCat x y H Q ∨ rCatA K x y H Q)
theorem op_addA : OpR X (binaryOp .Add) (rAddA X.K) := (op_add.or op_add_str).or (op_cat.or op_catA)
theorem r_add : ROp X.K (rAddA X.K) pyAdd := fun x y z e F H b v u Q fr qx qy k => by
  unfold pyAdd at e
  split at e
  · cases e
    exact .inl (.inl ⟨_, _, top_int qx, top_int qy, k _ _ _ .refl (.int _)⟩)
  · split at e
    · rename_i h
      cases e
      exact .inl (.inr ⟨_, _, top_str qx, top_str qy, h, k _ _ _ .refl (.str _)⟩)
    · cases e
  · split at e
    · rename_i h
      cases e
      obtain ⟨p, vs, e1, h1, _, r1⟩ := qx
      obtain ⟨q, us, e2, h2, _, r2⟩ := qy
      refine .inr (.inl ⟨p, q, vs, us, e1, e2, h1, h2, by rw [r1.length, r2.length]; exact h, fun n hn => ?_⟩)
      exact k _ _ _ (.one hn) (.lst upd_same (Rps.mono (Ext.new (not_in_F fr hn)) (Rps.append r1 r2)))
    · cases e
  · split at e
    · rename_i h
      cases e
      obtain ⟨p, vs, e1, h1, r1⟩ := top_tup fr qx
      obtain ⟨q, us, e2, h2, r2⟩ := top_tup fr qy
      have ln1 := r1.length
      have ln2 := r2.length
      refine .inr (.inr ⟨p, q, vs, us, e1, e2, h1, h2, by rw [r1.length, r2.length]; exact h, fun z => ?_, fun _ z => ?_, fun _ _ n hn => ?_⟩)
      · subst z
        cases r1
        rw [← e2]
        exact k _ _ _ .refl qy
      · subst z
        cases r2
        rw [← e1]
        refine k _ _ _ .refl ?_
        rw [List.append_nil]
        exact qx
      · exact k _ _ _ (.one hn) (.tup (SqT.of upd_same) (Rps.mono (Ext.new (not_in_F fr hn)) (Rps.append r1 r2)))
    · cases e
  · cases e
end
end Dn

set_option Elab.async false
set_option linter.all false
set_option autoImplicit false
set_option maxRecDepth 100000
set_option maxHeartbeats 1000000
namespace Dn
open PySem PySem.Spec PyProof.Rows L2

/-! ### comparisons -/
def pyEq (x y : PyData) : Option Bool := if SeqAt.shaped x = true ∧ SeqAt.shaped y = true then some (PyData.eqv x y) else none
def pyNe (x y : PyData) : Option Bool := if SeqAt.shaped x = true ∧ SeqAt.shaped y = true then some (!PyData.eqv x y) else none
def pyLt : PyData → PyData → Option Bool
  | .int i, .int j => some (decide (i < j))
  | _, _ => none
def pyLe : PyData → PyData → Option Bool
  | .int i, .int j => some (decide (i ≤ j))
  | _, _ => none
def pyGt : PyData → PyData → Option Bool
  | .int i, .int j => some (decide (j < i))
  | _, _ => none
def pyGe : PyData → PyData → Option Bool
  | .int i, .int j => some (decide (j ≤ i))
  | _, _ => none
def isNon : PyData → Bool
  | .none => true
  | _ => false
def pyIs : PyData → PyData → Option Bool
  | x, .none => some (isNon x)
  | .bool a, .bool b => some (decide (a = b))
  | _, _ => none
def pyIsNot : PyData → PyData → Option Bool
  | x, .none => some (!isNon x)
  | .bool a, .bool b => some (!decide (a = b))
  | _, _ => none
theorem isNon_top {K : Frg} {F H : Hp} {b : Bad} {v : V} {d : PyData} (h : TopR K F H b v d) : decide (v = .non) = isNon d := by
  cases d with
  | none => rw [top_none h]; rfl
  | bool _ => rw [top_bool h]; rfl
  | int _ => rw [top_int h]; rfl
  | str _ => rw [top_str h]; rfl
  | list _ =>
    obtain ⟨a, vs, e, _⟩ := h
    rw [e]; rfl
  | tuple _ =>
    have h' : Rp K F v (.tuple _) := h
    cases h'; rfl
  | dict _ =>
    have h' : Rp K F v (.dict _) := h
    cases h'
section
variable {X : Cx}
theorem r_eq : RTs X.K (rEqD X.K) pyEq := fun x y z e F H b v u Q fr qx qy k => by
  unfold pyEq at e
  split at e
  · rename_i h
    cases e
    exact ⟨x, y, qx.dp fr, qy.dp fr, h.1, h.2, k⟩
  · cases e
theorem r_ne : RTs X.K (rNeD X.K) pyNe := fun x y z e F H b v u Q fr qx qy k => by
  unfold pyNe at e
  split at e
  · rename_i h
    cases e
    exact ⟨x, y, qx.dp fr, qy.dp fr, h.1, h.2, k⟩
  · cases e
theorem r_cmpI {g : Int → Int → Bool} {f : PyData → PyData → Option Bool} (hf : ∀ x y z, f x y = some z → ∃ i j, x = .int i ∧ y = .int j ∧ z = g i j) : RTs X.K (rI0 fun i j => .bl (g i j)) f := fun x y z e F H b v u Q fr qx qy k => by
  obtain ⟨i, j, rfl, rfl, rfl⟩ := hf x y z e
  exact ⟨i, j, top_int qx, top_int qy, k⟩
theorem r_lt : RTs X.K (rI0 fun i j => .bl (decide (i < j))) pyLt := r_cmpI (g := fun i j => decide (i < j)) fun x y z e => by
  unfold pyLt at e
  split at e
  · cases e; exact ⟨_, _, rfl, rfl, rfl⟩
  · cases e
theorem r_le : RTs X.K (rI0 fun i j => .bl (decide (i ≤ j))) pyLe := r_cmpI (g := fun i j => decide (i ≤ j)) fun x y z e => by
  unfold pyLe at e
  split at e
  · cases e; exact ⟨_, _, rfl, rfl, rfl⟩
  · cases e
theorem r_gt : RTs X.K (rI0 fun i j => .bl (decide (j < i))) pyGt := r_cmpI (g := fun i j => decide (j < i)) fun x y z e => by
  unfold pyGt at e
  split at e
  · cases e; exact ⟨_, _, rfl, rfl, rfl⟩
  · cases e
theorem r_ge : RTs X.K (rI0 fun i j => .bl (decide (j ≤ i))) pyGe := r_cmpI (g := fun i j => decide (j ≤ i)) fun x y z e => by
  unfold pyGe at e
  split at e
  · cases e; exact ⟨_, _, rfl, rfl, rfl⟩
  · cases e
def rIsA : R2 := fun x y H Q => (y = .non ∧ Q (.bl (decide (x = .non))) H) ∨ rIsB x y H Q
def rIsNotA : R2 := fun x y H Q => (y = .non ∧ Q (.bl (!decide (x = .non))) H) ∨ rNotB x y H Q
theorem op_isA : OpR X (compareOp .Is) rIsA := op_isN.or op_isBl
theorem op_isnotA : OpR X (compareOp .IsNot) rIsNotA := op_notN.or op_notBl
theorem r_is : RTs X.K rIsA pyIs := fun x y z e F H b v u Q fr qx qy k => by
  unfold pyIs at e
  split at e
  · cases e
    exact .inl ⟨top_none qy, by rw [isNon_top qx]; exact k⟩
  · cases e
    exact .inr ⟨_, _, top_bool qx, top_bool qy, k⟩
  · cases e
theorem r_isnot : RTs X.K rIsNotA pyIsNot := fun x y z e F H b v u Q fr qx qy k => by
  unfold pyIsNot at e
  split at e
  · cases e
    exact .inl ⟨top_none qy, by rw [isNon_top qx]; exact k⟩
  · cases e
    exact .inr ⟨_, _, top_bool qx, top_bool qy, k⟩
  · cases e
end

/-! ### one operand -/
def dNeg (da : DE) : DE := fun sl B => (da sl B).bind fun p => match p.1 with
  | .int i => some (.int (-i), p.2)
  | _ => none
section
variable {X : Cx} {C : Fx} {a c : Expr} {da db : DE} {ta tb : DT} {pos : Pos} {rest : List Expr}
theorem e_neg (ha : PE X a (liftE X.K C da)) : PE X (.UnaryOp .USub a pos) (liftE X.K C (dNeg da)) :=
  imp_e (fun σ H Q ⟨sl, B, F, b, rr, B', R, e, k⟩ => by
    obtain ⟨⟨x, B1⟩, e1, e⟩ := bnd e
    split at e
    · rename_i i hi
      cases e
      refine ⟨sl, B, F, b, x, B1, R, e1, fun v H' F' b' R' S' q => ?_⟩
      have hi' : x = .int i := hi
      subst hi'
      cases q
      exact ⟨i, rfl, k _ H' F' b' R' S' (.int _)⟩
    · cases e) (pe_un un_neg ha)

/-! ### tests -/
def dAndT (t u : DT) : DT := fun sl B => (t sl B).bind fun p => if p.1 = true then u sl p.2 else some (false, p.2)
def dOrT (t u : DT) : DT := fun sl B => (t sl B).bind fun p => if p.1 = true then some (true, p.2) else u sl p.2
def dNotT (t : DT) : DT := fun sl B => (t sl B).map fun p => (!p.1, p.2)
def dTV (d : DE) : DT := fun sl B => (d sl B).bind fun p => match p.1 with
  | .bool k => some (k, p.2)
  | _ => none
theorem w_and1 (ha : PT X a (liftT X.K C ta)) : PW X (.BoolOp .And [a] pos) (liftT X.K C ta) := pw_and1 ha
theorem w_or1 (ha : PT X a (liftT X.K C ta)) : PW X (.BoolOp .Or [a] pos) (liftT X.K C ta) := pw_or1 ha
theorem w_and (ha : PT X a (liftT X.K C ta)) (hb : PW X (.BoolOp .And (c :: rest) pos) (liftT X.K C tb)) : PW X (.BoolOp .And (a :: c :: rest) pos) (liftT X.K C (dAndT ta tb)) :=
  imp_w (fun σ H Q ⟨sl, B, F, b, rr, B', R, e, k⟩ => by
    obtain ⟨⟨x, B1⟩, e1, e⟩ := bnd e
    refine ⟨sl, B, F, b, x, B1, R, e1, fun H1 F1 b1 R1 S1 => ?_⟩
    cases x with
    | true => exact iteT ⟨sl, B1, F1, b1, rr, B', R1, e, fun H2 F2 b2 R2 S2 => k H2 F2 b2 R2 (S1.trans S2)⟩
    | false =>
      cases e
      exact iteF (k H1 F1 b1 R1 S1)) (pw_and ha hb)
theorem w_or (ha : PT X a (liftT X.K C ta)) (hb : PW X (.BoolOp .Or (c :: rest) pos) (liftT X.K C tb)) : PW X (.BoolOp .Or (a :: c :: rest) pos) (liftT X.K C (dOrT ta tb)) :=
  imp_w (fun σ H Q ⟨sl, B, F, b, rr, B', R, e, k⟩ => by
    obtain ⟨⟨x, B1⟩, e1, e⟩ := bnd e
    refine ⟨sl, B, F, b, x, B1, R, e1, fun H1 F1 b1 R1 S1 => ?_⟩
    cases x with
    | false => exact iteF ⟨sl, B1, F1, b1, rr, B', R1, e, fun H2 F2 b2 R2 S2 => k H2 F2 b2 R2 (S1.trans S2)⟩
    | true =>
      cases e
      exact iteT (k H1 F1 b1 R1 S1)) (pw_or ha hb)
theorem t_not (ha : PT X a (liftT X.K C ta)) : PT X (.UnaryOp .Not a pos) (liftT X.K C (dNotT ta)) :=
  imp_t (fun σ H Q ⟨sl, B, F, b, rr, B', R, e, k⟩ => by
    obtain ⟨⟨x, B1⟩, e1, e⟩ := mpd e
    cases e
    exact ⟨sl, B, F, b, x, B1, R, e1, fun H1 F1 b1 R1 S1 => k H1 F1 b1 R1 S1⟩) (pt_not ha)
theorem t_val (h : PE X a (liftE X.K C da)) (he : ∀ whole, isTrue a X.env whole = (do let v ← whole; standAt a.pos; holding [v] (truthy v)) := by intro _; rfl) : PT X a (liftT X.K C (dTV da)) :=
  imp_t (fun σ H Q ⟨sl, B, F, b, rr, B', R, e, k⟩ => by
    obtain ⟨⟨x, B1⟩, e1, e⟩ := bnd e
    split at e
    · rename_i i hi
      cases e
      refine ⟨sl, B, F, b, x, B1, R, e1, fun v H' F' b' R' S' q => ?_⟩
      have hi' : x = .bool _ := hi
      subst hi'
      cases q
      exact ⟨_, rfl, k H' F' b' R' S'⟩
    · cases e) (pt_val h he)
/-- truth of any value -/
def truD : PyData → Option Bool
  | .none => some false
  | .bool b => some b
  | .int i => some (i != 0)
  | .str x => if x.length ≤ sizeLine then some ((x.length : Int) != 0) else none
  | .list xs => some (!xs.isEmpty)
  | .tuple xs => some (!xs.isEmpty)
  | .dict _ => none
def dTru (d : DE) : DT := fun sl B => (d sl B).bind fun p => (truD p.1).map fun k => (k, p.2)
theorem tru_top {K : Frg} {F H : Hp} {b : Bad} {v : V} {d : PyData} {k : Bool} (fr : Ext F H) (h : TopR K F H b v d) (e : truD d = some k) : TruV K v H k := by
  cases d with
  | none => rw [top_none h]; cases e; rfl
  | bool _ => rw [top_bool h]; cases e; rfl
  | int _ => rw [top_int h]; cases e; rfl
  | str x =>
    rw [top_str h]
    unfold truD at e
    simp only at e
    split at e
    · rename_i hz
      cases e
      exact ⟨hz, rfl⟩
    · cases e
  | list xs =>
    obtain ⟨a, vs, e1, h1, _, h2⟩ := h
    cases e
    rw [e1]
    refine .inl ⟨vs, SqL.of h1, ?_⟩
    cases h2 <;> rfl
  | tuple xs =>
    obtain ⟨a, vs, e1, h1, h2⟩ := top_tup fr h
    cases e
    rw [e1]
    refine .inr (.inl ⟨vs, h1, ?_⟩)
    cases h2 <;> rfl
  | dict _ => cases e
theorem t_tru (h : PE X a (liftO X.K C da)) (he : ∀ whole, isTrue a X.env whole = (do let v ← whole; standAt a.pos; holding [v] (truthy v)) := by intro _; rfl) : PT X a (liftT X.K C (dTru da)) :=
  imp_t (fun σ H Q ⟨sl, B, F, b, rr, B', R, e, k⟩ => by
    obtain ⟨⟨x, B1⟩, e1, e⟩ := bnd e
    obtain ⟨z, e2, e⟩ := mpd e
    cases e
    exact ⟨sl, B, F, b, x, B1, R, e1, fun v H' F' b' R' S' q => ⟨_, tru_top R'.fro q e2, k H' F' b' R' S'⟩⟩) (pt_truth h he)
/-! ### and, or, not as values -/
def dAndV (da db : DE) : DE := fun sl B => (da sl B).bind fun p => match p.1 with
  | .bool k => if k = true then db sl p.2 else some (.bool false, p.2)
  | _ => none
def dOrV (da db : DE) : DE := fun sl B => (da sl B).bind fun p => match p.1 with
  | .bool k => if k = true then some (.bool true, p.2) else db sl p.2
  | _ => none
def dNotV (da : DE) : DE := fun sl B => (da sl B).bind fun p => match p.1 with
  | .bool k => some (.bool (!k), p.2)
  | _ => none
theorem e_one {op} (h : PE X a (liftE X.K C da)) : PE X (.BoolOp op [a] pos) (liftE X.K C da) := pe_one h
theorem e_and (ha : PE X a (liftE X.K C da)) (hb : PE X (.BoolOp .And (c :: rest) pos) (liftE X.K C db)) : PE X (.BoolOp .And (a :: c :: rest) pos) (liftE X.K C (dAndV da db)) :=
  imp_e (fun σ H Q ⟨sl, B, F, b, rr, B', R, e, k⟩ => by
    obtain ⟨⟨x, B1⟩, e1, e⟩ := bnd e
    split at e
    · rename_i i hi
      refine ⟨sl, B, F, b, x, B1, R, e1, fun v H1 F1 b1 R1 S1 q => ?_⟩
      have hi' : x = .bool i := hi
      subst hi'
      cases q
      refine ⟨i, rfl, ?_⟩
      cases i with
      | true => exact iteT ⟨sl, B1, F1, b1, rr, B', R1, e, fun v H2 F2 b2 R2 S2 => k v H2 F2 b2 R2 (S1.trans S2)⟩
      | false =>
        cases e
        exact iteF (k _ H1 F1 b1 R1 S1 (.bl false))
    · cases e) (pe_and ha hb)
theorem e_or (ha : PE X a (liftE X.K C da)) (hb : PE X (.BoolOp .Or (c :: rest) pos) (liftE X.K C db)) : PE X (.BoolOp .Or (a :: c :: rest) pos) (liftE X.K C (dOrV da db)) :=
  imp_e (fun σ H Q ⟨sl, B, F, b, rr, B', R, e, k⟩ => by
    obtain ⟨⟨x, B1⟩, e1, e⟩ := bnd e
    split at e
    · rename_i i hi
      refine ⟨sl, B, F, b, x, B1, R, e1, fun v H1 F1 b1 R1 S1 q => ?_⟩
      have hi' : x = .bool i := hi
      subst hi'
      cases q
      refine ⟨i, rfl, ?_⟩
      cases i with
      | false => exact iteF ⟨sl, B1, F1, b1, rr, B', R1, e, fun v H2 F2 b2 R2 S2 => k v H2 F2 b2 R2 (S1.trans S2)⟩
      | true =>
        cases e
        exact iteT (k _ H1 F1 b1 R1 S1 (.bl true))
    · cases e) (pe_or ha hb)
theorem e_not (ha : PE X a (liftE X.K C da)) : PE X (.UnaryOp .Not a pos) (liftE X.K C (dNotV da)) :=
  imp_e (fun σ H Q ⟨sl, B, F, b, rr, B', R, e, k⟩ => by
    obtain ⟨⟨x, B1⟩, e1, e⟩ := bnd e
    split at e
    · rename_i i hi
      cases e
      refine ⟨sl, B, F, b, x, B1, R, e1, fun v H1 F1 b1 R1 S1 q => ?_⟩
      have hi' : x = .bool i := hi
      subst hi'
      cases q
      exact ⟨i, rfl, k _ H1 F1 b1 R1 S1 (.bl _)⟩
    · cases e) (pe_not ha)
/-! ### a if t else b -/
def dIf (t : DT) (da db : DE) : DE := fun sl B => (t sl B).bind fun p => if p.1 = true then da sl p.2 else db sl p.2
theorem e_if {t : Expr} (hc : PT X t (liftT X.K C ta)) (ha : PE X a (liftE X.K C da)) (hb : PE X c (liftE X.K C db)) : PE X (.IfExp t a c pos) (liftE X.K C (dIf ta da db)) :=
  imp_e (fun σ H Q ⟨sl, B, F, b, rr, B', R, e, k⟩ => by
    obtain ⟨⟨x, B1⟩, e1, e⟩ := bnd e
    refine ⟨sl, B, F, b, x, B1, R, e1, fun H1 F1 b1 R1 S1 => ?_⟩
    cases x with
    | true => exact iteT ⟨sl, B1, F1, b1, rr, B', R1, e, fun v H2 F2 b2 R2 S2 => k v H2 F2 b2 R2 (S1.trans S2)⟩
    | false => exact iteF ⟨sl, B1, F1, b1, rr, B', R1, e, fun v H2 F2 b2 R2 S2 => k v H2 F2 b2 R2 (S1.trans S2)⟩) (pe_ifExp hc ha hb)
end

/-! ### argument lists -/
def dNil : DL := fun _ B => some ([], B)
def dCons (d : DE) (ds : DL) : DL := fun sl B => (d sl B).bind fun p => (ds sl p.2).map fun q => (p.1 :: q.1, q.2)
def dNilA : DA := fun _ B => some ([], B)
def dConsA (d : DV) (ds : DA) : DA := fun sl B => (d sl B).bind fun p => (ds sl p.2).map fun q => (p.1 :: q.1, q.2)
section
variable {X : Cx} {C : Fx} {e : Expr} {es : List Expr} {d : DE} {ds : DL} {pos : Pos}
theorem d_nil : PA X [] (liftD X.K C dNil) := imp_a (fun σ H Q ⟨sl, B, F, b, rr, B', R, e, k⟩ => by
  cases e
  exact k [] H F b R Stp.refl .nil) pa_nil
theorem d_cons (h : PE X e (liftE X.K C d)) (hr : PA X es (liftD X.K C ds)) (hs : starEach (e :: es) X.env = (false, eval e X.env) :: starEach es X.env := by rfl) : PA X (e :: es) (liftD X.K C (dCons d ds)) :=
  imp_a (fun σ H Q ⟨sl, B, F, b, rr, B', R, e, k⟩ => by
    obtain ⟨⟨x, B1⟩, e1, e⟩ := bnd e
    obtain ⟨⟨xs, B2⟩, e2, e⟩ := mpd e
    cases e
    exact ⟨sl, B, F, b, x, B1, R, e1, fun v H1 F1 b1 R1 S1 q1 => ⟨sl, B1, F1, b1, xs, B2, R1, e2, fun vs H2 F2 b2 R2 S2 q2 => k (v :: vs) H2 F2 b2 R2 (S1.trans S2) (.cons (Rp.mono S2.ex q1) q2)⟩⟩) (pa_cons h hr hs)
theorem q_nil : PA X [] (liftQ X.K C dNil) := imp_a (fun σ H Q ⟨sl, B, F, b, rr, B', R, e, k⟩ => by
  cases e
  exact k [] H F b R Stp.refl .nil) pa_nil
theorem q_cons (h : PE X e (liftO X.K C d)) (hr : PA X es (liftQ X.K C ds)) (hs : starEach (e :: es) X.env = (false, eval e X.env) :: starEach es X.env := by rfl) : PA X (e :: es) (liftQ X.K C (dCons d ds)) :=
  imp_a (fun σ H Q ⟨sl, B, F, b, rr, B', R, e, k⟩ => by
    obtain ⟨⟨x, B1⟩, e1, e⟩ := bnd e
    obtain ⟨⟨xs, B2⟩, e2, e⟩ := mpd e
    cases e
    exact ⟨sl, B, F, b, x, B1, R, e1, fun v H1 F1 b1 R1 S1 q1 => ⟨sl, B1, F1, b1, xs, B2, R1, e2, fun vs H2 F2 b2 R2 S2 q2 => k (v :: vs) H2 F2 b2 R2 (S1.trans S2) (.cons (q1.mono S2) q2)⟩⟩) (pa_cons h hr hs)
theorem a_nil : PA X [] (liftA X.K C dNilA) := imp_a (fun σ H Q ⟨sl, B, F, b, rr, B', R, e, k⟩ => by
  cases e
  exact k [] H F b R Stp.refl .nil) pa_nil
theorem a_cons {d : DV} {ds : DA} (h : PE X e (liftV X.K C d)) (hr : PA X es (liftA X.K C ds)) (hs : starEach (e :: es) X.env = (false, eval e X.env) :: starEach es X.env := by rfl) : PA X (e :: es) (liftA X.K C (dConsA d ds)) :=
  imp_a (fun σ H Q ⟨sl, B, F, b, rr, B', R, e, k⟩ => by
    obtain ⟨⟨x, B1⟩, e1, e⟩ := bnd e
    obtain ⟨⟨xs, B2⟩, e2, e⟩ := mpd e
    cases e
    exact ⟨sl, B, F, b, x, B1, R, e1, fun v H1 F1 b1 R1 S1 q1 => ⟨sl, B1, F1, b1, xs, B2, R1, e2, fun vs H2 F2 b2 R2 S2 q2 => k (v :: vs) H2 F2 b2 R2 (S1.trans S2) (.cons (q1.mono S2) q2)⟩⟩) (pa_cons h hr hs)
/-! ### displays -/
def dTup (d : DL) : DE := fun sl B => (d sl B).bind fun p => if p.1.length ≤ sizeLine then some (.tuple p.1, p.2) else none
def dLst (d : DL) : DL := fun sl B => (d sl B).bind fun p => if p.1.length ≤ sizeLine then some p else none
theorem e_tup {x1} (h : PA X es (liftD X.K C ds)) : PE X (.Tuple es x1 pos) (liftE X.K C (dTup ds)) :=
  imp_e (fun σ H Q ⟨sl, B, F, b, rr, B', R, e, k⟩ => by
    obtain ⟨⟨xs, B1⟩, e1, e⟩ := bnd e
    simp only at e
    split at e
    · rename_i hz
      cases e
      refine ⟨sl, B, F, b, _, _, R, e1, fun vs H1 F1 b1 R1 S1 q1 => ⟨by rw [q1.length]; exact hz, fun p hp => ?_⟩⟩
      obtain ⟨R2, S2⟩ := (Al.one (o := .tup vs) hp).rel R1
      exact k _ _ _ _ R2 (S1.trans S2) (.tup (SqT.of upd_same) (Rps.mono S2.ex q1))
    · cases e) (pe_tup h)
theorem l_lst (h : PA X es (liftD X.K C ds)) : PE X (.List es pos) (liftL X.K C (dLst ds)) :=
  imp_e (fun σ H Q ⟨sl, B, F, b, rr, B', R, e, k⟩ => by
    obtain ⟨⟨xs, B1⟩, e1, e⟩ := bnd e
    simp only at e
    split at e
    · rename_i hz
      cases e
      refine ⟨sl, B, F, b, _, _, R, e1, fun vs H1 F1 b1 R1 S1 q1 => ⟨by rw [q1.length]; exact hz, fun p hp => ?_⟩⟩
      have h0 : H p = none := by
        cases z : H p with
        | none => rfl
        | some o => exact absurd hp (S1.tr p (by rw [z]; exact Option.some_ne_none _))
      exact k p vs _ _ _ (R1.new hp) (S1.trans (Stp.new hp)) h0 (not_in_F R1.fro hp) (R1.nbx hp) upd_same q1
    · cases e) (pe_lst h)
end

/-! ### items and slices -/
def pyIx : PyData → PyData → Option PyData
  | .list xs, .int i => atI xs i
  | .tuple xs, .int i => atI xs i
  | .str z, .int i => if z.length ≤ sizeLine then (atI z.cps.toList i).map fun c => .str ⟨#[c]⟩ else none
  | _, _ => none
theorem atI_rps {K : Frg} {F : Hp} {vs : List V} {ds : List PyData} {i : Int} {d : PyData} (r : Rps K F vs ds) (e : atI ds i = some d) : ∃ v, atI vs i = some v ∧ Rp K F v d := by
  unfold atI at e ⊢
  obtain ⟨j, e1, e2⟩ := bnd e
  obtain ⟨v, h1, h2⟩ := r.get e2
  refine ⟨v, ?_, h2⟩
  rw [r.length, e1]
  exact h1
def cutD (ds : List PyData) (lo hi : Option Int) : List PyData := (ds.drop (HT.sIx ds.length 0 lo)).take (HT.sIx ds.length ds.length hi - HT.sIx ds.length 0 lo)
theorem cut_rps {K : Frg} {F : Hp} {vs : List V} {ds : List PyData} (lo hi : Option Int) (r : Rps K F vs ds) : Rps K F (cutV vs lo hi) (cutD ds lo hi) := by
  unfold cutV cutD
  rw [r.length]
  exact Rps.take _ (Rps.drop _ r)
section
variable {X : Cx} {C : Fx} {a c e : Expr} {da db : DE} {pos p2 : Pos}
theorem r_ix : ROp X.K (rIx X.K) pyIx := fun x y z e F H b v u Q fr qx qy k => by
  unfold pyIx at e
  split at e
  · obtain ⟨p, vs, e1, h1, _, r1⟩ := qx
    obtain ⟨w, h2, r2⟩ := atI_rps r1 e
    exact .inl ⟨p, vs, _, w, e1, top_int qy, SqL.of h1, h2, k _ _ _ .refl r2⟩
  · obtain ⟨p, vs, e1, h1, r1⟩ := top_tup fr qx
    obtain ⟨w, h2, r2⟩ := atI_rps r1 e
    exact .inr (.inl ⟨p, vs, _, w, e1, top_int qy, h1, h2, k _ _ _ .refl r2⟩)
  · split at e
    · rename_i hz
      obtain ⟨cc, e1, e⟩ := mpd e
      cases e
      exact .inr (.inr ⟨_, _, cc, top_str qx, top_int qy, hz, e1, k _ _ _ .refl (.str _)⟩)
    · cases e
  · cases e
theorem e_ix (ha : PE X a (liftO X.K C da)) (hb : PE X c (liftO X.K C db)) (hs : PlainIx c := by exact fun _ _ => rfl) : PE X (.Subscript a c pos) (liftE X.K C (dOp pyIx da db)) :=
  imp_e (op_imp r_ix) (pe_ix ix_seq ha hb hs)
/-- a part of a slice -/
abbrev DP := Sl → Bx → Option (Option Int × Bx)
def liftP (K : Frg) (C : Fx) (d : DP) : TO := fun σ H Q => ∃ sl B F b r B', Rel K C sl B F b σ H ∧ d sl B = some (r, B') ∧ ∀ H' F' b', Rel K C sl B' F' b' σ H' → Stp F b H F' b' H' → Q r H'
def dNoP : DP := fun _ B => some (none, B)
def dPart (d : DE) : DP := fun sl B => (d sl B).bind fun p => match p.1 with
  | .int i => some (some i, p.2)
  | _ => none
theorem imp_o {e : Option Expr} {t t' : TO} (h : ∀ σ H Q, t' σ H Q → t σ H Q) (p : PO X e t) : PO X e t' := ⟨fun pins s σ H Q I w => p.run pins s σ H Q I (h σ H Q w)⟩
theorem p_none : PO X none (liftP X.K C dNoP) := imp_o (fun σ H Q ⟨sl, B, F, b, rr, B', R, e, k⟩ => by
  cases e
  exact k H F b R Stp.refl) po_none
theorem p_some (h : PE X e (liftE X.K C da)) : PO X (some e) (liftP X.K C (dPart da)) := imp_o (fun σ H Q ⟨sl, B, F, b, rr, B', R, e, k⟩ => by
  obtain ⟨⟨x, B1⟩, e1, e⟩ := bnd e
  split at e
  · rename_i i hi
    cases e
    refine ⟨sl, B, F, b, x, B1, R, e1, fun v H' F' b' R' S' q => ?_⟩
    have hi' : x = .int i := hi
    subst hi'
    cases q
    exact ⟨i, rfl, k H' F' b' R' S'⟩
  · cases e) (po_some h)
def cutStr (z : Str) (lo hi : Option Int) : Str := cutS z lo hi
def pySl : PyData → Option Int → Option Int → Option PyData
  | .list xs, lo, hi => some (.list (cutD xs lo hi))
  | .tuple xs, lo, hi => some (.tuple (cutD xs lo hi))
  | _, _, _ => none
def dSl (f : PyData → Option Int → Option Int → Option PyData) (d : DE) (l h : DP) : DE := fun sl B => (d sl B).bind fun p => (l sl p.2).bind fun q => (h sl q.2).bind fun r => (f p.1 q.1 r.1).map fun z => (z, r.2)
def rSlLA (K : Frg) : V → Option Int → Option Int → Hp → VK → Prop := fun x lo hi H Q => rSlL K x lo hi H Q ∨ rSlA K x lo hi H Q
theorem cutD_all {ds : List PyData} {lo hi : Option Int} (h : HT.sIx ds.length 0 lo = 0 ∧ HT.sIx ds.length ds.length hi = ds.length) : cutD ds lo hi = ds := by
  unfold cutD
  rw [h.1, h.2, Nat.sub_zero, List.drop_zero, List.take_length]
theorem e_sl {lo hi : Option Expr} {dl dh : DP} (ha : PE X a (liftO X.K C da)) (hl : PO X lo (liftP X.K C dl)) (hh : PO X hi (liftP X.K C dh)) : PE X (.Subscript a (.Slice lo hi none p2) pos) (liftE X.K C (dSl pySl da dl dh)) :=
  imp_e (fun σ H Q ⟨sl, B, F, b, rr, B', R, e, k⟩ => by
    obtain ⟨⟨x, B1⟩, e1, e⟩ := bnd e
    obtain ⟨⟨l, B2⟩, e2, e⟩ := bnd e
    obtain ⟨⟨h, B3⟩, e3, e⟩ := bnd e
    obtain ⟨z, e4, e⟩ := mpd e
    cases e
    refine ⟨sl, B, F, b, x, B1, R, e1, fun v H1 F1 b1 R1 S1 q1 => ⟨sl, B1, F1, b1, l, B2, R1, e2, fun H2 F2 b2 R2 S2 => ⟨sl, B2, F2, b2, h, B3, R2, e3, fun H3 F3 b3 R3 S3 => ?_⟩⟩⟩
    have S := (S1.trans S2).trans S3
    have q := q1.mono (S2.trans S3)
    have e4' : pySl x l h = some rr := e4
    show rSlL X.K v l h H3 Q ∨ rSlA X.K v l h H3 Q
    unfold pySl at e4'
    split at e4'
    · cases e4'
      obtain ⟨p, vs, g1, g2, _, g3⟩ := q
      refine .inl ⟨p, vs, g1, SqL.of g2, fun n hn => ?_⟩
      obtain ⟨R4, S4⟩ := (Al.one (o := .lst (cutV vs l h)) hn).rel R3
      exact k _ _ _ _ R4 (S.trans S4) (.lst upd_same (Rps.mono S4.ex (cut_rps _ _ g3)))
    · cases e4'
      obtain ⟨p, vs, g1, g2, g3⟩ := top_tup R3.fro q
      refine .inr ⟨p, vs, g1, g2, fun hz => ?_, fun hz n hn => ?_⟩
      · rw [g3.length] at hz
        rw [← g1]
        refine k v H3 F3 b3 R3 S ?_
        rw [cutD_all hz]
        exact q
      · obtain ⟨R4, S4⟩ := (Al.one (o := .tup (cutV vs l h)) hn).rel R3
        exact k _ _ _ _ R4 (S.trans S4) (.tup (SqT.of upd_same) (Rps.mono S4.ex (cut_rps _ _ g3)))
    · cases e4') (pe_slice (sl_list.or sl_tupA) ha hl hh)
end
end Dn

set_option Elab.async false
set_option linter.all false
set_option autoImplicit false
set_option maxRecDepth 100000
set_option maxHeartbeats 1000000
namespace Dn
open PySem PySem.Spec PyProof.Rows L2

/-! ### built-ins by values -/
def RCl (K : Frg) (r : List V → Hp → VK → Prop) (f : List PyData → Option PyData) : Prop := ∀ ds z, f ds = some z → ∀ (F H : Hp) (b : Bad) (vs : List V) (Q : VK), Ext F H → TopRs K F H b vs ds → (∀ w F' H', Al F H F' H' → Rp K F' w z → Q w H') → r vs H Q
/-- .. that give a new list -/
def RClL (K : Frg) (r : List V → Hp → VK → Prop) (f : List PyData → Option (List PyData)) : Prop := ∀ ds z, f ds = some z → ∀ (F H : Hp) (b : Bad) (vs : List V) (Q : VK), Ext F H → TopRs K F H b vs ds → (∀ p us, H p = none → Rps K F us z → Q (.ref p) (upd H p (.lst us))) → r vs H Q
def dCl (f : List PyData → Option PyData) (da : DL) : DE := fun sl B => (da sl B).bind fun p => (f p.1).map fun z => (z, p.2)
def dClL (f : List PyData → Option (List PyData)) (da : DL) : DL := fun sl B => (da sl B).bind fun p => (f p.1).map fun z => (z, p.2)
section
variable {X : Cx} {C : Fx} {e : Expr} {es : List Expr} {da : DL} {p pos : Pos} {x : Str}
theorem cl_imp {r : List V → Hp → VK → Prop} {f : List PyData → Option PyData} (hr : RCl X.K r f) : ∀ σ H Q, liftE X.K C (dCl f da) σ H Q → tCB r (liftQ X.K C da) σ H Q :=
  fun σ H Q ⟨sl, B, F, b, rr, B', R, e, k⟩ => by
    obtain ⟨⟨xs, B1⟩, e1, e⟩ := bnd e
    obtain ⟨z, e2, e⟩ := mpd e
    cases e
    refine ⟨sl, B, F, b, _, _, R, e1, fun vs H1 F1 b1 R1 S1 q1 => hr _ _ e2 F1 H1 b1 vs Q R1.fro q1 fun w F2 H2 al q => ?_⟩
    obtain ⟨R2, S2⟩ := al.rel R1
    exact k w H2 F2 b1 R2 (S1.trans S2) q
theorem clL_imp {r : List V → Hp → VK → Prop} {f : List PyData → Option (List PyData)} (hr : RClL X.K r f) : ∀ σ H Q, liftL X.K C (dClL f da) σ H Q → tCB r (liftQ X.K C da) σ H Q :=
  fun σ H Q ⟨sl, B, F, b, rr, B', R, e, k⟩ => by
    obtain ⟨⟨xs, B1⟩, e1, e⟩ := bnd e
    obtain ⟨z, e2, e⟩ := mpd e
    cases e
    refine ⟨sl, B, F, b, _, _, R, e1, fun vs H1 F1 b1 R1 S1 q1 => hr _ _ e2 F1 H1 b1 vs Q R1.fro q1 fun p us hp q => ?_⟩
    have h0 : H p = none := by
      cases z : H p with
      | none => rfl
      | some o => exact absurd hp (S1.tr p (by rw [z]; exact Option.some_ne_none _))
    exact k p us _ _ _ (R1.new hp) (S1.trans (Stp.new hp)) h0 (not_in_F R1.fro hp) (R1.nbx hp) upd_same q
theorem e_clB {id : String} {r : List V → Hp → VK → Prop} {f : List PyData → Option PyData} (hc : CallR X (.builtin id) r) (hr : RCl X.K r f) (hm : X.mg x = none) (hv : bootBuiltins x = some (.builtin id)) (ha : PA X (e :: es) (liftQ X.K C da)) (hg : Gl X x := by rfl) (hn : x ≠ "__name__" := by decide) (hdb : (x == ("__debug__" : Str)) = false := by decide)
    (he : starEach (e :: es) X.env = (false, eval e X.env) :: starEach es X.env := by rfl) (hpl : (backTo pos (starEach es X.env)).any (·.1) = false := by rfl) : PE X (.Call (.Name x p) (e :: es) [] pos) (liftE X.K C (dCl f da)) :=
  imp_e (cl_imp hr) (pe_callB hc hg hm hv ha hn hdb he hpl)
theorem e_clT {T : String} {r : List V → Hp → VK → Prop} {f : List PyData → Option PyData} (hc : CallR X (.type T) r) (hr : RCl X.K r f) (hm : X.mg x = none) (hv : bootBuiltins x = some (.type T)) (ha : PA X (e :: es) (liftQ X.K C da)) (hg : Gl X x := by rfl) (hn : x ≠ "__name__" := by decide) (hdb : (x == ("__debug__" : Str)) = false := by decide)
    (he : starEach (e :: es) X.env = (false, eval e X.env) :: starEach es X.env := by rfl) (hpl : (backTo pos (starEach es X.env)).any (·.1) = false := by rfl) : PE X (.Call (.Name x p) (e :: es) [] pos) (liftE X.K C (dCl f da)) :=
  imp_e (cl_imp hr) (pe_callTy hc hg hm hv ha hn hdb he hpl)
theorem l_clT {T : String} {r : List V → Hp → VK → Prop} {f : List PyData → Option (List PyData)} (hc : CallR X (.type T) r) (hr : RClL X.K r f) (hm : X.mg x = none) (hv : bootBuiltins x = some (.type T)) (ha : PA X (e :: es) (liftQ X.K C da)) (hg : Gl X x := by rfl) (hn : x ≠ "__name__" := by decide) (hdb : (x == ("__debug__" : Str)) = false := by decide)
    (he : starEach (e :: es) X.env = (false, eval e X.env) :: starEach es X.env := by rfl) (hpl : (backTo pos (starEach es X.env)).any (·.1) = false := by rfl) : PE X (.Call (.Name x p) (e :: es) [] pos) (liftL X.K C (dClL f da)) :=
  imp_e (clL_imp hr) (pe_callTy hc hg hm hv ha hn hdb he hpl)
theorem l_clB {T : String} {r : List V → Hp → VK → Prop} {f : List PyData → Option (List PyData)} (hc : CallR X (.builtin T) r) (hr : RClL X.K r f) (hm : X.mg x = none) (hv : bootBuiltins x = some (.builtin T)) (ha : PA X (e :: es) (liftQ X.K C da)) (hg : Gl X x := by rfl) (hn : x ≠ "__name__" := by decide) (hdb : (x == ("__debug__" : Str)) = false := by decide)
    (he : starEach (e :: es) X.env = (false, eval e X.env) :: starEach es X.env := by rfl) (hpl : (backTo pos (starEach es X.env)).any (·.1) = false := by rfl) : PE X (.Call (.Name x p) (e :: es) [] pos) (liftL X.K C (dClL f da)) :=
  imp_e (clL_imp hr) (pe_callB hc hg hm hv ha hn hdb he hpl)
end
theorem tops1 {K : Frg} {F H : Hp} {b : Bad} {vs : List V} {d : PyData} (h : TopRs K F H b vs [d]) : ∃ v, vs = [v] ∧ TopR K F H b v d := by
  cases h with
  | cons h1 h2 => cases h2; exact ⟨_, rfl, h1⟩
theorem tops2 {K : Frg} {F H : Hp} {b : Bad} {vs : List V} {d e : PyData} (h : TopRs K F H b vs [d, e]) : ∃ v u, vs = [v, u] ∧ TopR K F H b v d ∧ TopR K F H b u e := by
  cases h with
  | cons h1 h2 =>
    cases h2 with
    | cons h2 h3 => cases h3; exact ⟨_, _, rfl, h1, h2⟩
def pyLen : List PyData → Option PyData
  | [.list xs] => some (.int (xs.length : Int))
  | [.tuple xs] => some (.int (xs.length : Int))
  | [.str x] => if x.length ≤ sizeLine then some (.int (x.length : Int)) else none
  | _ => none
def pyAbs : List PyData → Option PyData
  | [.int i] => some (.int (if i < 0 then -i else i))
  | _ => none
def pyMin2 : List PyData → Option PyData
  | [.int i, .int j] => some (.int (if j < i then j else i))
  | _ => none
def pyMax2 : List PyData → Option PyData
  | [.int i, .int j] => some (.int (if j > i then j else i))
  | _ => none
def pyInt : List PyData → Option PyData
  | [.int i] => some (.int i)
  | [.bool k] => some (.int (if k then 1 else 0))
  | _ => none
def pyTuple : List PyData → Option PyData
  | [.list xs] => some (.tuple xs)
  | [.tuple xs] => some (.tuple xs)
  | _ => none
def pyList : List PyData → Option (List PyData)
  | [.list xs] => some xs
  | [.tuple xs] => some xs
  | _ => none
def intsOf : List PyData → Option (List Int)
  | [] => some []
  | .int i :: r => (intsOf r).map (i :: ·)
  | _ => none
def bolsOf : List PyData → Option (List Bool)
  | [] => some []
  | .bool i :: r => (bolsOf r).map (i :: ·)
  | _ => none
theorem intsOf_eq : ∀ {ds : List PyData} {ns : List Int}, intsOf ds = some ns → ds = ns.map PyData.int
  | [], _, h => by cases h; rfl
  | .int i :: r, _, h => by
    obtain ⟨ms, h1, h2⟩ := mpd h
    cases h2
    rw [intsOf_eq h1]; rfl
  | .none :: _, _, h => by cases h
  | .bool _ :: _, _, h => by cases h
  | .str _ :: _, _, h => by cases h
  | .list _ :: _, _, h => by cases h
  | .tuple _ :: _, _, h => by cases h
  | .dict _ :: _, _, h => by cases h
theorem bolsOf_eq : ∀ {ds : List PyData} {ns : List Bool}, bolsOf ds = some ns → ds = ns.map PyData.bool
  | [], _, h => by cases h; rfl
  | .bool i :: r, _, h => by
    obtain ⟨ms, h1, h2⟩ := mpd h
    cases h2
    rw [bolsOf_eq h1]; rfl
  | .none :: _, _, h => by cases h
  | .int _ :: _, _, h => by cases h
  | .str _ :: _, _, h => by cases h
  | .list _ :: _, _, h => by cases h
  | .tuple _ :: _, _, h => by cases h
  | .dict _ :: _, _, h => by cases h
theorem intsOf_map (ns : List Int) : intsOf (ns.map PyData.int) = some ns := by
  induction ns with
  | nil => rfl
  | cons n r ih => simp [intsOf, ih]
theorem bolsOf_map (ns : List Bool) : bolsOf (ns.map PyData.bool) = some ns := by
  induction ns with
  | nil => rfl
  | cons n r ih => simp [bolsOf, ih]
def pySum : List PyData → Option PyData
  | [.list xs] => (intsOf xs).map fun ns => .int ns.sum
  | _ => none
def pyAll : List PyData → Option PyData
  | [.list xs] => (bolsOf xs).map fun ns => .bool (ns.all id)
  | _ => none
def pyAny : List PyData → Option PyData
  | [.list xs] => (bolsOf xs).map fun ns => .bool (ns.any id)
  | _ => none
section
variable {X : Cx}
theorem r_len : RCl X.K (fun xs H Q => ∃ x n, xs = [x] ∧ LenV X.K x H n ∧ Q (.int n) H) pyLen := fun ds z e F H b vs Q fr q k => by
  unfold pyLen at e
  split at e
  · cases e
    obtain ⟨v, rfl, p, us, rfl, h1, _, h2⟩ := tops1 q
    refine ⟨_, _, rfl, .inl ⟨us, SqL.of h1, rfl⟩, ?_⟩
    rw [h2.length]
    exact k _ _ _ .refl (.int _)
  · cases e
    obtain ⟨v, rfl, h⟩ := tops1 q
    obtain ⟨p, us, rfl, h1, h2⟩ := top_tup fr h
    refine ⟨_, _, rfl, .inr ⟨us, h1, rfl⟩, ?_⟩
    rw [h2.length]
    exact k _ _ _ .refl (.int _)
  · split at e
    · rename_i hz
      cases e
      obtain ⟨v, rfl, h⟩ := tops1 q
      rw [top_str h]
      exact ⟨_, _, rfl, ⟨hz, rfl⟩, k _ _ _ .refl (.int _)⟩
    · cases e
  · cases e
theorem r_abs : RCl X.K (fun xs H Q => ∃ i, xs = [.int i] ∧ Q (.int (if i < 0 then -i else i)) H) pyAbs := fun ds z e F H b vs Q fr q k => by
  unfold pyAbs at e
  split at e
  · cases e
    obtain ⟨v, rfl, h⟩ := tops1 q
    rw [top_int h]
    exact ⟨_, rfl, k _ _ _ .refl (.int _)⟩
  · cases e
theorem r_min2 : RCl X.K (fun xs H Q => ∃ i j, xs = [.int i, .int j] ∧ Q (.int (if j < i then j else i)) H) pyMin2 := fun ds z e F H b vs Q fr q k => by
  unfold pyMin2 at e
  split at e
  · cases e
    obtain ⟨v, u, rfl, h, h'⟩ := tops2 q
    rw [top_int h, top_int h']
    exact ⟨_, _, rfl, k _ _ _ .refl (.int _)⟩
  · cases e
theorem r_max2 : RCl X.K (fun xs H Q => ∃ i j, xs = [.int i, .int j] ∧ Q (.int (if j > i then j else i)) H) pyMax2 := fun ds z e F H b vs Q fr q k => by
  unfold pyMax2 at e
  split at e
  · cases e
    obtain ⟨v, u, rfl, h, h'⟩ := tops2 q
    rw [top_int h, top_int h']
    exact ⟨_, _, rfl, k _ _ _ .refl (.int _)⟩
  · cases e
theorem r_int : RCl X.K (fun xs H Q => (∃ i, xs = [.int i] ∧ Q (.int i) H) ∨ ∃ k, xs = [.bl k] ∧ Q (.int (if k then 1 else 0)) H) pyInt := fun ds z e F H b vs Q fr q k => by
  unfold pyInt at e
  split at e
  · cases e
    obtain ⟨v, rfl, h⟩ := tops1 q
    rw [top_int h]
    exact .inl ⟨_, rfl, k _ _ _ .refl (.int _)⟩
  · cases e
    obtain ⟨v, rfl, h⟩ := tops1 q
    rw [top_bool h]
    exact .inr ⟨_, rfl, k _ _ _ .refl (.int _)⟩
  · cases e
theorem r_tuple : RCl X.K (fun xs H Q => ∃ p ys, xs = [.ref p] ∧ ((SqL X.K H p ys ∧ ∀ l, H l = none → Q (.ref l) (upd H l (.tup ys))) ∨ (SqT X.K H p ys ∧ Q (.ref p) H))) pyTuple := fun ds z e F H b vs Q fr q k => by
  unfold pyTuple at e
  split at e
  · cases e
    obtain ⟨v, rfl, p, us, rfl, h1, _, h2⟩ := tops1 q
    exact ⟨p, us, rfl, .inl ⟨SqL.of h1, fun l hl => k _ _ _ (.one hl) (.tup (SqT.of upd_same) (Rps.mono (Ext.new (not_in_F fr hl)) h2))⟩⟩
  · cases e
    obtain ⟨v, rfl, h⟩ := tops1 q
    obtain ⟨p, us, rfl, h1, h2⟩ := top_tup fr h
    exact ⟨p, us, rfl, .inr ⟨h1, k _ _ _ .refl h⟩⟩
  · cases e
theorem r_list : RClL X.K (fun xs H Q => ∃ p ys, xs = [.ref p] ∧ (SqL X.K H p ys ∨ SqT X.K H p ys) ∧ ∀ l, H l = none → Q (.ref l) (upd H l (.lst ys))) pyList := fun ds z e F H b vs Q fr q k => by
  unfold pyList at e
  split at e
  · cases e
    obtain ⟨v, rfl, p, us, rfl, h1, _, h2⟩ := tops1 q
    exact ⟨p, us, rfl, .inl (SqL.of h1), fun l hl => k _ _ hl h2⟩
  · cases e
    obtain ⟨v, rfl, h⟩ := tops1 q
    obtain ⟨p, us, rfl, h1, h2⟩ := top_tup fr h
    exact ⟨p, us, rfl, .inr h1, fun l hl => k _ _ hl h2⟩
  · cases e
theorem r_sum : RCl X.K (rSum X.K) pySum := fun ds z e F H b vs Q fr q k => by
  unfold pySum at e
  split at e
  · obtain ⟨ns, e1, e⟩ := mpd e
    cases e
    have e1 := intsOf_eq e1
    subst e1
    obtain ⟨v, rfl, p, us, rfl, h1, _, h2⟩ := tops1 q
    have e2 := h2.ints
    subst e2
    exact ⟨p, ns, rfl, SqL.of h1, k _ _ _ .refl (.int _)⟩
  · cases e
theorem r_all : RCl X.K (rAll X.K) pyAll := fun ds z e F H b vs Q fr q k => by
  unfold pyAll at e
  split at e
  · obtain ⟨ns, e1, e⟩ := mpd e
    cases e
    have e1 := bolsOf_eq e1
    subst e1
    obtain ⟨v, rfl, p, us, rfl, h1, _, h2⟩ := tops1 q
    have e2 := h2.bls
    subst e2
    exact ⟨p, ns, rfl, SqL.of h1, k _ _ _ .refl (.bl _)⟩
  · cases e
theorem r_any : RCl X.K (rAny X.K) pyAny := fun ds z e F H b vs Q fr q k => by
  unfold pyAny at e
  split at e
  · obtain ⟨ns, e1, e⟩ := mpd e
    cases e
    have e1 := bolsOf_eq e1
    subst e1
    obtain ⟨v, rfl, p, us, rfl, h1, _, h2⟩ := tops1 q
    have e2 := h2.bls
    subst e2
    exact ⟨p, ns, rfl, SqL.of h1, k _ _ _ .refl (.bl _)⟩
  · cases e
end

/-! ### isinstance -/
def tyName : PyData → String
  | .none => "NoneType"
  | .bool _ => "bool"
  | .int _ => "int"
  | .str _ => "str"
  | .list _ => "list"
  | .tuple _ => "tuple"
  | .dict _ => "dict"
def isTy (T : String) (d : PyData) : Bool := tyName d == T || (T == "int" && tyName d == "bool")
def dIsi (T : String) (da : DE) : DE := fun sl B => (da sl B).bind fun p => some (.bool (isTy T p.1), p.2)
theorem kitB_all (T : String) (hT : T = "int" ∨ T = "bool" ∨ T = "str" ∨ T = "list" ∨ T = "tuple") (d : PyData) : kitB (tyName d) T = some (isTy T d) := by
  have key : ∀ n, n = "NoneType" ∨ n = "bool" ∨ n = "int" ∨ n = "str" ∨ n = "list" ∨ n = "tuple" ∨ n = "dict" → kitB n T = some (n == T || (T == "int" && n == "bool")) := by
    intro n hn
    rcases hT with rfl | rfl | rfl | rfl | rfl <;> rcases hn with rfl | rfl | rfl | rfl | rfl | rfl | rfl <;> decide +kernel
  apply key
  cases d <;> simp [tyName]
theorem tyX_top {K : Frg} {F H : Hp} {b : Bad} {v : V} {d : PyData} (fr : Ext F H) (h : TopR K F H b v d) : TyX K H v (.type (tyName d)) := by
  cases d with
  | none => rw [top_none h]; exact .base .non
  | bool x => rw [top_bool h]; exact .base (.bl x)
  | int i => rw [top_int h]; exact .base (.int i)
  | str x => rw [top_str h]; exact .base (.str x)
  | list xs =>
    obtain ⟨a, vs, rfl, h1, _⟩ := h
    exact .base (.lst h1)
  | tuple xs =>
    obtain ⟨a, vs, rfl, h1, _⟩ := top_tup fr h
    rcases h1 with (h1 | ⟨o, h1⟩) | ⟨o, its, n, h1, h2, _⟩
    · exact .base (.tup h1)
    · exact .fTuple h1
    · exact .kTuple h1 h2
  | dict _ =>
    have h' : Rp K F v (.dict _) := h
    cases h'
section
variable {X : Cx} {C : Fx} {e : Expr} {da : DE} {p p2 pos : Pos} {T : Str}
theorem e_isi {t : String} (hT : t = "int" ∨ t = "bool" ∨ t = "str" ∨ t = "list" ∨ t = "tuple") (hm : X.mg "isinstance" = none) (ht : X.mg T = none) (hb : bootBuiltins T = some (.type t)) (h : PE X e (liftO X.K C da)) (hg : Gl X "isinstance" := by rfl) (hgt : Gl X T := by rfl)
    (hnT : T ≠ "__name__" := by decide) (hdT : (T == ("__debug__" : Str)) = false := by decide)
    (hs : starEach (e :: [Expr.Name T p2]) X.env = (false, eval e X.env) :: starEach [Expr.Name T p2] X.env := by rfl) (hs2 : starEach [Expr.Name T p2] X.env = (false, eval (Expr.Name T p2) X.env) :: starEach [] X.env := by rfl)
    (hpl : (backTo pos (starEach [Expr.Name T p2] X.env)).any (·.1) = false := by rfl) : PE X (.Call (.Name "isinstance" p) [e, .Name T p2] [] pos) (liftE X.K C (dIsi t da)) :=
  imp_e (fun σ H Q ⟨sl, B, F, b, rr, B', R, e, k⟩ => by
    obtain ⟨⟨x, B1⟩, e1, e⟩ := bnd e
    cases e
    refine ⟨sl, B, F, b, x, _, R, e1, fun v H1 F1 b1 R1 S1 q => ?_⟩
    exact ⟨v, .ty t, .type (tyName x), .type t, isTy t x, rfl, .ty t, tyX_top R1.fro q, kit_ty (kitB_all t hT x), k _ _ _ _ R1 S1 (.bl _)⟩)
    (pe_callB (t := tCons (liftO X.K C da) (tCons (tC (.ty t)) tNil)) call_isi hg hm PyProof.Rows.boot_isinstance (pa_cons h (pa_cons (pe_bltn hgt ht hb rfl hnT hdT) pa_nil hs2) hs) (by decide) (by decide) hs hpl)
end
end Dn

set_option Elab.async false
set_option linter.all false
set_option autoImplicit false
set_option maxRecDepth 100000
set_option maxHeartbeats 1000000
namespace Dn
open PySem PySem.Spec PyProof.Rows L2

/-! ### slots -/
section
variable {K : Frg} {C : Fx} {sl : Sl} {B B' : Bx} {F F' H H' : Hp} {b b' : Bad} {σ : L2.St} {v : V} {i : Nat} {s : Sv}
theorem Rel.put (r : Rel K C sl B F b σ H) (h : SvR K F H b v s) (nd : ∀ xs, s ≠ .own xs) : Rel K C (sl.set i (some s)) B F b (σ.set i (some v)) H where
  fro := r.fro
  len := by rw [List.length_set, List.length_set]; exact r.len
  slt := fun j t e => by
    by_cases z : i = j
    · subst z
      by_cases hl : i < sl.length
      · rw [List.getElem?_set_self hl] at e
        cases e
        exact ⟨v, List.getElem?_set_self (by rw [← r.len]; exact hl), h⟩
      · rw [List.getElem?_eq_none (by simpa using hl)] at e; cases e
    · rw [List.getElem?_set_ne z] at e
      obtain ⟨u, h1, h2⟩ := r.slt j t e
      exact ⟨u, by rw [List.getElem?_set_ne z]; exact h1, h2⟩
  dis := fun j l xs ys a e1 e2 e3 e4 => by
    have z1 : i ≠ j := fun z => by
      subst z
      by_cases hl : i < sl.length
      · rw [List.getElem?_set_self hl] at e1; cases e1; exact nd _ rfl
      · rw [List.getElem?_eq_none (by simpa using hl)] at e1; cases e1
    have z2 : i ≠ l := fun z => by
      subst z
      by_cases hl : i < sl.length
      · rw [List.getElem?_set_self hl] at e2; cases e2; exact nd _ rfl
      · rw [List.getElem?_eq_none (by simpa using hl)] at e2; cases e2
    rw [List.getElem?_set_ne z1] at e1 e3
    rw [List.getElem?_set_ne z2] at e2 e4
    exact r.dis j l xs ys a e1 e2 e3 e4
  own0 := fun j xs a e1 e3 => by
    have z1 : i ≠ j := fun z => by
      subst z
      by_cases hl : i < sl.length
      · rw [List.getElem?_set_self hl] at e1; cases e1; exact nd _ rfl
      · rw [List.getElem?_eq_none (by simpa using hl)] at e1; cases e1
    rw [List.getElem?_set_ne z1] at e1 e3
    exact r.own0 j xs a e1 e3
  bx := r.bx
  e1 := r.e1
  e2 := r.e2
  e3 := r.e3
  e4 := r.e4
  e5 := r.e5
/-- a new list for the slot -/
theorem Rel.putO {a : Addr} {vs : List V} {xs : List PyData} (r : Rel K C sl B F b σ H) (h1 : H a = some (.lst vs)) (h2 : Rps K F vs xs) (h3 : F a = none) (h4 : ¬ inb b a) (h5 : C.H0 a = none)
    (h6 : ∀ (j : Nat) (ys : List PyData), sl[j]? = some (some (.own ys)) → σ[j]? ≠ some (some (.ref a))) : Rel K C (sl.set i (some (.own xs))) B F b (σ.set i (some (.ref a))) H where
  fro := r.fro
  len := by rw [List.length_set, List.length_set]; exact r.len
  slt := fun j t e => by
    by_cases z : i = j
    · subst z
      by_cases hl : i < sl.length
      · rw [List.getElem?_set_self hl] at e
        cases e
        exact ⟨_, List.getElem?_set_self (by rw [← r.len]; exact hl), a, vs, rfl, h1, h2, h3, h4⟩
      · rw [List.getElem?_eq_none (by simpa using hl)] at e; cases e
    · rw [List.getElem?_set_ne z] at e
      obtain ⟨u, h1, h2⟩ := r.slt j t e
      exact ⟨u, by rw [List.getElem?_set_ne z]; exact h1, h2⟩
  dis := fun j l ys zs c e1 e2 e3 e4 => by
    by_cases z1 : i = j
    · by_cases z2 : i = l
      · rw [← z1, ← z2]
      · exfalso
        subst z1
        rw [List.getElem?_set_ne z2] at e2 e4
        by_cases hl : i < σ.length
        · rw [List.getElem?_set_self hl] at e3
          cases e3
          exact h6 l zs e2 e4
        · rw [List.getElem?_eq_none (by simpa using hl)] at e3; cases e3
    · rw [List.getElem?_set_ne z1] at e1 e3
      by_cases z2 : i = l
      · exfalso
        subst z2
        by_cases hl : i < σ.length
        · rw [List.getElem?_set_self hl] at e4
          cases e4
          exact h6 j ys e1 e3
        · rw [List.getElem?_eq_none (by simpa using hl)] at e4; cases e4
      · rw [List.getElem?_set_ne z2] at e2 e4
        exact r.dis j l ys zs c e1 e2 e3 e4
  own0 := fun j ys c e1 e3 => by
    by_cases z1 : i = j
    · subst z1
      by_cases hl : i < σ.length
      · rw [List.getElem?_set_self hl] at e3
        cases e3
        exact h5
      · rw [List.getElem?_eq_none (by simpa using hl)] at e3; cases e3
    · rw [List.getElem?_set_ne z1] at e1 e3
      exact r.own0 j ys c e1 e3
  bx := r.bx
  e1 := r.e1
  e2 := r.e2
  e3 := r.e3
  e4 := r.e4
  e5 := r.e5
/-- an own list is changed -/
theorem Rel.chg {a : Addr} {vs : List V} {xs ys : List PyData} (r : Rel K C sl B F b σ H) (e : sl[i]? = some (some (.own xs))) (ea : σ[i]? = some (some (.ref a))) (h2 : Rps K F vs ys) : Rel K C (sl.set i (some (.own ys))) B F b σ (upd H a (.lst vs)) := by
  obtain ⟨v, ev, a', us, e1, g1, g2, g3, g4⟩ := r.slt i _ e
  rw [ea] at ev
  cases ev
  cases e1
  have hl : i < sl.length := by
    rcases Nat.lt_or_ge i sl.length with z | z
    · exact z
    · rw [List.getElem?_eq_none z] at e; cases e
  have h0 := r.own0 i xs a e ea
  refine ⟨fun c o hc => ?_, by rw [List.length_set]; exact r.len, fun j t e' => ?_, fun j l ys zs c e1 e2 e3 e4 => ?_, fun j ys c e1 e3 => ?_, ⟨fun p hp => ?_, r.bx.liv⟩, r.e1, r.e2, fun c o hc hn => ?_, r.e4, r.e5⟩
  · rw [upd_ne (fun z => by subst z; rw [g3] at hc; cases hc)]
    exact r.fro c o hc
  · by_cases z : i = j
    · subst z
      rw [List.getElem?_set_self hl] at e'
      cases e'
      exact ⟨_, ea, a, vs, rfl, upd_same, h2, g3, g4⟩
    · rw [List.getElem?_set_ne z] at e'
      obtain ⟨u, k1, k2⟩ := r.slt j t e'
      refine ⟨u, k1, ?_⟩
      cases t with
      | dat d => exact k2
      | own ws =>
        obtain ⟨c, w, q1, q2, q3, q4, q5⟩ := k2
        have ne : c ≠ a := fun z' => by
          subst z' q1
          exact z (r.dis i j _ _ _ e e' ea k1)
        exact ⟨c, w, q1, by rw [upd_ne ne]; exact q2, q3, q4, q5⟩
      | box => exact k2
      | cells => exact k2
      | scr ns => exact k2
  · have f1 : ∃ w, sl[j]? = some (some (.own w)) := by
      by_cases z : i = j
      · subst z; exact ⟨_, e⟩
      · rw [List.getElem?_set_ne z] at e1; exact ⟨_, e1⟩
    have f2 : ∃ w, sl[l]? = some (some (.own w)) := by
      by_cases z : i = l
      · subst z; exact ⟨_, e⟩
      · rw [List.getElem?_set_ne z] at e2; exact ⟨_, e2⟩
    obtain ⟨_, f1⟩ := f1
    obtain ⟨_, f2⟩ := f2
    exact r.dis j l _ _ c f1 f2 e3 e4
  · have f1 : ∃ w, sl[j]? = some (some (.own w)) := by
      by_cases z : i = j
      · subst z; exact ⟨_, e⟩
      · rw [List.getElem?_set_ne z] at e1; exact ⟨_, e1⟩
    obtain ⟨_, f1⟩ := f1
    exact r.own0 j _ c f1 e3
  · obtain ⟨k1, k2, k3, k4, k5⟩ := r.bx.at_ p hp
    exact ⟨by rw [upd_ne (fun z => g4 ⟨p, hp, .inl z.symm⟩)]; exact k1, by rw [upd_ne (fun z => g4 ⟨p, hp, .inr z.symm⟩)]; exact k2, k3, k4, k5⟩
  · rw [upd_ne (fun z => by subst z; rw [h0] at hc; cases hc)]
    exact r.e3 c o hc hn
/-- a list that no slot holds yet is changed -/
theorem Rel.tmp {a : Addr} {o : HO} (r : Rel K C sl B F b σ H) (g3 : F a = none) (g4 : ¬ inb b a) (h0 : C.H0 a = none) (h6 : ∀ (j : Nat) (ys : List PyData), sl[j]? = some (some (.own ys)) → σ[j]? ≠ some (some (.ref a))) : Rel K C sl B F b σ (upd H a o) := by
  refine ⟨fun c o hc => ?_, r.len, fun j t e' => ?_, r.dis, r.own0, ⟨fun p hp => ?_, r.bx.liv⟩, r.e1, r.e2, fun c o hc hn => ?_, r.e4, r.e5⟩
  · rw [upd_ne (fun z => by subst z; rw [g3] at hc; cases hc)]
    exact r.fro c o hc
  · obtain ⟨u, k1, k2⟩ := r.slt j t e'
    refine ⟨u, k1, ?_⟩
    cases t with
    | dat d => exact k2
    | own ws =>
      obtain ⟨c, w, q1, q2, q3, q4, q5⟩ := k2
      have ne : c ≠ a := fun z' => by
        subst z' q1
        exact h6 j _ e' k1
      exact ⟨c, w, q1, by rw [upd_ne ne]; exact q2, q3, q4, q5⟩
    | box => exact k2
    | cells => exact k2
    | scr ns => exact k2
  · obtain ⟨k1, k2, k3, k4, k5⟩ := r.bx.at_ p hp
    exact ⟨by rw [upd_ne (fun z => g4 ⟨p, hp, .inl z.symm⟩)]; exact k1, by rw [upd_ne (fun z => g4 ⟨p, hp, .inr z.symm⟩)]; exact k2, k3, k4, k5⟩
  · rw [upd_ne (fun z => by subst z; rw [h0] at hc; cases hc)]
    exact r.e3 c o hc hn
/-- the own lists' places are taken -/
theorem Rel.ownT (r : Rel K C sl B F b σ H) {j : Nat} {ys : List PyData} {a : Addr} (e : sl[j]? = some (some (.own ys))) (h : H a = none) : σ[j]? ≠ some (some (.ref a)) := fun z => by
  obtain ⟨v, ev, a', us, e1, g1, _⟩ := r.slt j _ e
  rw [z] at ev
  cases ev
  cases e1
  rw [h] at g1; cases g1
/-- a slot's own list is frozen -/
theorem Rel.frz {xs : List PyData} (r : Rel K C sl B F b σ H) (e : sl[i]? = some (some (.own xs))) : ∃ F', Ext F F' ∧ Rel K C (sl.set i (some (.dat (.list xs)))) B F' b σ H := by
  obtain ⟨v, ev, a, us, e1, g1, g2, g3, g4⟩ := r.slt i _ e
  subst e1
  have hl : i < sl.length := by
    rcases Nat.lt_or_ge i sl.length with z | z
    · exact z
    · rw [List.getElem?_eq_none z] at e; cases e
  have ex : Ext F (upd F a (.lst us)) := Ext.new g3
  have h0 := r.own0 i xs a e ev
  refine ⟨upd F a (.lst us), ex, ⟨fun c o hc => ?_, by rw [List.length_set]; exact r.len, fun j t e' => ?_, fun j l ys zs c e1 e2 e3 e4 => ?_, fun j ys c e1 e3 => ?_, ⟨fun p hp => ?_, r.bx.liv⟩, r.e1.trans ex, fun c h1 h2 => ?_, r.e3, r.e4, r.e5⟩⟩
  · by_cases z : c = a
    · subst z; rw [upd_same] at hc; rw [g1]; exact hc
    · rw [upd_ne z] at hc; exact r.fro c o hc
  · by_cases z : i = j
    · subst z
      rw [List.getElem?_set_self hl] at e'
      cases e'
      exact ⟨_, ev, .lst upd_same (Rps.mono ex g2)⟩
    · rw [List.getElem?_set_ne z] at e'
      obtain ⟨u, k1, k2⟩ := r.slt j t e'
      refine ⟨u, k1, ?_⟩
      cases t with
      | dat d => exact Rp.mono ex k2
      | own ws =>
        obtain ⟨c, w, q1, q2, q3, q4, q5⟩ := k2
        have ne : c ≠ a := fun z' => by
          subst z' q1
          exact z (r.dis i j _ _ _ e e' ev k1)
        exact ⟨c, w, q1, q2, Rps.mono ex q3, by rw [upd_ne ne]; exact q4, q5⟩
      | box => exact k2
      | cells => exact k2
      | scr ns =>
        obtain ⟨c, q1, q2⟩ := k2
        exact ⟨c, q1, ex.sqL q2⟩
  · have z1 : i ≠ j := fun z => by
      subst z
      rw [List.getElem?_set_self hl] at e1; cases e1
    have z2 : i ≠ l := fun z => by
      subst z
      rw [List.getElem?_set_self hl] at e2; cases e2
    rw [List.getElem?_set_ne z1] at e1
    rw [List.getElem?_set_ne z2] at e2
    exact r.dis j l _ _ c e1 e2 e3 e4
  · have z1 : i ≠ j := fun z => by
      subst z
      rw [List.getElem?_set_self hl] at e1; cases e1
    rw [List.getElem?_set_ne z1] at e1
    exact r.own0 j _ c e1 e3
  · obtain ⟨k1, k2, k3, k4, k5⟩ := r.bx.at_ p hp
    exact ⟨k1, k2, by rw [upd_ne (fun z => g4 ⟨p, hp, .inl z.symm⟩)]; exact k3, by rw [upd_ne (fun z => g4 ⟨p, hp, .inr z.symm⟩)]; exact k4, k5⟩
  · rw [upd_ne (fun z => by subst z; exact h1 h0)]
    exact r.e2 c h1 h2
/-- the slots of a block forgotten -/
def wipeD (sl : Sl) : List Nat → Sl
  | [] => sl
  | v :: vs => (wipeD sl vs).set v none
theorem Rel.un1 (r : Rel K C sl B F b σ H) (j : Nat) : Rel K C (sl.set j none) B F b (σ.set j none) H := by
  have sub : ∀ (l : Nat) (t : Sv), (sl.set j none)[l]? = some (some t) → l ≠ j ∧ sl[l]? = some (some t) := fun l t e => by
    by_cases z : j = l
    · subst z
      by_cases hl : j < sl.length
      · rw [List.getElem?_set_self hl] at e; cases e
      · rw [List.getElem?_eq_none (by simpa using hl)] at e; cases e
    · rw [List.getElem?_set_ne z] at e
      exact ⟨fun q => z q.symm, e⟩
  refine ⟨r.fro, by rw [List.length_set, List.length_set]; exact r.len, fun l t e => ?_, fun l m xs ys a e1 e2 e3 e4 => ?_, fun l xs a e1 e3 => ?_, r.bx, r.e1, r.e2, r.e3, r.e4, r.e5⟩
  · obtain ⟨h1, h2⟩ := sub l t e
    obtain ⟨v, h3, h4⟩ := r.slt l t h2
    exact ⟨v, by rw [List.getElem?_set_ne (Ne.symm h1)]; exact h3, h4⟩
  · obtain ⟨h1, h2⟩ := sub _ _ e1
    obtain ⟨h3, h4⟩ := sub _ _ e2
    rw [List.getElem?_set_ne (Ne.symm h1)] at e3
    rw [List.getElem?_set_ne (Ne.symm h3)] at e4
    exact r.dis _ _ _ _ _ h2 h4 e3 e4
  · obtain ⟨h1, h2⟩ := sub _ _ e1
    rw [List.getElem?_set_ne (Ne.symm h1)] at e3
    exact r.own0 _ _ _ h2 e3
theorem Rel.wipe (r : Rel K C sl B F b σ H) : ∀ vs : List Nat, Rel K C (wipeD sl vs) B F b (L2.wipe σ vs) H
  | [] => r
  | v :: vs => (r.wipe vs).un1 v
end

/-! ### targets -/
abbrev DG := PyData → Sl → Option Sl
abbrev DGs := List PyData → Sl → Option Sl
def liftG (K : Frg) (C : Fx) (d : DG) (ws : List Nat) : TG := fun v σ H Q => ∃ sl B F b x sl', Rel K C sl B F b σ H ∧ Rp K F v x ∧ d x sl = some sl' ∧ ∀ σ', Rel K C sl' B F b σ' H → (∀ vs : List Nat, (∀ j ∈ ws, j ∈ vs) → L2.wipe σ' vs = L2.wipe σ vs) → Q σ' H
def liftGs (K : Frg) (C : Fx) (d : DGs) (ws : List Nat) : TGs := fun v σ H Q => ∃ sl B F b x sl', Rel K C sl B F b σ H ∧ Rps K F v x ∧ d x sl = some sl' ∧ ∀ σ', Rel K C sl' B F b σ' H → (∀ vs : List Nat, (∀ j ∈ ws, j ∈ vs) → L2.wipe σ' vs = L2.wipe σ vs) → Q σ' H
def gN (i : Nat) : DG := fun x sl => some (sl.set i (some (.dat x)))
def gNil' : DGs := fun xs sl => match xs with
  | [] => some sl
  | _ => none
def gCons' (d : DG) (ds : DGs) : DGs := fun xs sl => match xs with
  | x :: r => (d x sl).bind fun s1 => ds r s1
  | [] => none
def gT (d : DGs) : DG := fun x sl => match x with
  | .tuple xs => d xs sl
  | _ => none
theorem wipe_set {σ : L2.St} {i : Nat} {x : Option V} : ∀ {vs : List Nat}, i ∈ vs → L2.wipe (σ.set i x) vs = L2.wipe σ vs
  | v :: vs, h => by
    show (L2.wipe (σ.set i x) vs).set v none = (L2.wipe σ vs).set v none
    by_cases hi : i ∈ vs
    · rw [wipe_set hi]
    · have e : v = i := by
        rcases List.mem_cons.mp h with z | z
        · exact z.symm
        · exact absurd z hi
      subst e
      have comm : ∀ (us : List Nat), v ∉ us → L2.wipe (σ.set v x) us = (L2.wipe σ us).set v x := by
        intro us
        induction us with
        | nil => intro _; rfl
        | cons u us ih =>
          intro hn
          show (L2.wipe (σ.set v x) us).set u none = ((L2.wipe σ us).set u none).set v x
          rw [ih (fun z => hn (List.mem_cons_of_mem _ z)), List.set_comm _ _ (fun z => hn (by rw [z]; exact List.mem_cons_self))]
      rw [comm vs hi, List.set_set]
  | [], h => by cases h
section
variable {X : Cx} {C : Fx} {pos : Pos}
theorem g_name (i : Nat) {x : Str} (hN : X.N.Nodup) (hi : X.N[i]? = some x := by rfl) (hx : Loc X.env.scope x := by first | exact .inl rfl | exact .inr rfl) (hf : X.fn x = true ∨ X.env.scope.names.lookup x = some .local := by first | exact .inl rfl | exact .inr rfl) : PG X (.Name x pos) (liftG X.K C (gN i) [i]) :=
  imp_g (fun v σ H Q ⟨sl, B, F, b, x, sl', R, q, e, k⟩ => by
    cases e
    exact k _ (R.put (s := .dat _) q (fun _ z => nomatch z)) (fun vs hv => wipe_set (hv i (by simp)))) (pg_name hN hi hx hf)
theorem gs_nil : PGs X [] (liftGs X.K C gNil' []) := ⟨fun pins s σ H vs us Q I r ⟨sl, B, F, b, x, sl', R, q, e, k⟩ => by
  refine pgs_nil.run pins s σ H vs us Q I r ?_
  unfold gNil' at e
  split at e
  · cases e
    cases q
    exact ⟨rfl, k σ R fun _ _ => rfl⟩
  · cases e⟩
theorem gs_cons {e : Expr} {es : List Expr} {d : DG} {ds : DGs} {ws us : List Nat} (h1 : PG X e (liftG X.K C d ws)) (h2 : PGs X es (liftGs X.K C ds us))
    (hs : (assignEach (e :: es) X.env).map (·.2) = assign e X.env :: (assignEach es X.env).map (·.2) := by rfl) : PGs X (e :: es) (liftGs X.K C (gCons' d ds) (ws ++ us)) := ⟨fun pins s σ H vs us' Q I r ⟨sl, B, F, b, x, sl', R, q, e, k⟩ => by
  refine (pgs_cons h1 h2 hs).run pins s σ H vs us' Q I r ?_
  unfold gCons' at e
  split at e
  · rename_i y ys
    obtain ⟨s1, e1, e2⟩ := bnd e
    cases q with
    | cons q1 q2 =>
      refine ⟨_, _, rfl, sl, B, F, b, y, s1, R, q1, e1, fun σ1 R1 w1 => ⟨s1, B, F, b, ys, sl', R1, q2, e2, fun σ2 R2 w2 => k σ2 R2 fun vs hv => ?_⟩⟩
      rw [w2 vs (fun j hj => hv j (List.mem_append_right _ hj)), w1 vs (fun j hj => hv j (List.mem_append_left _ hj))]
  · cases e⟩
theorem g_tup {es : List Expr} {kk : Nat} {d : DGs} {ws : List Nat} (hc : X.calm = true) (h : PGs X es (liftGs X.K C d ws)) (hd : ∀ xs sl sl', d xs sl = some sl' → xs.length = es.length)
    (hn : (assignEach es X.env).length = es.length := by rfl) (hst : (assignEach es X.env).findIdx? (·.1) = none := by rfl) : PG X (.Tuple es kk pos) (liftG X.K C (gT d) ws) :=
  imp_g (fun v σ H Q ⟨sl, B, F, b, x, sl', R, q, e, k⟩ => by
    unfold gT at e
    split at e
    · cases q with
      | tup h1 h2 => exact ⟨_, _, rfl, R.fro.sqT h1, by rw [h2.length]; exact hd _ _ _ e, sl, B, F, b, _, sl', R, h2, e, k⟩
    · cases e) (pg_tup hc h hn hst)
end
theorem glen_nil : ∀ xs sl sl', gNil' xs sl = some sl' → xs.length = 0 := fun xs sl sl' e => by
  unfold gNil' at e
  split at e
  · rfl
  · cases e
theorem glen_cons {d : DG} {ds : DGs} {n : Nat} (h : ∀ xs sl sl', ds xs sl = some sl' → xs.length = n) : ∀ xs sl sl', gCons' d ds xs sl = some sl' → xs.length = n + 1 := fun xs sl sl' e => by
  unfold gCons' at e
  split at e
  · obtain ⟨s1, e1, e2⟩ := bnd e
    rw [List.length_cons, h _ _ _ e2]
  · cases e

/-! ### what is walked -/
def Wk (K : Frg) (F : Hp) (P : Hp → Prop) (J : It) (xs : List PyData) : Prop := ∀ (i : Nat) (F' H' : Hp), Ext F F' → Ext F' H' → P H' →
  (∀ x, xs[i]? = some x → J.go i H' ∧ ∀ v H2, J.yld i H' v H2 → ∃ F2, Al F' H' F2 H2 ∧ Rp K F2 v x) ∧ (i = xs.length → J.stop i H')
def Keep (b : Bad) (H H' : Hp) : Prop := ∀ a o, H a = some o → ¬ inb b a → H' a = some o
def liftI (K : Frg) (C : Fx) (d : DL) : TI := fun σ H Rr => ∃ sl B F b xs B', Rel K C sl B F b σ H ∧ d sl B = some (xs, B') ∧ ∀ J H' F' b', Rel K C sl B' F' b' σ H' → Stp F b H F' b' H' → Wk K F' (fun _ => True) J xs → Rr J H'
def liftIo (K : Frg) (C : Fx) (d : DL) : TI := fun σ H Rr => ∃ sl B F b xs B', Rel K C sl B F b σ H ∧ d sl B = some (xs, B') ∧ ∀ J H' F' b', Rel K C sl B' F' b' σ H' → Stp F b H F' b' H' → Wk K F' (Keep b' H') J xs → Rr J H'
theorem imp_i {X : Cx} {tg e : Expr} {t t' : TI} (h : ∀ σ H Q, t' σ H Q → t σ H Q) (p : PI X tg e t) : PI X tg e t' := ⟨fun pins s σ H Q I w => p.run pins s σ H Q I (h σ H Q w)⟩
theorem io_of {X : Cx} {C : Fx} {tg e : Expr} {d : DL} (p : PI X tg e (liftI X.K C d)) : PI X tg e (liftIo X.K C d) :=
  imp_i (fun σ H Q ⟨sl, B, F, b, xs, B', R, e, k⟩ => ⟨sl, B, F, b, xs, B', R, e, fun J H' F' b' R' S' w => k J H' F' b' R' S' fun i F2 H2 h1 h2 _ => w i F2 H2 h1 h2 trivial⟩) p
theorem wk_list {K : Frg} {F H : Hp} {b : Bad} {a : Addr} {vs : List V} {xs : List PyData} {P : Hp → Prop} (hp : ∀ F' H', Ext F F' → Ext F' H' → P H' → H' a = some (.lst vs)) (r : Rps K F vs xs) : Wk K F P (Itl K a) xs := fun i F' H' h1 h2 h3 => by
  have hs : SqL K H' a vs := SqL.of (hp F' H' h1 h2 h3)
  refine ⟨fun x hx => ?_, fun hx => ⟨vs, hs, ?_⟩⟩
  · obtain ⟨v, e1, e2⟩ := r.get hx
    refine ⟨⟨vs, v, hs, e1⟩, fun u H2 ⟨y1, y2⟩ => ?_⟩
    subst y1
    have := y2 vs hs
    rw [e1] at this
    cases this
    exact ⟨F', .refl, Rp.mono h1 e2⟩
  · rw [hx, r.length]; exact Nat.le_refl _
theorem wk_tup {K : Frg} {F H : Hp} {b : Bad} {a : Addr} {vs : List V} {xs : List PyData} {P : Hp → Prop} (hp : SqT K F a vs) (r : Rps K F vs xs) : Wk K F P (Itt K a) xs := fun i F' H' h1 h2 h3 => by
  have hs : SqT K H' a vs := h2.sqT (h1.sqT hp)
  refine ⟨fun x hx => ?_, fun hx => ⟨vs, hs, ?_⟩⟩
  · obtain ⟨v, e1, e2⟩ := r.get hx
    refine ⟨⟨vs, v, hs, e1⟩, fun u H2 ⟨y1, y2⟩ => ?_⟩
    subst y1
    have := y2 vs hs
    rw [e1] at this
    cases this
    exact ⟨F', .refl, Rp.mono h1 e2⟩
  · rw [hx, r.length]; exact Nat.le_refl _
def dSeq' (d : DE) : DL := fun sl B => (d sl B).bind fun p => match p.1 with
  | .list xs => some (xs, p.2)
  | .tuple xs => some (xs, p.2)
  | _ => none
def rngD (lo : Int) (n : Nat) : List PyData := (List.range n).map fun (i : Nat) => PyData.int (lo + (i : Int))
def dRng1 (d : DE) : DL := fun sl B => (d sl B).bind fun p => match p.1 with
  | .int j => if -(2 ^ 62) ≤ j ∧ j < 2 ^ 62 then some (rngD 0 j.toNat, p.2) else none
  | _ => none
def dRng2 (d d2 : DE) : DL := fun sl B => (d sl B).bind fun p => (d2 sl p.2).bind fun q => match p.1, q.1 with
  | .int i, .int j => if -(2 ^ 62) ≤ i ∧ i < 2 ^ 62 ∧ -(2 ^ 62) ≤ j ∧ j < 2 ^ 62 then some (rngD i (j - i).toNat, q.2) else none
  | _, _ => none
theorem wk_rng {K : Frg} {F : Hp} {P : Hp → Prop} (lo : Int) (n : Nat) : Wk K F P (Itr lo n) (rngD lo n) := fun i F' H' h1 h2 h3 => by
  unfold rngD
  refine ⟨fun x hx => ?_, fun hx => ?_⟩
  · rw [List.getElem?_map] at hx
    obtain ⟨j, e1, e2⟩ := mpd hx
    have hi : i < n := by
      rcases Nat.lt_or_ge i n with z | z
      · exact z
      · rw [List.getElem?_eq_none (by simpa using z)] at e1; cases e1
    rw [List.getElem?_range hi] at e1
    cases e1
    refine ⟨hi, fun u H2 ⟨y1, y2⟩ => ?_⟩
    subst y1 y2
    rw [← e2]
    exact ⟨F', .refl, .int _⟩
  · rw [List.length_map, List.length_range] at hx
    exact Nat.le_of_eq hx.symm
section
variable {X : Cx} {C : Fx} {tg l a c : Expr} {d d2 : DE} {p pos : Pos}
theorem i_seq (h : PE X l (liftE X.K C d)) : PI X tg l (liftI X.K C (dSeq' d)) := ⟨fun pins s σ H Rr I ⟨sl, B, F, b, xs, B', R, e, k⟩ => by
  obtain ⟨⟨x, B1⟩, e1, e⟩ := bnd e
  split at e
  · rename_i ys hx
    cases e
    have hx : x = .list _ := hx
    subst hx
    refine (pi_list h).run pins s σ H Rr I ⟨sl, B, F, b, _, _, R, e1, fun v H' F' b' R' S' q => ?_⟩
    cases q with
    | lst h1 h2 => exact ⟨_, rfl, ⟨_, SqL.of (R'.fro _ _ h1)⟩, k _ H' F' b' R' S' (wk_list (H := H') (b := b') (fun F2 H2 g1 g2 _ => g2 _ _ (g1 _ _ h1)) h2)⟩
  · rename_i ys hx
    cases e
    have hx : x = .tuple _ := hx
    subst hx
    refine (pi_tup h).run pins s σ H Rr I ⟨sl, B, F, b, _, _, R, e1, fun v H' F' b' R' S' q => ?_⟩
    cases q with
    | tup h1 h2 => exact ⟨_, rfl, ⟨_, R'.fro.sqT h1⟩, k _ H' F' b' R' S' (wk_tup (H := H') (b := b') h1 h2)⟩
  · cases e⟩
theorem i_seqo (h : PE X l (liftO X.K C d)) : PI X tg l (liftIo X.K C (dSeq' d)) := ⟨fun pins s σ H Rr I ⟨sl, B, F, b, xs, B', R, e, k⟩ => by
  obtain ⟨⟨x, B1⟩, e1, e⟩ := bnd e
  split at e
  · rename_i ys hx
    cases e
    have hx : x = .list _ := hx
    subst hx
    refine (pi_list h).run pins s σ H Rr I ⟨sl, B, F, b, _, _, R, e1, fun v H' F' b' R' S' q => ?_⟩
    obtain ⟨a, vs, rfl, h1, h2, h3⟩ := q
    exact ⟨_, rfl, ⟨_, SqL.of h1⟩, k _ H' F' b' R' S' (wk_list (H := H') (b := b') (fun F2 H2 g1 g2 g3 => g3 _ _ h1 h2) h3)⟩
  · rename_i ys hx
    cases e
    have hx : x = .tuple _ := hx
    subst hx
    refine (pi_tup h).run pins s σ H Rr I ⟨sl, B, F, b, _, _, R, e1, fun v H' F' b' R' S' q => ?_⟩
    have q' : Rp X.K F' v (.tuple _) := q
    cases q' with
    | tup h1 h2 => exact ⟨_, rfl, ⟨_, R'.fro.sqT h1⟩, k _ H' F' b' R' S' (wk_tup (H := H') (b := b') h1 h2)⟩
  · cases e⟩
theorem i_rng1 (hm : X.mg "range" = none) (h : PE X a (liftO X.K C d)) (hg : Gl X "range" := by rfl) (hs : starEach [a] X.env = [(false, eval a X.env)] := by rfl) (hs' : starEach (a :: []) X.env = (false, eval a X.env) :: starEach [] X.env := by rfl) : PI X tg (.Call (.Name "range" p) [a] [] pos) (liftI X.K C (dRng1 d)) :=
  imp_i (fun σ H Q ⟨sl, B, F, b, xs, B', R, e, k⟩ => by
    obtain ⟨⟨x, B1⟩, e1, e⟩ := bnd e
    split at e
    · rename_i j hx
      split at e
      · rename_i hb
        cases e
        have hx : x = .int j := hx
        subst hx
        refine ⟨sl, B, F, b, _, _, R, e1, fun v H' F' b' R' S' q => ?_⟩
        have hv := top_int q
        subst hv
        exact ⟨j, rfl, hb.1, hb.2, k _ H' F' b' R' S' (wk_rng 0 _)⟩
      · cases e
    · cases e) (pi_range1 (ta := tCons (liftO X.K C d) tNil) hg hm (pa_cons h pa_nil hs') hs)
theorem i_rng2 (hm : X.mg "range" = none) (h : PE X a (liftO X.K C d)) (h2 : PE X c (liftO X.K C d2)) (hg : Gl X "range" := by rfl) (hs : starEach [a, c] X.env = [(false, eval a X.env), (false, eval c X.env)] := by rfl) (hs2 : starEach [c] X.env = [(false, eval c X.env)] := by rfl)
    (hs' : starEach (a :: [c]) X.env = (false, eval a X.env) :: starEach [c] X.env := by rfl) (hs2' : starEach (c :: []) X.env = (false, eval c X.env) :: starEach [] X.env := by rfl) : PI X tg (.Call (.Name "range" p) [a, c] [] pos) (liftI X.K C (dRng2 d d2)) :=
  imp_i (fun σ H Q ⟨sl, B, F, b, xs, B', R, e, k⟩ => by
    obtain ⟨⟨x, B1⟩, e1, e⟩ := bnd e
    obtain ⟨⟨y, B2⟩, e2, e⟩ := bnd e
    split at e
    · rename_i i j hx hy
      split at e
      · rename_i hb
        cases e
        have hx : x = .int i := hx
        have hy : y = .int j := hy
        subst hx hy
        refine ⟨sl, B, F, b, _, _, R, e1, fun v H' F' b' R' S' q => ⟨sl, _, F', b', _, _, R', e2, fun v2 H2 F2 b2 R2 S2 q2 => ?_⟩⟩
        have hv := top_int q
        subst hv
        have hv := top_int q2
        subst hv
        exact ⟨i, j, rfl, hb, k _ H2 F2 b2 R2 (S'.trans S2) (wk_rng _ _)⟩
      · cases e
    · cases e) (pi_range2 (ta := tCons (liftO X.K C d) (tCons (liftO X.K C d2) tNil)) hg hm (pa_cons h (pa_cons h2 pa_nil hs2') hs') hs hs2)
end
end Dn

set_option Elab.async false
set_option linter.all false
set_option autoImplicit false
set_option maxRecDepth 100000
set_option maxHeartbeats 1000000
namespace Dn
open PySem PySem.Spec PyProof.Rows L2

/-! ### comprehensions -/
def cmpGo (tg : DG) (t : DT) (e : DE) (sw : Sl) : List PyData → Bx → Option (List PyData × Bx)
  | [], B => some ([], B)
  | x :: xs, B => (tg x sw).bind fun s2 => (t s2 B).bind fun q => if q.1 = true then (e s2 q.2).bind fun y => (cmpGo tg t e sw xs y.2).map fun r => (y.1 :: r.1, r.2) else cmpGo tg t e sw xs q.2
def dCmp (it : DL) (tg : DG) (t : DT) (e : DE) (vs : List Nat) : DL := fun sl B => (it sl B).bind fun p => if p.1.length < sizeLine then cmpGo tg t e (wipeD sl vs) p.1 p.2 else none
def dYes : DT := fun _ B => some (true, B)
section
variable {X : Cx} {C : Fx}
theorem ts_nil : PTs X [] (liftT X.K C dYes) := imp_ts (fun σ H Q ⟨sl, B, F, b, rr, B', R, e, k⟩ => by
  cases e
  exact k H F b R Stp.refl) pts_nil
theorem ts_one {c : Expr} {t : DT} (h : PT X c (liftT X.K C t)) : PTs X [c] (liftT X.K C t) := pts_one h
theorem lc_imp {K : Frg} {it : DL} {tg : DG} {t : DT} {e : DE} {vs ws : List Nat} (hw : ∀ j ∈ ws, j ∈ vs) : ∀ σ H Q, liftL K C (dCmp it tg t e vs) σ H Q → tLc (liftIo K C it) (liftG K C tg ws) (liftT K C t) (liftE K C e) vs σ H Q :=
  fun σ H Q ⟨sl, B, F, b, rr, B', R, he, k⟩ => by
    obtain ⟨⟨xs, B1⟩, e1, he⟩ := bnd he
    simp only at he
    split at he
    case isFalse => cases he
    case isTrue hz =>
    refine ⟨sl, B, F, b, xs, B1, R, e1, fun J H1 F1 b1 R1 S1 wk D hD => ?_⟩
    have d0 : C.H0 D = none := R1.t0 hD
    have dF : F1 D = none := not_in_F R1.fro hD
    have db : ¬ inb b1 D := R1.nbx hD
    have own : ∀ (j : Nat) (ys : List PyData), sl[j]? = some (some (.own ys)) → σ[j]? ≠ some (some (.ref D)) := fun j ys e => R1.ownT e hD
    refine ⟨fun i m H' => m = xs.length - i ∧ i ≤ xs.length ∧ ∃ F' b' B2 acc da rest, Rel K C sl B2 F' b' σ H' ∧ Stp F1 b1 H1 F' b' H' ∧ H' D = some (.lst acc) ∧ F' D = none ∧ ¬ inb b' D ∧ Rps K F' acc da ∧ acc.length ≤ i ∧ cmpGo tg t e (wipeD sl vs) (xs.drop i) B2 = some (rest, B') ∧ da ++ rest = rr,
      ⟨_, rfl, Nat.zero_le _, F1, b1, B1, [], [], rr, R1.tmp dF db d0 own, Stp.new hD, upd_same, dF, db, .nil, Nat.zero_le _, he, rfl⟩, ?_⟩
    rintro i m H' ⟨rfl, hi, F', b', B2, acc, da, rest, R2, S2, h1, h2, h3, h4, h5, h6, h7⟩
    have kp : Keep b1 H1 H' := fun a o g n => S2.pr a o g n
    obtain ⟨w1, w2⟩ := wk i F' H' S2.ex R2.fro kp
    by_cases hlt : i < xs.length
    · have hx : xs[i]? = some xs[i] := List.getElem?_eq_getElem hlt
      obtain ⟨go, yl⟩ := w1 _ hx
      rw [List.drop_eq_getElem_cons hlt] at h6
      unfold cmpGo at h6
      obtain ⟨s2, g1, h6⟩ := bnd h6
      obtain ⟨⟨tb, B3⟩, g2, h6⟩ := bnd h6
      refine .inr ⟨go, fun H'' => ∃ F' b' B2 acc da rest, Rel K C sl B2 F' b' σ H'' ∧ Stp F1 b1 H1 F' b' H'' ∧ H'' D = some (.lst acc) ∧ F' D = none ∧ ¬ inb b' D ∧ Rps K F' acc da ∧ acc.length ≤ i + 1 ∧ cmpGo tg t e (wipeD sl vs) (xs.drop (i + 1)) B2 = some (rest, B') ∧ da ++ rest = rr,
        fun H'' hn => ⟨xs.length - (i + 1), by omega, rfl, hlt, hn⟩, fun v H2 y => ?_⟩
      obtain ⟨F2, al, rv⟩ := yl v H2 y
      obtain ⟨R3, S3⟩ := al.rel R2
      have D2 : H2 D = some (.lst acc) := S3.pr D _ h1 h3
      have F2D : F2 D = none := S3.ko D (by rw [h1]; exact Option.some_ne_none _) h2
      refine ⟨wipeD sl vs, B2, F2, b', xs[i], s2, R3.wipe vs, rv, g1, fun σ2 R4 wq => ⟨by rw [wq vs hw]; exact (by
        have : ∀ (us : List Nat) (τ : L2.St), (∀ u ∈ us, u ∈ vs) → True := fun _ _ _ => trivial
        exact wipe_wipe σ vs), s2, B2, F2, b', tb, B3, R4, g2, fun H3 F3 b3 R5 S5 => ?_⟩⟩
      have D3 : H3 D = some (.lst acc) := S5.pr D _ D2 h3
      have nb3 : ¬ inb b3 D := fun z => by
        rcases S5.nb D z with q | q
        · exact h3 q
        · rw [D2] at q; cases q
      have F3D : F3 D = none := S5.ko D (by rw [D2]; exact Option.some_ne_none _) F2D
      cases tb with
      | false =>
        refine iteF ⟨F3, b3, B3, acc, da, rest, R3.step S5 R5.fro R5.bx, S2.trans (S3.trans S5), D3, F3D, nb3, Rps.mono (S3.ex.trans S5.ex) h4, by omega, ?_, h7⟩
        exact h6
      | true =>
        have h6 : (e s2 B3).bind (fun y => (cmpGo tg t e (wipeD sl vs) (xs.drop (i + 1)) y.2).map fun r => (y.1 :: r.1, r.2)) = some (rest, B') := h6
        obtain ⟨⟨y, B4⟩, g3, h6⟩ := bnd h6
        obtain ⟨⟨rs, B5⟩, g4, h6⟩ := mpd h6
        refine iteT ⟨s2, B3, F3, b3, y, B4, R5, g3, fun u H4 F4 b4 R6 S6 q6 => ?_⟩
        have D4 : H4 D = some (.lst acc) := S6.pr D _ D3 nb3
        have nb4 : ¬ inb b4 D := fun z => by
          rcases S6.nb D z with q | q
          · exact nb3 q
          · rw [D3] at q; cases q
        have F4D : F4 D = none := S6.ko D (by rw [D3]; exact Option.some_ne_none _) F3D
        refine ⟨acc, D4, Nat.lt_of_le_of_lt h5 (Nat.lt_of_lt_of_le hlt (Nat.le_of_lt hz)), F4, b4, B4, acc ++ [u], da ++ [y], rs, ?_, ?_, upd_same, F4D, nb4, Rps.append (Rps.mono (S3.ex.trans (S5.ex.trans S6.ex)) h4) (.one q6), ?_, ?_, ?_⟩
        · have R7 : Rel K C sl B4 F4 b4 σ H4 := R3.step (S5.trans S6) R6.fro R6.bx
          exact R7.tmp F4D nb4 d0 own
        · have S7 := S2.trans (S3.trans (S5.trans S6))
          exact ⟨S7.ex, fun a o g n => by
            rw [upd_ne (ne_of_none g hD)]
            exact S7.pr a o g n, S7.ko, S7.bb, S7.nb, fun a g => by
            rw [upd_ne (fun z => by subst z; exact g hD)]
            exact S7.tr a g⟩
        · rw [List.length_append]; show acc.length + 1 ≤ i + 1; omega
        · injection h6 with q1 q2
          rw [← q2]; exact g4
        · injection h6 with q1 q2
          rw [← h7, ← q1, List.append_assoc]; rfl
    · have e0 : i = xs.length := by omega
      subst e0
      refine .inl ⟨w2 rfl, ?_⟩
      rw [List.drop_length] at h6
      cases h6
      rw [List.append_nil] at h7
      subst h7
      have hD0 : H D = none := by
        cases z : H D with
        | none => rfl
        | some o => exact absurd hD (S1.tr D (by rw [z]; exact Option.some_ne_none _))
      exact k D acc H' F' b' R2 (S1.trans S2) hD0 h2 h3 h1 h4
where
  wipe_wipe (σ : L2.St) : ∀ (vs : List Nat), L2.wipe (L2.wipe σ vs) vs = L2.wipe σ vs := fun vs => by
    have key : ∀ (us : List Nat) (τ : L2.St), (∀ u ∈ us, u < τ.length → τ[u]? = some none) → L2.wipe τ us = τ := by
      intro us
      induction us with
      | nil => intro _ _; rfl
      | cons u us ih =>
        intro τ h
        show (L2.wipe τ us).set u none = τ
        rw [ih τ (fun w hw => h w (List.mem_cons_of_mem _ hw))]
        apply List.ext_getElem?
        intro j
        by_cases z : u = j
        · subst z
          by_cases hl : u < τ.length
          · rw [List.getElem?_set_self hl, h u List.mem_cons_self hl]
          · rw [List.getElem?_eq_none (by simpa using hl), List.getElem?_eq_none (by simpa using hl)]
        · rw [List.getElem?_set_ne z]
    refine key vs _ fun u hu hl => ?_
    have : ∀ (us : List Nat), u ∈ us → u < (L2.wipe σ us).length → (L2.wipe σ us)[u]? = some none := by
      intro us
      induction us with
      | nil => intro h; cases h
      | cons x us ih =>
        intro h hl
        show ((L2.wipe σ us).set x none)[u]? = some none
        have hl' : u < (L2.wipe σ us).length := by
          have : u < ((L2.wipe σ us).set x none).length := hl
          rwa [List.length_set] at this
        by_cases z : x = u
        · subst z
          rw [List.getElem?_set_self hl']
        · rw [List.getElem?_set_ne z]
          rcases List.mem_cons.mp h with q | q
          · exact absurd q.symm z
          · exact ih q hl'
    exact this vs hu hl
theorem l_lc {elt tg iter : Expr} {ifs : List Expr} {scope : Scope} {own : List (Str × Nat)} {pos : Pos} {it : DL} {dg : DG} {t : DT} {e : DE} {ws : List Nat} (hc : X.calm = true) (hN : X.N.Nodup) (hi : PI X tg iter (liftIo X.K C it)) (ok : BlkOk X.N X.env.scope scope own)
    (hg : ∀ (s : Shared) (H : Hp) (CC : Addr) (cl : List (Str × Addr)) (fp : List Addr), PG (X.blk s H scope (compEnvC scope cl CC X.env) fp) tg (liftG X.K C dg ws)) (ht : ∀ (s : Shared) (H : Hp) (CC : Addr) (cl : List (Str × Addr)) (fp : List Addr), PTs (X.blk s H scope (compEnvC scope cl CC X.env) fp) ifs (liftT X.K C t))
    (he : ∀ (s : Shared) (H : Hp) (CC : Addr) (cl : List (Str × Addr)) (fp : List Addr), PE (X.blk s H scope (compEnvC scope cl CC X.env) fp) elt (liftE X.K C e)) {us : List Nat} (hu : own.map (·.2) = us := by rfl) (hw : ∀ j ∈ ws, j ∈ us := by decide) (hs : ∀ x, foldedSetIterable iter X.env x = pure x := by intro _; rfl) :
    PE X (.ListComp elt [⟨tg, iter, ifs, 0⟩] scope pos) (liftL X.K C (dCmp it dg t e us)) := by
  subst hu
  exact imp_e (lc_imp hw) (pe_lc hc hN hi ok hg ht he hs)
end

/-! ### a def's call -/
abbrev FD := List Sv → Bx → Option (Sv × Bx)
def spD (K : Frg) (f : FD) : Sp := fun vs H Q _ => ∃ F b B ss r B', Ext F H ∧ BxR F H b B ∧ SvsR K F H b vs ss ∧ f ss B = some (r, B') ∧ ∀ v H' F' b', Ext F' H' → BxR F' H' b' B' → Stp F b H F' b' H' → SvR K F' H' b' v r → Q v H'
def dFn (f : FD) (da : DA) : DE := fun sl B => (da sl B).bind fun p => (f p.1 p.2).bind fun q => match q.1 with
  | .dat z => some (z, q.2)
  | _ => none
def dFnV (f : FD) (da : DA) : DV := fun sl B => (da sl B).bind fun p => f p.1 p.2
section
variable {X : Cx} {C : Fx} {k : Nat} {f : Addr} {fd : FuncData} {ps : List Str} {fD : FD} {x : Str} {p pos : Pos} {e : Expr} {es : List Expr} {da : DA}
theorem fn_imp : ∀ σ H Q, liftE X.K C (dFn fD da) σ H Q → tCall (spD X.K fD) [] E0 (liftA X.K C da) σ H Q :=
  fun σ H Q ⟨sl, B, F, b, rr, B', R, e, k⟩ => by
    obtain ⟨⟨ss, B1⟩, e1, e⟩ := bnd e
    obtain ⟨⟨r, B2⟩, e2, e⟩ := bnd e
    split at e
    · rename_i z hz
      cases e
      have hz : r = .dat _ := hz
      subst hz
      refine ⟨sl, B, F, b, ss, B1, R, e1, fun vs H1 F1 b1 R1 S1 q1 => ?_⟩
      show spD X.K fD (vs ++ []) H1 Q E0
      rw [List.append_nil]
      exact ⟨F1, b1, B1, ss, _, _, R1.fro, R1.bx, q1, e2, fun v H2 F2 b2 fr bx S2 q2 => k v H2 F2 b2 (R1.step S2 fr bx) (S1.trans S2) q2⟩
    · cases e
theorem fnV_imp : ∀ σ H Q, liftV X.K C (dFnV fD da) σ H Q → tCall (spD X.K fD) [] E0 (liftA X.K C da) σ H Q :=
  fun σ H Q ⟨sl, B, F, b, rr, B', R, e, k⟩ => by
    obtain ⟨⟨ss, B1⟩, e1, e⟩ := bnd e
    refine ⟨sl, B, F, b, ss, B1, R, e1, fun vs H1 F1 b1 R1 S1 q1 => ?_⟩
    show spD X.K fD (vs ++ []) H1 Q E0
    rw [List.append_nil]
    exact ⟨F1, b1, B1, ss, rr, B', R1.fro, R1.bx, q1, e, fun v H2 F2 b2 fr bx S2 q2 => k v H2 F2 b2 (R1.step S2 fr bx) (S1.trans S2) q2⟩
/-- what a caller has of a def -/
structure Def (P : Program) (w : World) (K : Frg) (mg : Str → Option Value) (base : Heap) (k : Nat) (x : Str) (fD : FD) : Prop where
  ex : ∃ (f : Addr) (fd : FuncData) (ps : List Str), FnOk P w K mg base CX0 k f fd ps (spD K fD) ∧ mg x = some (.ref f) ∧ PySem.W.keepIn K (.ref f) = true ∧ Binds K fd ps []
theorem e_fn (D : Def X.prog X.w X.K X.mg X.base k x fD) (hr : Room k X.A) (ha : PA X (e :: es) (liftA X.K C da)) (hg : Gl X x := by rfl) (hdb : (x == ("__debug__" : Str)) = false := by decide) (he : starEach (e :: es) X.env = (false, eval e X.env) :: starEach es X.env := by rfl) (hpl : (backTo pos (starEach es X.env)).any (·.1) = false := by rfl) :
    PE X (.Call (.Name x p) (e :: es) [] pos) (liftE X.K C (dFn fD da)) := by
  obtain ⟨f, fd, ps, h1, h2, h3, h4⟩ := D.ex
  exact imp_e fn_imp (pe_call h1 hr hg h2 h3 h4 .nil pass0 ha hdb he hpl)
theorem v_fn (D : Def X.prog X.w X.K X.mg X.base k x fD) (hr : Room k X.A) (ha : PA X (e :: es) (liftA X.K C da)) (hg : Gl X x := by rfl) (hdb : (x == ("__debug__" : Str)) = false := by decide) (he : starEach (e :: es) X.env = (false, eval e X.env) :: starEach es X.env := by rfl) (hpl : (backTo pos (starEach es X.env)).any (·.1) = false := by rfl) :
    PE X (.Call (.Name x p) (e :: es) [] pos) (liftV X.K C (dFnV fD da)) := by
  obtain ⟨f, fd, ps, h1, h2, h3, h4⟩ := D.ex
  exact imp_e fnV_imp (pe_call h1 hr hg h2 h3 h4 .nil pass0 ha hdb he hpl)
end

/-! ### statements -/
inductive Out where
  | nx (sl : Sl) (B : Bx) | bk (sl : Sl) (B : Bx) | ct (sl : Sl) (B : Bx) | rt (r : Sv) (B : Bx)
abbrev DS := Sl → Bx → Option Out
def OutP (K : Frg) (C : Fx) (F : Hp) (D : Ends) : Out → Prop
  | .nx sl B => ∀ F' b' σ' H', Rel K C sl B F' b' σ' H' → Ext F F' → D.nx σ' H'
  | .bk sl B => ∀ F' b' σ' H', Rel K C sl B F' b' σ' H' → Ext F F' → D.bk σ' H'
  | .ct sl B => ∀ F' b' σ' H', Rel K C sl B F' b' σ' H' → Ext F F' → D.ct σ' H'
  | .rt r B => ∀ sl v F' b' σ' H', Rel K C sl B F' b' σ' H' → Ext F F' → SvR K F' H' b' v r → D.rt v H'
theorem OutP.mono {K : Frg} {C : Fx} {F F' : Hp} {D : Ends} {o : Out} (e : Ext F F') (h : OutP K C F D o) : OutP K C F' D o := by
  cases o with
  | nx sl B => exact fun F2 b σ H R e2 => h F2 b σ H R (e.trans e2)
  | bk sl B => exact fun F2 b σ H R e2 => h F2 b σ H R (e.trans e2)
  | ct sl B => exact fun F2 b σ H R e2 => h F2 b σ H R (e.trans e2)
  | rt r B => exact fun sl v F2 b σ H R e2 => h sl v F2 b σ H R (e.trans e2)
def liftS (K : Frg) (C : Fx) (d : DS) : TS := fun D σ H => ∃ sl B F b o, Rel K C sl B F b σ H ∧ d sl B = some o ∧ OutP K C F D o
def dNext : DS := fun sl B => some (.nx sl B)
def dSeq (d1 d2 : DS) : DS := fun sl B => (d1 sl B).bind fun o => match o with
  | .nx s2 B2 => d2 s2 B2
  | o => some o
def dAsg (i : Nat) (d : DE) : DS := fun sl B => (d sl B).map fun p => .nx (sl.set i (some (.dat p.1))) p.2
def dAsgV (i : Nat) (d : DV) : DS := fun sl B => (d sl B).bind fun p => match p.1 with
  | .own _ => none
  | s => some (.nx (sl.set i (some s)) p.2)
def dAsgO (i : Nat) (d : DL) : DS := fun sl B => (d sl B).map fun p => .nx (sl.set i (some (.own p.1))) p.2
def dAsgG (tg : DG) (d : DE) : DS := fun sl B => (d sl B).bind fun p => (tg p.1 sl).map fun s2 => .nx s2 p.2
def dPar (i j : Nat) (d d2 : DE) : DS := fun sl B => (d sl B).bind fun p => (d2 sl p.2).map fun q => .nx ((sl.set i (some (.dat p.1))).set j (some (.dat q.1))) q.2
def dDrop (d : DE) : DS := fun sl B => (d sl B).map fun p => .nx sl p.2
def dRet (d : DE) : DS := fun sl B => (d sl B).map fun p => .rt (.dat p.1) p.2
def dRetV (d : DV) : DS := fun sl B => (d sl B).map fun p => .rt p.1 p.2
def dRetN : DS := fun _ B => some (.rt (.dat .none) B)
def dIfS (t : DT) (d1 d2 : DS) : DS := fun sl B => (t sl B).bind fun p => if p.1 = true then d1 sl p.2 else d2 sl p.2
def dBreak : DS := fun sl B => some (.bk sl B)
def dCont : DS := fun sl B => some (.ct sl B)
def dNever : DS := fun _ _ => none
def dFz (i : Nat) (d : DS) : DS := fun sl B => match sl[i]? with
  | some (some (.own xs)) => d (sl.set i (some (.dat (.list xs)))) B
  | _ => d sl B
def dApp (j : Nat) (d : DE) : DS := fun sl B => (d sl B).bind fun p => match sl[j]? with
  | some (some (.own xs)) => if xs.length < sizeLine then some (.nx (sl.set j (some (.own (xs ++ [p.1])))) p.2) else none
  | _ => none
def loopOut (k : Sl → Bx → Option Out) : Out → Option Out
  | .nx s B => k s B
  | .ct s B => k s B
  | .bk s B => some (.nx s B)
  | .rt r B => some (.rt r B)
def forGo (tg : DG) (body : DS) : List PyData → Sl → Bx → Option Out
  | [], sl, B => some (.nx sl B)
  | x :: xs, sl, B => (tg x sl).bind fun s1 => (body s1 B).bind (loopOut (forGo tg body xs))
def dFor (it : DL) (tg : DG) (body : DS) : DS := fun sl B => (it sl B).bind fun p => forGo tg body p.1 sl p.2
def whN (c : DT) (b : DS) : Nat → Sl → Bx → Option Out
  | 0, _, _ => none
  | n + 1, sl, B => (c sl B).bind fun p => if p.1 = true then (b sl p.2).bind (loopOut (whN c b n)) else some (.nx sl p.2)
open Classical in
noncomputable def dWhile (c : DT) (b : DS) : DS := fun sl B => if h : ∃ o n, whN c b n sl B = some o then some (Classical.choose h) else none
theorem loopOut_mono {k k' : Sl → Bx → Option Out} (h : ∀ s B o, k s B = some o → k' s B = some o) {x o : Out} (e : loopOut k x = some o) : loopOut k' x = some o := by
  cases x with
  | nx s B => exact h s B o e
  | ct s B => exact h s B o e
  | bk s B => exact e
  | rt r B => exact e
theorem whN_succ (c : DT) (b : DS) : ∀ n sl B o, whN c b n sl B = some o → whN c b (n + 1) sl B = some o := by
  intro n
  induction n with
  | zero => intro sl B o e; cases e
  | succ n ih =>
    intro sl B o e
    unfold whN at e
    obtain ⟨⟨t, B1⟩, e1, e⟩ := bnd e
    unfold whN
    rw [e1]
    show (if t = true then (b sl B1).bind (loopOut (whN c b (n + 1))) else some (.nx sl B1)) = some o
    cases t with
    | false => exact e
    | true =>
      rw [if_pos rfl]
      have e : (b sl B1).bind (loopOut (whN c b n)) = some o := e
      obtain ⟨x, e2, e3⟩ := bnd e
      rw [e2]
      exact loopOut_mono (fun s B o => ih s B o) e3
theorem whN_le (c : DT) (b : DS) {n m : Nat} (h : n ≤ m) {sl B o} (e : whN c b n sl B = some o) : whN c b m sl B = some o := by
  induction h with
  | refl => exact e
  | step _ ih => exact whN_succ c b _ sl B o ih
theorem dWhile_of {c : DT} {b : DS} {n : Nat} {sl : Sl} {B : Bx} {o : Out} (e : whN c b n sl B = some o) : dWhile c b sl B = some o := by
  have h : ∃ o n, whN c b n sl B = some o := ⟨o, n, e⟩
  unfold dWhile
  rw [dif_pos h]
  obtain ⟨m, em⟩ := Classical.choose_spec h
  have e1 := whN_le c b (Nat.le_max_left n m) e
  have e2 := whN_le c b (Nat.le_max_right n m) em
  rw [e1] at e2
  exact e2.symm
theorem dWhile_ex {c : DT} {b : DS} {sl : Sl} {B : Bx} {o : Out} (e : dWhile c b sl B = some o) : ∃ n, whN c b n sl B = some o := by
  unfold dWhile at e
  split at e
  · rename_i h
    obtain ⟨m, em⟩ := Classical.choose_spec h
    cases e
    exact ⟨m, em⟩
  · cases e
/-- one turn of a while -/
theorem dWhile_turn {c : DT} {b : DS} {sl s2 : Sl} {B B1 B2 : Bx} {o : Out} (h1 : c sl B = some (true, B1)) (h2 : b sl B1 = some (.nx s2 B2)) (h3 : dWhile c b s2 B2 = some o) : dWhile c b sl B = some o := by
  obtain ⟨n, e⟩ := dWhile_ex h3
  refine dWhile_of (n := n + 1) ?_
  unfold whN
  rw [h1]
  show (b sl B1).bind _ = _
  rw [h2]
  exact e
theorem dWhile_ret {c : DT} {b : DS} {sl : Sl} {B B1 B2 : Bx} {r : Sv} (h1 : c sl B = some (true, B1)) (h2 : b sl B1 = some (.rt r B2)) : dWhile c b sl B = some (.rt r B2) := by
  refine dWhile_of (n := 1) ?_
  unfold whN
  rw [h1]
  show (b sl B1).bind _ = _
  rw [h2]
  rfl
theorem dWhile_end {c : DT} {b : DS} {sl : Sl} {B B1 : Bx} (h1 : c sl B = some (false, B1)) : dWhile c b sl B = some (.nx sl B1) := by
  refine dWhile_of (n := 1) ?_
  unfold whN
  rw [h1]
  rfl
section
variable {X : Cx} {C : Fx} {st : Stmt} {rest : List Stmt} {d1 d2 : DS} {e : Expr} {d : DE} {pos : Pos}
theorem ss_nil : PSs X [] (liftS X.K C dNext) := imp_ss (fun D σ H ⟨sl, B, F, b, o, R, e, k⟩ => by
  cases e
  exact k F b σ H R (Ext.refl _)) pss_nil
theorem ss_cons (h1 : PS X st (liftS X.K C d1)) (h2 : PSs X rest (liftS X.K C d2)) : PSs X (st :: rest) (liftS X.K C (dSeq d1 d2)) := imp_ss (fun D σ H ⟨sl, B, F, b, o, R, e, k⟩ => by
  obtain ⟨o1, e1, e⟩ := bnd e
  refine ⟨sl, B, F, b, o1, R, e1, ?_⟩
  cases o1 with
  | nx s2 B2 => exact fun F' b' σ' H' R' ex => ⟨s2, B2, F', b', o, R', e, k.mono ex⟩
  | bk s2 B2 => cases e; exact k
  | ct s2 B2 => cases e; exact k
  | rt r B2 => cases e; exact k) (pss_cons h1 h2)
theorem ss_one (h1 : PS X st (liftS X.K C d1)) : PSs X [st] (liftS X.K C d1) := pss_one h1
theorem ss_fz (i : Nat) (h : PSs X rest (liftS X.K C d1)) : PSs X rest (liftS X.K C (dFz i d1)) := imp_ss (fun D σ H ⟨sl, B, F, b, o, R, e, k⟩ => by
  unfold dFz at e
  split at e
  · rename_i xs hx
    obtain ⟨F', ex, R'⟩ := R.frz hx
    exact ⟨_, B, F', b, o, R', e, k.mono ex⟩
  · exact ⟨sl, B, F, b, o, R, e, k⟩) h
theorem s_never : PS X st (liftS X.K C dNever) := imp_s (fun D σ H ⟨sl, B, F, b, o, R, e, k⟩ => by cases e) ps_never
theorem s_pass : PS X (.Pass pos) (liftS X.K C dNext) := imp_s (fun D σ H ⟨sl, B, F, b, o, R, e, k⟩ => by
  cases e
  exact k F b σ H R (Ext.refl _)) ps_pass
theorem s_break : PS X (.Break pos) (liftS X.K C dBreak) := imp_s (fun D σ H ⟨sl, B, F, b, o, R, e, k⟩ => by
  cases e
  exact k F b σ H R (Ext.refl _)) ps_break
theorem s_cont : PS X (.Continue pos) (liftS X.K C dCont) := imp_s (fun D σ H ⟨sl, B, F, b, o, R, e, k⟩ => by
  cases e
  exact k F b σ H R (Ext.refl _)) ps_continue
theorem s_ret (h : PE X e (liftE X.K C d)) : PS X (.Return (some e) pos) (liftS X.K C (dRet d)) := imp_s (fun D σ H ⟨sl, B, F, b, o, R, e, k⟩ => by
  obtain ⟨⟨x, B1⟩, e1, e⟩ := mpd e
  cases e
  exact ⟨sl, B, F, b, _, _, R, e1, fun v H' F' b' R' S' q => k sl v F' b' σ H' R' S'.ex q⟩) (ps_ret h)
theorem s_retV {d : DV} (h : PE X e (liftV X.K C d)) : PS X (.Return (some e) pos) (liftS X.K C (dRetV d)) := imp_s (fun D σ H ⟨sl, B, F, b, o, R, e, k⟩ => by
  obtain ⟨⟨x, B1⟩, e1, e⟩ := mpd e
  cases e
  exact ⟨sl, B, F, b, _, _, R, e1, fun v H' F' b' R' S' q => k sl v F' b' σ H' R' S'.ex q⟩) (ps_ret h)
theorem s_retN : PS X (.Return none pos) (liftS X.K C dRetN) := imp_s (fun D σ H ⟨sl, B, F, b, o, R, e, k⟩ => by
  cases e
  exact k sl .non F b σ H R (Ext.refl _) .non) ps_retN
theorem s_drop (h : PE X e (liftE X.K C d)) (hs : swapsWith e none pos.line X.env = pure false := by rfl) : PS X (.Expr e pos) (liftS X.K C (dDrop d)) := imp_s (fun D σ H ⟨sl, B, F, b, o, R, e, k⟩ => by
  obtain ⟨⟨x, B1⟩, e1, e⟩ := mpd e
  cases e
  exact ⟨sl, B, F, b, _, _, R, e1, fun v H' F' b' R' S' q => k F' b' σ H' R' S'.ex⟩) (ps_expr h hs)
theorem s_if {c : Expr} {a b : List Stmt} {t : DT} (hc : PT X c (liftT X.K C t)) (ha : PSs X a (liftS X.K C d1)) (hb : PSs X b (liftS X.K C d2)) : PS X (.If c a b pos) (liftS X.K C (dIfS t d1 d2)) := imp_s (fun D σ H ⟨sl, B, F, b, o, R, e, k⟩ => by
  obtain ⟨⟨x, B1⟩, e1, e⟩ := bnd e
  refine ⟨sl, B, F, b, x, B1, R, e1, fun H' F' b' R' S' => ?_⟩
  cases x with
  | true => exact iteT ⟨sl, B1, F', b', o, R', e, k.mono S'.ex⟩
  | false => exact iteF ⟨sl, B1, F', b', o, R', e, k.mono S'.ex⟩) (ps_if hc ha hb)
theorem asg_imp {i : Nat} : ∀ D σ H, liftS X.K C (dAsg i d) D σ H → tAsg (liftE X.K C d) (gName i) D σ H := fun D σ H ⟨sl, B, F, b, o, R, e, k⟩ => by
  obtain ⟨⟨x, B1⟩, e1, e⟩ := mpd e
  cases e
  exact ⟨sl, B, F, b, _, _, R, e1, fun v H' F' b' R' S' q => k F' b' _ H' (R'.put (s := .dat _) q (fun _ z => nomatch z)) S'.ex⟩
theorem asgO_imp {i : Nat} {d : DL} : ∀ D σ H, liftS X.K C (dAsgO i d) D σ H → tAsg (liftL X.K C d) (gName i) D σ H := fun D σ H ⟨sl, B, F, b, o, R, e, k⟩ => by
  obtain ⟨⟨x, B1⟩, e1, e⟩ := mpd e
  cases e
  exact ⟨sl, B, F, b, _, _, R, e1, fun a vs H' F' b' R' S' h0 h1 h2 h3 h4 => k F' b' _ H' (R'.putO h3 h4 h1 h2 (R.t0 h0) (fun j ys ej => R.ownT ej h0)) S'.ex⟩
theorem s_set (i : Nat) {x : Str} {pos' : Pos} (hN : X.N.Nodup) (he : PE X e (liftE X.K C d)) (hi : X.N[i]? = some x := by rfl) (hx : Loc X.env.scope x := by first | exact .inl rfl | exact .inr rfl) (hs : swapsWith e (some (.Name x pos')) pos.line X.env = pure false := by rfl) (hf : X.fn x = true ∨ X.env.scope.names.lookup x = some .local := by first | exact .inl rfl | exact .inr rfl) :
    PS X (.Assign [.Name x pos'] e pos) (liftS X.K C (dAsg i d)) := imp_s asg_imp (ps_set hN hi hx he hs hf)
theorem s_setO (i : Nat) {x : Str} {pos' : Pos} {d : DL} (hN : X.N.Nodup) (he : PE X e (liftL X.K C d)) (hi : X.N[i]? = some x := by rfl) (hx : Loc X.env.scope x := by first | exact .inl rfl | exact .inr rfl) (hs : swapsWith e (some (.Name x pos')) pos.line X.env = pure false := by rfl) (hf : X.fn x = true ∨ X.env.scope.names.lookup x = some .local := by first | exact .inl rfl | exact .inr rfl) :
    PS X (.Assign [.Name x pos'] e pos) (liftS X.K C (dAsgO i d)) := imp_s asgO_imp (ps_set hN hi hx he hs hf)
theorem s_setV (i : Nat) {x : Str} {pos' : Pos} {d : DV} (hN : X.N.Nodup) (he : PE X e (liftV X.K C d)) (hi : X.N[i]? = some x := by rfl) (hx : Loc X.env.scope x := by first | exact .inl rfl | exact .inr rfl) (hs : swapsWith e (some (.Name x pos')) pos.line X.env = pure false := by rfl) (hf : X.fn x = true ∨ X.env.scope.names.lookup x = some .local := by first | exact .inl rfl | exact .inr rfl) :
    PS X (.Assign [.Name x pos'] e pos) (liftS X.K C (dAsgV i d)) := imp_s (fun D σ H ⟨sl, B, F, b, o, R, e, k⟩ => by
  obtain ⟨⟨x, B1⟩, e1, e⟩ := bnd e
  cases x with
  | own xs => cases e
  | dat z => cases e; exact ⟨sl, B, F, b, _, _, R, e1, fun v H' F' b' R' S' q => k F' b' _ H' (R'.put q (fun xs z => nomatch z)) S'.ex⟩
  | box => cases e; exact ⟨sl, B, F, b, _, _, R, e1, fun v H' F' b' R' S' q => k F' b' _ H' (R'.put q (fun xs z => nomatch z)) S'.ex⟩
  | cells => cases e; exact ⟨sl, B, F, b, _, _, R, e1, fun v H' F' b' R' S' q => k F' b' _ H' (R'.put q (fun xs z => nomatch z)) S'.ex⟩
  | scr ns => cases e; exact ⟨sl, B, F, b, _, _, R, e1, fun v H' F' b' R' S' q => k F' b' _ H' (R'.put q (fun xs z => nomatch z)) S'.ex⟩) (ps_set hN hi hx he hs hf)
/-- y = [.. for ..]: frozen | one's own -/
theorem s_setLc (i : Nat) {y : Str} {py : Pos} {elt tg iter : Expr} {ifs : List Expr} {scope : Scope} {own : List (Str × Nat)} {pos spos : Pos} {it : DL} {dg : DG} {t : DT} {e : DE} {ws : List Nat} (hc : X.calm = true) (hN : X.N.Nodup) (hsw : swapsWith (.ListComp elt [⟨tg, iter, ifs, 0⟩] scope pos) (some (.Name y py)) spos.line X.env = pure true) (hi : PI X tg iter (liftIo X.K C it)) (ok : BlkOk X.N X.env.scope scope own)
    (hg : ∀ (s : Shared) (H : Hp) (CC : Addr) (cl : List (Str × Addr)) (fp : List Addr), PG (X.blk s H scope (compEnvC scope cl CC X.env) fp) tg (liftG X.K C dg ws)) (ht : ∀ (s : Shared) (H : Hp) (CC : Addr) (cl : List (Str × Addr)) (fp : List Addr), PTs (X.blk s H scope (compEnvC scope cl CC X.env) fp) ifs (liftT X.K C t))
    (he : ∀ (s : Shared) (H : Hp) (CC : Addr) (cl : List (Str × Addr)) (fp : List Addr), PE (X.blk s H scope (compEnvC scope cl CC X.env) fp) elt (liftE X.K C e)) (hy : X.N[i]? = some y := by rfl) (hyl : X.env.scope.names.lookup y = some .local := by rfl) {us : List Nat} (hu : own.map (·.2) = us := by rfl) (hw : ∀ j ∈ ws, j ∈ us := by decide) (hs : ∀ x, foldedSetIterable iter X.env x = pure x := by intro _; rfl) :
    PS X (.Assign [.Name y py] (.ListComp elt [⟨tg, iter, ifs, 0⟩] scope pos) spos) (liftS X.K C (dAsgO i (dCmp it dg t e us))) := by
  subst hu
  exact imp_s (fun D σ H w => lc_imp hw σ H _ (asgO_imp D σ H w)) (ps_setLc hc hN hy hyl hsw hi ok hg ht he hs)
theorem s_asgG {tg : Expr} {dg : DG} {ws : List Nat} (he : PE X e (liftE X.K C d)) (hg : PG X tg (liftG X.K C dg ws)) (hs : swapsWithSole [tg] e pos.line X.env = pure false := by rfl) (hw : swappedStores [tg] e X.env = pure none := by rfl)
    (h1 : (assignEach [tg] X.env).map (·.2) = [assign tg X.env] := by rfl) : PS X (.Assign [tg] e pos) (liftS X.K C (dAsgG dg d)) := imp_s (fun D σ H ⟨sl, B, F, b, o, R, e, k⟩ => by
  obtain ⟨⟨x, B1⟩, e1, e⟩ := bnd e
  obtain ⟨s2, e2, e⟩ := mpd e
  cases e
  exact ⟨sl, B, F, b, _, _, R, e1, fun v H' F' b' R' S' q => ⟨sl, B1, F', b', x, s2, R', q, e2, fun σ' R2 _ => k F' b' σ' H' R2 S'.ex⟩⟩) (ps_asg he hg hs hw h1)
theorem s_par (i j : Nat) {x y : Str} {a c : Expr} {da db : DE} {px py pt : Pos} {kt k2 pt2} (hc : X.calm = true) (hN : X.N.Nodup) (hij : i ≠ j) (ha : PE X a (liftE X.K C da)) (hb : PE X c (liftE X.K C db)) (hi : X.N[i]? = some x := by rfl) (hj : X.N[j]? = some y := by rfl)
    (hx : X.env.scope.names.lookup x = some .local := by rfl) (hy : X.env.scope.names.lookup y = some .local := by rfl)
    (hw : swappedStores [.Tuple [.Name x px, .Name y py] kt pt] (.Tuple [a, c] k2 pt2) X.env = pure (some [x, y]) := by rfl)
    (hs : swapsWithSole [.Tuple [.Name x px, .Name y py] kt pt] (.Tuple [a, c] k2 pt2) pos.line X.env = pure false := by rfl)
    (hs1 : starEach (a :: [c]) X.env = (false, eval a X.env) :: starEach [c] X.env := by rfl) (hs2 : starEach (c :: []) X.env = (false, eval c X.env) :: starEach [] X.env := by rfl) :
    PS X (.Assign [.Tuple [.Name x px, .Name y py] kt pt] (.Tuple [a, c] k2 pt2) pos) (liftS X.K C (dPar i j da db)) := imp_s (fun D σ H ⟨sl, B, F, b, o, R, e, k⟩ => by
  obtain ⟨⟨u, B1⟩, e1, e⟩ := bnd e
  obtain ⟨⟨w, B2⟩, e2, e⟩ := mpd e
  cases e
  exact ⟨sl, B, F, b, _, _, R, e1, fun v1 H1 F1 b1 R1 S1 q1 => ⟨sl, B1, F1, b1, _, _, R1, e2, fun v2 H2 F2 b2 R2 S2 q2 => ⟨v1, v2, rfl, k F2 b2 _ H2 ((R2.put (s := .dat _) (Rp.mono S2.ex q1) (fun _ z => nomatch z)).put (s := .dat _) q2 (fun _ z => nomatch z)) (S1.ex.trans S2.ex)⟩⟩⟩)
  (ps_par (ta := tCons (liftE X.K C da) (tCons (liftE X.K C db) tNil)) hc hN hi hj hij hx hy (pa_cons ha (pa_cons hb pa_nil hs2) hs1) hw hs)
theorem s_app (j : Nat) (h : PE X e (tBM X.K "list" rAppend (tVar j) (tCons (liftE X.K C d) tNil))) (hs : swapsWith e none pos.line X.env = pure false := by rfl) :
    PS X (.Expr e pos) (liftS X.K C (dApp j d)) := imp_s (fun D σ H ⟨sl, B, F, b, o, R, e, k⟩ => by
  obtain ⟨⟨u, B1⟩, e1, e⟩ := bnd e
  split at e
  · rename_i xs hx
    split at e
    · rename_i hz
      cases e
      obtain ⟨v, ev, a, vs, rfl, g1, g2, g3, g4⟩ := R.slt j _ hx
      refine ⟨_, ev, .inl ⟨rfl, _, SqL.of g1⟩, sl, B, F, b, u, B1, R, e1, fun y H1 F1 b1 R1 S1 q1 => ?_⟩
      refine ⟨a, vs, y, rfl, rfl, S1.pr a _ g1 g4, by rw [g2.length]; exact hz, ?_⟩
      exact k F1 b1 σ _ (R1.chg hx ev (Rps.append (Rps.mono S1.ex g2) (.one q1))) S1.ex
    · cases e
  · cases e) (ps_expr h hs)
theorem s_for {tg iter : Expr} {body : List Stmt} {it : DL} {dg : DG} {ws : List Nat} {db : DS} (hp : PassesOwn (model X.prog X.w) X.A X.env X.xe) (hc : X.calm = true) (hi : PI X tg iter (liftI X.K C it)) (hg : PG X tg (liftG X.K C dg ws)) (hb : PSs X body (liftS X.K C db))
    (hs : ∀ x, foldedSetIterable iter X.env x = pure x := by intro _; rfl) : PS X (.For tg iter body [] pos) (liftS X.K C (dFor it dg db)) := imp_s (fun D σ H ⟨sl, B, F, b, o, R, he, k⟩ => by
  obtain ⟨⟨xs, B1⟩, e1, he⟩ := bnd he
  refine ⟨sl, B, F, b, xs, B1, R, e1, fun J H1 F1 b1 R1 S1 wk => ?_⟩
  refine ⟨fun i m σ' H' => m = xs.length - i ∧ i ≤ xs.length ∧ ∃ s B2 F2 b2, Rel X.K C s B2 F2 b2 σ' H' ∧ Ext F1 F2 ∧ forGo dg db (xs.drop i) s B2 = some o ∧ OutP X.K C F2 D o,
    ⟨_, rfl, Nat.zero_le _, sl, B1, F1, b1, R1, Ext.refl _, he, k.mono S1.ex⟩, ?_⟩
  rintro i m σ' H' ⟨rfl, hi, s, B2, F2, b2, R2, x2, h1, h2⟩
  obtain ⟨w1, w2⟩ := wk i F2 H' x2 R2.fro trivial
  by_cases hlt : i < xs.length
  · have hx : xs[i]? = some xs[i] := List.getElem?_eq_getElem hlt
    obtain ⟨go, yl⟩ := w1 _ hx
    rw [List.drop_eq_getElem_cons hlt] at h1
    unfold forGo at h1
    obtain ⟨s1, g1, h1⟩ := bnd h1
    obtain ⟨o1, g2, h1⟩ := bnd h1
    refine .inr ⟨go, fun σ'' H'' => ∃ s B2 F2 b2, Rel X.K C s B2 F2 b2 σ'' H'' ∧ Ext F1 F2 ∧ forGo dg db (xs.drop (i + 1)) s B2 = some o ∧ OutP X.K C F2 D o,
      fun σ'' H'' hn => ⟨xs.length - (i + 1), by omega, rfl, hlt, hn⟩, fun v H3 y => ?_⟩
    obtain ⟨F3, al, rv⟩ := yl v H3 y
    obtain ⟨R3, S3⟩ := al.rel R2
    refine ⟨s, B2, F3, b2, xs[i], s1, R3, rv, g1, fun σ4 R4 _ => ⟨s1, B2, F3, b2, o1, R4, g2, ?_⟩⟩
    have h3 := h2.mono S3.ex
    cases o1 with
    | nx s5 B5 => exact fun F5 b5 σ5 H5 R5 x5 => ⟨s5, B5, F5, b5, R5, (x2.trans S3.ex).trans x5, h1, h3.mono x5⟩
    | ct s5 B5 => exact fun F5 b5 σ5 H5 R5 x5 => ⟨s5, B5, F5, b5, R5, (x2.trans S3.ex).trans x5, h1, h3.mono x5⟩
    | bk s5 B5 =>
      cases h1
      exact fun F5 b5 σ5 H5 R5 x5 => h3 F5 b5 σ5 H5 R5 x5
    | rt r5 B5 =>
      cases h1
      exact h3
  · have e0 : i = xs.length := by omega
    subst e0
    refine .inl ⟨w2 rfl, ?_⟩
    rw [List.drop_length] at h1
    cases h1
    exact h2 F2 b2 σ' H' R2 (Ext.refl _)) (ps_for hp hc hi hg hb hs)
theorem s_while {c : Expr} {body : List Stmt} {t : DT} {db : DS} (hp : PassesOwn (model X.prog X.w) X.A X.env X.xe) (hc : PT X c (liftT X.K C t)) (hb : PSs X body (liftS X.K C db)) : PS X (.While c body [] pos) (liftS X.K C (dWhile t db)) := imp_s (fun D σ H ⟨sl, B, F, b, o, R, he, k⟩ => by
  obtain ⟨n, he⟩ := dWhile_ex he
  refine ⟨fun m σ' H' => ∃ s B2 F2 b2, Rel X.K C s B2 F2 b2 σ' H' ∧ whN t db m s B2 = some o ∧ OutP X.K C F2 D o, ⟨n, sl, B, F, b, R, he, k⟩, ?_⟩
  rintro m σ' H' ⟨s, B2, F2, b2, R2, h1, h2⟩
  cases m with
  | zero => cases h1
  | succ m =>
    unfold whN at h1
    obtain ⟨⟨tb, B3⟩, e1, h1⟩ := bnd h1
    refine ⟨s, B2, F2, b2, tb, B3, R2, e1, fun H3 F3 b3 R3 S3 => ?_⟩
    have h3 := h2.mono S3.ex
    cases tb with
    | false =>
      cases h1
      exact iteF (h3 F3 b3 σ' H3 R3 (Ext.refl _))
    | true =>
      have h1 : (db s B3).bind (loopOut (whN t db m)) = some o := h1
      obtain ⟨o1, g2, h1⟩ := bnd h1
      refine iteT ⟨fun σ'' H'' => ∃ s B2 F2 b2, Rel X.K C s B2 F2 b2 σ'' H'' ∧ whN t db m s B2 = some o ∧ OutP X.K C F2 D o, fun σ'' H'' hn => ⟨m, by omega, hn⟩, s, B3, F3, b3, o1, R3, g2, ?_⟩
      cases o1 with
      | nx s5 B5 => exact fun F5 b5 σ5 H5 R5 x5 => ⟨s5, B5, F5, b5, R5, h1, h3.mono x5⟩
      | ct s5 B5 => exact fun F5 b5 σ5 H5 R5 x5 => ⟨s5, B5, F5, b5, R5, h1, h3.mono x5⟩
      | bk s5 B5 =>
        cases h1
        exact fun F5 b5 σ5 H5 R5 x5 => h3 F5 b5 σ5 H5 R5 x5
      | rt r5 B5 =>
        cases h1
        exact h3) (ps_while hp hc hb)
end
/-! ### a def -/
def nown : Sv → Bool
  | .own _ => false
  | _ => true
def dFun (n m : Nat) (body : DS) : FD := fun ss B => if ss.length = n ∧ ss.all nown = true then (body (ss.map some ++ List.replicate m none) B).bind fun o => match o with
    | .rt r B' => some (r, B')
    | .nx _ B' => some (.dat .none, B')
    | _ => none
  else none
theorem svs_len {K : Frg} {F H : Hp} {b : Bad} : ∀ {vs : List V} {ss : List Sv}, SvsR K F H b vs ss → vs.length = ss.length
  | _, _, .nil => rfl
  | _, _, .cons _ t => by rw [List.length_cons, List.length_cons, svs_len t]
theorem svs_get {K : Frg} {F H : Hp} {b : Bad} : ∀ {vs : List V} {ss : List Sv} {i : Nat} {s : Sv}, SvsR K F H b vs ss → ss[i]? = some s → ∃ v, vs[i]? = some v ∧ SvR K F H b v s
  | _, _, 0, _, .cons h _, e => by cases e; exact ⟨_, rfl, h⟩
  | _, _, i + 1, _, .cons _ t, e => svs_get (i := i) t e
  | _, _, _, _, .nil, e => by cases e
theorem start_rel {K : Frg} {F H : Hp} {b : Bad} {B : Bx} {vs : List V} {ss : List Sv} {N : List Str} {m : Nat} (fr : Ext F H) (bx : BxR F H b B) (h : SvsR K F H b vs ss) (hn : ss.all nown = true) (hN : N.length = ss.length + m) :
    Rel K ⟨H, F, b⟩ (ss.map some ++ List.replicate m none) B F b (L2.start N vs) H := by
  have hl := svs_len h
  have no : ∀ (i : Nat) (xs : List PyData), (ss.map some ++ List.replicate m none)[i]? ≠ some (some (.own xs)) := fun i xs e => by
    rw [List.getElem?_append] at e
    split at e
    · rw [List.getElem?_map] at e
      obtain ⟨s, e1, e2⟩ := mpd e
      cases e2
      have := List.all_eq_true.mp hn _ (List.mem_of_getElem? e1)
      cases this
    · rw [List.getElem?_replicate] at e
      split at e
      · cases e
      · cases e
  refine ⟨fr, ?_, fun i s e => ?_, fun i j xs ys a e _ _ _ => absurd e (no i xs), fun i xs a e _ => absurd e (no i xs), bx, Ext.refl _, fun a _ h => h, fun a o h _ => h, fun p h => h, fun a h => .inr h⟩
  · unfold L2.start
    simp only [List.length_append, List.length_map, List.length_replicate]
    omega
  · rw [List.getElem?_append] at e
    split at e
    · rename_i hi
      rw [List.getElem?_map] at e
      obtain ⟨s', e1, e2⟩ := mpd e
      cases e2
      obtain ⟨v, h1, h2⟩ := svs_get h e1
      refine ⟨v, ?_, h2⟩
      unfold L2.start
      rw [List.getElem?_append_left (by simp at hi ⊢; omega), List.getElem?_map, h1]
      rfl
    · rw [List.getElem?_replicate] at e
      split at e
      · cases e
      · cases e
theorem end_stp {K : Frg} {F H F' H' : Hp} {b b' : Bad} {sl : Sl} {B : Bx} {σ : L2.St} (R : Rel K ⟨H, F, b⟩ sl B F' b' σ H') : Stp F b H F' b' H' :=
  ⟨R.e1, R.e3, R.e2, R.e4, fun a h => by
    rcases R.e5 a h with q | q
    · exact .inr q
    · exact .inl q, fun a h z => by
    have := R.t0 z
    exact h this⟩
section
variable {P : Program} {w : World} {K : Frg} {mg : Str → Option Value} {base : Heap}
theorem def_ok {x qual : Str} {st : Stmt} {f : Addr} {fd : FuncData} {N ps : List Str} {k n m : Nat} {body : DS} (F : Fun K x qual st f fd) (S : FnScope N ps (defScope st)) (hn : ps.length = n) (hN : N.length = n + m)
    (hbody : ∀ (cdv : Value) (A : Around) (outer : List Env) (s : Shared) (H : Hp) (E : XK) (C : Fx), Room k (A.deeper (envOfC qual (defScope st) s.heap.objs.size f cdv)) → PSs (cxOf CX0 P w K mg base N qual (defScope st) f cdv A outer s H E).nox (defBody st) (liftS K C body)) :
    FnOk P w K mg base CX0 (k + 1) f fd ps (spD K (dFun n m body)) := by
  refine F.ok S (fun vs H Q E h => ?_) (fun cdv A outer s H vs Q E hr h => ?_)
  · obtain ⟨F, b, B, ss, r, B', _, _, h1, h2, _⟩ := h
    unfold dFun at h2
    split at h2
    · rename_i hz
      rw [svs_len h1, hz.1, hn]
    · cases h2
  · obtain ⟨F, b, B, ss, r, B', fr, bx, h1, h2, k⟩ := h
    refine ⟨_, hbody cdv A outer s H E ⟨H, F, b⟩ hr, ?_⟩
    unfold dFun at h2
    split at h2
    · rename_i hz
      obtain ⟨o, e1, e2⟩ := bnd h2
      refine ⟨_, B, F, b, o, start_rel fr bx h1 hz.2 (by rw [hN, hz.1]), e1, ?_⟩
      cases o with
      | nx s2 B2 =>
        cases e2
        exact fun F' b' σ' H' R ex => k .non H' F' b' R.fro R.bx (end_stp R) .non
      | bk s2 B2 => cases e2
      | ct s2 B2 => cases e2
      | rt r2 B2 =>
        cases e2
        exact fun sl v F' b' σ' H' R ex q => k v H' F' b' R.fro R.bx (end_stp R) q
    · cases h2
end
end Dn

set_option Elab.async false
set_option linter.all false
set_option autoImplicit false
set_option maxRecDepth 100000
set_option maxHeartbeats 1000000
namespace Dn
open PySem PySem.Spec PyProof.Rows L2

/-! ### the box from which the law draws -/
def dBget (i : Nat) (k : Int) : DE := fun sl B => match sl[i]? with
  | some (some .box) => if 1 ≤ k then (B.regs[(k - 1).toNat]?).map fun n => (.int n, B) else none
  | _ => none
def dBcells (i : Nat) : DV := fun sl B => match sl[i]? with
  | some (some .box) => some (.cells, B)
  | _ => none
def dLenC (d : DV) : DE := fun sl B => (d sl B).bind fun p => match p.1 with
  | .cells => some (.int (p.2.cells.length : Int), p.2)
  | _ => none
def dGetC (d : DV) (e : DE) : DE := fun sl B => (d sl B).bind fun p => match p.1 with
  | .cells => (e sl p.2).bind fun q => match q.1 with
    | .int k => (atI q.2.cells k).map fun n => (.int n, q.2)
    | _ => none
  | _ => none
def dPopC (d : DV) : DE := fun sl B => (d sl B).bind fun p => match p.1 with
  | .cells => match p.2.cells with
    | c :: r => some (.int c, { p.2 with cells := r })
    | [] => none
  | _ => none
def dBset (i : Nat) (k : Int) (d : DE) : DS := fun sl B => (d sl B).bind fun p => match p.1, sl[i]? with
  | .int n, some (some .box) => if 1 ≤ k ∧ (k - 1).toNat < p.2.regs.length then some (.nx sl { p.2 with regs := p.2.regs.set (k - 1).toNat n }) else none
  | _, _ => none
def dLenS (i : Nat) : DE := fun sl B => match sl[i]? with
  | some (some (.scr ns)) => some (.int (ns.length : Int), B)
  | _ => none
def dNewB (i : Nat) (k : Int) (d : DL) : DV := fun sl B => match sl[i]? with
  | some (some (.scr ns)) => if B.on = false ∧ 0 ≤ k then (d sl B).bind fun p => (intsOf p.1).bind fun rs => if rs.length < 100 ∧ p.2.on = false then some (.box, ⟨ns.take k.toNat, rs, true⟩) else none else none
  | _ => none
theorem sized (n : Nat) (h : n ≤ 1000) : n ≤ sizeLine := Nat.le_of_lt (small1000 h)
theorem atI_map {α β : Type} (f : α → β) (xs : List α) (i : Int) : atI (xs.map f) i = (atI xs i).map f := by
  unfold atI
  rw [List.length_map]
  cases ixN xs.length i with
  | none => rfl
  | some j => simp
theorem atI_pos {α : Type} {v : α} {xs : List α} {k : Int} {x : α} (hk : 1 ≤ k) (h : xs[(k - 1).toNat]? = some x) : atI (v :: xs) k = some x := by
  have e : k = (((k - 1).toNat + 1 : Nat) : Int) := by omega
  rw [e]
  exact atI_nat (by rw [List.getElem?_cons_succ]; exact h)
section
variable {X : Cx} {C : Fx} {e : Expr} {es : List Expr} {d : DE} {dv : DV} {pos p pk : Pos} {x : Str} {jk : Nat}
theorem e_bget (i : Nat) (k : Int) (hN : X.N[i]? = some x := by rfl) (hv : Vis X.env.scope x := by first | exact Or.inl rfl | exact Or.inr (Or.inl rfl) | exact Or.inr (Or.inr rfl)) (hd : (x == ("__debug__" : Str)) = false := by decide) (hcd : (x == ("__classdict__" : Str)) = false := by decide) :
    PE X (.Subscript (.Name x p) (.Constant (.int k) jk pk) pos) (liftE X.K C (dBget i k)) :=
  imp_e (fun σ H Q ⟨sl, B, F, b, r, B', R, e, kk⟩ => by
    unfold dBget at e
    split at e
    · rename_i hs
      split at e
      · rename_i hk
        obtain ⟨n, e1, e⟩ := mpd e
        cases e
        obtain ⟨v, hv, q, hq, rfl⟩ := R.slt i _ hs
        have hb := R.bx.at_ q hq
        refine ⟨_, hv, q.1, _, k, .int n, rfl, rfl, SqL.of hb.1, ?_, kk _ H F b R Stp.refl (.int n)⟩
        exact atI_pos hk (by rw [List.getElem?_map, e1]; rfl)
      · cases e
    · cases e) (pe_ix ix_list (pe_var hN hv hd hcd) pe_int (fun _ _ => rfl))
theorem v_cells (i : Nat) (hN : X.N[i]? = some x := by rfl) (hv : Vis X.env.scope x := by first | exact Or.inl rfl | exact Or.inr (Or.inl rfl) | exact Or.inr (Or.inr rfl)) (hd : (x == ("__debug__" : Str)) = false := by decide) (hcd : (x == ("__classdict__" : Str)) = false := by decide) :
    PE X (.Subscript (.Name x p) (.Constant (.int 0) jk pk) pos) (liftV X.K C (dBcells i)) :=
  imp_e (fun σ H Q ⟨sl, B, F, b, r, B', R, e, kk⟩ => by
    unfold dBcells at e
    split at e
    · rename_i hs
      cases e
      obtain ⟨v, hv, q, hq, rfl⟩ := R.slt i _ hs
      have hb := R.bx.at_ q hq
      exact ⟨_, hv, q.1, _, 0, .ref q.2, rfl, rfl, SqL.of hb.1, atI_nat (j := 0) rfl, kk _ H F b R Stp.refl ⟨q, hq, rfl⟩⟩
    · cases e) (pe_ix ix_list (pe_var hN hv hd hcd) pe_int (fun _ _ => rfl))
theorem e_lenC (hm : X.mg "len" = none) (h : PE X e (liftV X.K C dv)) (hg : Gl X "len" := by rfl) (hs : starEach (e :: []) X.env = (false, eval e X.env) :: starEach [] X.env := by rfl) (hpl : (backTo pos (starEach [] X.env)).any (·.1) = false := by rfl) : PE X (.Call (.Name "len" p) [e] [] pos) (liftE X.K C (dLenC dv)) :=
  imp_e (fun σ H Q ⟨sl, B, F, b, r, B', R, e, kk⟩ => by
    obtain ⟨⟨y, B1⟩, e1, e⟩ := bnd e
    split at e
    · rename_i hy
      cases e
      have hy : y = .cells := hy
      subst hy
      refine ⟨sl, B, F, b, _, _, R, e1, fun v H' F' b' R' S' ⟨q, hq, ev⟩ => ?_⟩
      subst ev
      have hb := R'.bx.at_ q hq
      refine ⟨_, _, rfl, .inl ⟨_, SqL.of hb.2.1, rfl⟩, ?_⟩
      rw [List.length_map]
      exact kk _ H' F' b' R' S' (.int _)
    · cases e) (pe_callB call_len hg hm PySem.boot_len (pa_cons h pa_nil hs) (by decide) (by decide) hs hpl)
theorem e_getC (h : PE X e (liftV X.K C dv)) {c : Expr} (hc : PE X c (liftE X.K C d)) (hs : PlainIx c := by exact fun _ _ => rfl) : PE X (.Subscript e c pos) (liftE X.K C (dGetC dv d)) :=
  imp_e (fun σ H Q ⟨sl, B, F, b, r, B', R, e, kk⟩ => by
    obtain ⟨⟨y, B1⟩, e1, e⟩ := bnd e
    split at e
    · rename_i hy
      have hy : y = .cells := hy
      subst hy
      obtain ⟨⟨z, B2⟩, e2, e⟩ := bnd e
      split at e
      · rename_i k hz
        have hz : z = .int k := hz
        subst hz
        obtain ⟨n, e3, e⟩ := mpd e
        cases e
        refine ⟨sl, B, F, b, _, _, R, e1, fun v H1 F1 b1 R1 S1 q1 => ⟨sl, _, F1, b1, _, _, R1, e2, fun u H2 F2 b2 R2 S2 q2 => ?_⟩⟩
        obtain ⟨q, hq, ev⟩ := q1.mono S2
        subst ev
        cases q2
        have hb := R2.bx.at_ q hq
        refine ⟨q.2, _, k, .int n, rfl, rfl, SqL.of hb.2.1, ?_, kk _ H2 F2 b2 R2 (S1.trans S2) (.int n)⟩
        rw [atI_map, e3]; rfl
      · cases e
    · cases e) (pe_ix ix_list h hc hs)
theorem e_popC (h : PE X e (tBM X.K "list" rPopAt (liftV X.K C dv) (tCons (tC (.int 0)) tNil))) : PE X e (liftE X.K C (dPopC dv)) :=
  imp_e (fun σ H Q ⟨sl, B, F, b, r, B', R, e, kk⟩ => by
    obtain ⟨⟨y, B1⟩, e1, e⟩ := bnd e
    split at e
    · rename_i hy
      have hy : y = .cells := hy
      subst hy
      split at e
      · rename_i c rr hc
        cases e
        refine ⟨sl, B, F, b, _, _, R, e1, fun v H1 F1 b1 R1 S1 ⟨q, hq, ev⟩ => ?_⟩
        subst ev
        have hb := R1.bx.at_ q hq
        have hc : B1.cells = c :: rr := hc
        refine ⟨.inl ⟨rfl, _, SqL.of hb.2.1⟩, q.2, _, 0, 0, .int c, rfl, rfl, hb.2.1, by decide, by decide, ?_, by rw [hc]; rfl, ?_⟩
        · rw [hc]
          show seqIndex? 0 (List.map V.int (c :: rr)).length = some 0
          rw [List.length_map, List.length_cons]
          unfold seqIndex?
          simp
        · have nx : q.1 ≠ q.2 := hb.2.2.2.2
          have bx' : BxR F1 (upd H1 q.2 (.lst ((B1.cells.map V.int).eraseIdx 0))) b1 { B1 with cells := rr } := ⟨fun t ht => by
            have : t = q := by rw [hq] at ht; exact (Option.some.inj ht).symm
            subst this
            refine ⟨by rw [upd_ne nx]; exact hb.1, ?_, hb.2.2.1, hb.2.2.2.1, nx⟩
            rw [upd_same, hc]; rfl, R1.bx.liv⟩
          have fr' : Ext F1 (upd H1 q.2 (.lst ((B1.cells.map V.int).eraseIdx 0))) := fun a o g => by
            rw [upd_ne (fun z => by subst z; rw [hb.2.2.2.1] at g; cases g)]
            exact R1.fro a o g
          have S2 : Stp F1 b1 H1 F1 b1 (upd H1 q.2 (.lst ((B1.cells.map V.int).eraseIdx 0))) := ⟨Ext.refl _, fun a o g n => by
            rw [upd_ne (fun z => n ⟨q, hq, .inr z⟩)]
            exact g, fun _ _ z => z, fun _ z => z, fun _ z => .inl z, fun a g => by
            unfold upd
            split
            · exact Option.some_ne_none _
            · exact g⟩
          exact kk _ _ _ _ (R1.step S2 fr' bx') (S1.trans S2) (.int c)
      · cases e
    · cases e) h
theorem s_bset (i : Nat) (k : Int) (h : PE X e (liftE X.K C d)) (hN : X.N[i]? = some x := by rfl) (hv : Vis X.env.scope x := by first | exact Or.inl rfl | exact Or.inr (Or.inl rfl) | exact Or.inr (Or.inr rfl)) (hd : (x == ("__debug__" : Str)) = false := by decide) (hcd : (x == ("__classdict__" : Str)) = false := by decide)
    {tp sp : Pos} (hs : swapsWithSole [.Subscript (.Name x p) (.Constant (.int k) jk pk) tp] e sp.line X.env = pure false := by rfl) (hw : swappedStores [.Subscript (.Name x p) (.Constant (.int k) jk pk) tp] e X.env = pure none := by rfl)
    (h1 : (assignEach [.Subscript (.Name x p) (.Constant (.int k) jk pk) tp] X.env).map (·.2) = [assign (.Subscript (.Name x p) (.Constant (.int k) jk pk) tp) X.env] := by rfl) :
    PS X (.Assign [.Subscript (.Name x p) (.Constant (.int k) jk pk) tp] e sp) (liftS X.K C (dBset i k d)) :=
  imp_s (fun D σ H ⟨sl, B, F, b, o, R, e, kk⟩ => by
    obtain ⟨⟨y, B1⟩, e1, e⟩ := bnd e
    split at e
    · rename_i n hy hs
      have hy : y = .int n := hy
      subst hy
      split at e
      · rename_i hk
        cases e
        refine ⟨sl, B, F, b, _, _, R, e1, fun v H1 F1 b1 R1 S1 q1 => ?_⟩
        cases q1
        obtain ⟨v, hv, q, hq, rfl⟩ := R1.slt i _ hs
        have hb := R1.bx.at_ q hq
        have nx : q.1 ≠ q.2 := hb.2.2.2.2
        have hk2 : (k - 1).toNat < B1.regs.length := hk.2
        have ek : k = (((k - 1).toNat + 1 : Nat) : Int) := by omega
        refine ⟨_, hv, q.1, _, k, (k - 1).toNat + 1, rfl, rfl, hb.1, ?_, ?_⟩
        · unfold ixN
          rw [if_pos (by omega), List.length_cons, List.length_map, if_pos (by omega)]
          congr 1
          omega
        · have hset : (V.ref q.2 :: B1.regs.map V.int).set ((k - 1).toNat + 1) (.int n) = V.ref q.2 :: (B1.regs.set (k - 1).toNat n).map V.int := by
            rw [List.set_cons_succ, List.map_set]
          rw [hset]
          have bx' : BxR F1 (upd H1 q.1 (.lst (V.ref q.2 :: (B1.regs.set (k - 1).toNat n).map V.int))) b1 { B1 with regs := B1.regs.set (k - 1).toNat n } := ⟨fun t ht => by
            have : t = q := by rw [hq] at ht; exact (Option.some.inj ht).symm
            subst this
            exact ⟨upd_same, by rw [upd_ne (Ne.symm nx)]; exact hb.2.1, hb.2.2.1, hb.2.2.2.1, nx⟩, R1.bx.liv⟩
          have fr' : Ext F1 (upd H1 q.1 (.lst (V.ref q.2 :: (B1.regs.set (k - 1).toNat n).map V.int))) := fun a o g => by
            rw [upd_ne (fun z => by subst z; rw [hb.2.2.1] at g; cases g)]
            exact R1.fro a o g
          have S2 : Stp F1 b1 H1 F1 b1 (upd H1 q.1 (.lst (V.ref q.2 :: (B1.regs.set (k - 1).toNat n).map V.int))) := ⟨Ext.refl _, fun a o g nn => by
            rw [upd_ne (fun z => nn ⟨q, hq, .inl z⟩)]
            exact g, fun _ _ z => z, fun _ z => z, fun _ z => .inl z, fun a g => by
            unfold upd
            split
            · exact Option.some_ne_none _
            · exact g⟩
          exact kk F1 b1 σ _ (R1.step S2 fr' bx') S1.ex
      · cases e
    · cases e) (ps_asg h (pg_sub (pe_var hN hv hd hcd) pe_int set_list) hs hw h1)
theorem e_lenS (i : Nat) (hm : X.mg "len" = none) (hN : X.N[i]? = some x := by rfl) (hv : Vis X.env.scope x := by first | exact Or.inl rfl | exact Or.inr (Or.inl rfl) | exact Or.inr (Or.inr rfl)) (hd : (x == ("__debug__" : Str)) = false := by decide) (hcd : (x == ("__classdict__" : Str)) = false := by decide) (hg : Gl X "len" := by rfl)
    (hs : starEach (Expr.Name x pk :: []) X.env = (false, eval (Expr.Name x pk) X.env) :: starEach [] X.env := by rfl) (hpl : (backTo pos (starEach [] X.env)).any (·.1) = false := by rfl) : PE X (.Call (.Name "len" p) [.Name x pk] [] pos) (liftE X.K C (dLenS i)) :=
  imp_e (fun σ H Q ⟨sl, B, F, b, r, B', R, e, kk⟩ => by
    unfold dLenS at e
    split at e
    · rename_i ns hs
      cases e
      obtain ⟨v, hv, a, rfl, ha⟩ := R.slt i _ hs
      refine ⟨_, hv, _, _, rfl, .inl ⟨_, R.fro.sqL ha, rfl⟩, ?_⟩
      rw [List.length_map]
      exact kk _ H F b R Stp.refl (.int _)
    · cases e) (pe_callB (t := tCons (tVar i) tNil) call_len hg hm PySem.boot_len (pa_cons (pe_var hN hv hd hcd) pa_nil hs) (by decide) (by decide) hs hpl)
/-- [list(script[:k]), ..] -/
theorem v_newB (i : Nat) (k : Int) {dl : DL} (h : PE X e (tLst (tCons (tCB (fun xs H Q => ∃ p ys, xs = [.ref p] ∧ (SqL X.K H p ys ∨ SqT X.K H p ys) ∧ ∀ l, H l = none → Q (.ref l) (upd H l (.lst ys))) (tCons (tSl (rSlL X.K) (tVar i) tNoPart (tPart (tC (.int k)))) tNil)) (liftD X.K C dl)))) : PE X e (liftV X.K C (dNewB i k dl)) :=
  imp_e (fun σ H Q ⟨sl, B, F, b, r, B', R, e, kk⟩ => by
    unfold dNewB at e
    split at e
    · rename_i ns hs
      split at e
      · rename_i hk
        obtain ⟨⟨xs, B1⟩, e1, e⟩ := bnd e
        obtain ⟨rs, e2, e'⟩ := bnd e
        clear e
        split at e'
        · rename_i hr
          have e2 := intsOf_eq e2
          have e2 : xs = rs.map PyData.int := e2
          subst e2
          cases e'
          obtain ⟨v, hv, a, rfl, ha⟩ := R.slt i _ hs
          refine ⟨_, hv, k, rfl, a, ns.map V.int, rfl, R.fro.sqL ha, fun p0 h0 => ⟨p0, _, rfl, .inl (SqL.of upd_same), fun p1 h1 => ?_⟩⟩
          have n10 : p1 ≠ p0 := fun z => by rw [z, upd_same] at h1; cases h1
          have h1' : H p1 = none := by rw [upd_ne n10] at h1; exact h1
          have R1 := (R.new h0).new (o := .lst (cutV (ns.map V.int) none (some k))) h1
          have S1 := (Stp.new (F := F) (b := b) (o := .lst (cutV (ns.map V.int) none (some k))) h0).trans (Stp.new (F := F) (b := b) (o := .lst (cutV (ns.map V.int) none (some k))) h1)
          refine ⟨sl, B, F, b, _, _, R1, e1, fun us H3 F3 b3 R3 S3 q3 => ?_⟩
          have eb : b = none := by
            have := R.bx.liv
            rw [hk.1] at this
            cases b with
            | none => rfl
            | some _ => cases this
          have eb3 : b3 = none := by
            have := R3.bx.liv
            rw [hr.2] at this
            cases b3 with
            | none => rfl
            | some _ => cases this
          subst eb eb3
          have eu := q3.ints
          subst eu
          refine ⟨?_, fun p2 h2 => ?_⟩
          · rw [List.length_cons, List.length_map]
            exact sized _ (by omega)
          · have g1 : H3 p1 = some (.lst (cutV (ns.map V.int) none (some k))) := S3.pr p1 _ upd_same (fun ⟨_, z, _⟩ => nomatch z)
            have n21 : p1 ≠ p2 := ne_of_none g1 h2
            have f1 : F3 p1 = none := S3.ko p1 (by rw [upd_same]; exact Option.some_ne_none _) (not_in_F R.fro h1')
            have f2 : F3 p2 = none := not_in_F R3.fro h2
            have t2 : H p2 = none := by
              cases z : H p2 with
              | none => rfl
              | some o => exact absurd h2 ((S1.trans S3).tr p2 (by rw [z]; exact Option.some_ne_none _))
            have ec : cutV (ns.map V.int) none (some k) = (ns.take k.toNat).map V.int := by
              unfold cutV
              have : k = ((k.toNat : Nat) : Int) := by omega
              rw [this, HT.sIx_none, HT.sIx_nat, Nat.sub_zero, List.drop_zero, List.map_take, Int.toNat_natCast, List.length_map]
              rcases Nat.le_total k.toNat ns.length with z | z
              · rw [Nat.min_eq_left z]
              · rw [Nat.min_eq_right z, List.take_of_length_le (by simp), List.take_of_length_le (by simpa using z)]
            rw [ec] at g1
            have S4 : Stp F none H F3 (some (p2, p1)) (upd H3 p2 (.lst (V.ref p1 :: rs.map V.int))) := by
              have S := S1.trans S3
              refine ⟨S.ex, fun c o g n => ?_, S.ko, (fun _ z => nomatch z), fun c ⟨q, hq, hc⟩ => .inr ?_, fun c g => ?_⟩
              · rw [upd_ne (ne_of_none g t2)]
                exact S.pr c o g n
              · cases hq
                rcases hc with z | z
                · rw [z]; exact t2
                · rw [z]; exact h1'
              · rw [upd_ne (fun z => by subst z; exact g t2)]
                exact S.tr c g
            refine kk _ _ F3 (some (p2, p1)) (R.step S4 (fun c o g => ?_) ⟨fun q hq => ?_, rfl⟩) S4 ⟨_, rfl, rfl⟩
            · rw [upd_ne (fun z => by subst z; rw [f2] at g; cases g)]
              exact R3.fro c o g
            · cases hq
              exact ⟨upd_same, by rw [upd_ne n21]; exact g1, f2, f1, Ne.symm n21⟩
        · cases e'
      · cases e
    · cases e) h
end

/-! ### name op= e, of ints -/
def dAug (f : Int → Int → Int) (i : Nat) (d : DE) : DS := fun sl B => match sl[i]? with
  | some (some (.dat (.int a))) => (d sl B).bind fun p => match p.1 with
    | .int c => some (.nx (sl.set i (some (.dat (.int (f a c))))) p.2)
    | _ => none
  | _ => none
section
variable {X : Cx} {C : Fx} {e : Expr} {d : DE} {pos : Pos}
theorem s_aug (i : Nat) {op : Operator} {f : Int → Int → Int} {x : Str} {pos' : Pos} (ho : PIp X op (ipI f)) (hN : X.N.Nodup) (h : PE X e (liftE X.K C d)) (hi : X.N[i]? = some x := by rfl) (hx : Loc X.env.scope x := by first | exact .inl rfl | exact .inr rfl) (hf : X.fn x = true ∨ X.env.scope.names.lookup x = some .local := by first | exact .inl rfl | exact .inr rfl) :
    PS X (.AugAssign (.Name x pos') op e pos) (liftS X.K C (dAug f i d)) := imp_s (fun D σ H ⟨sl, B, F, b, o, R, e, k⟩ => by
  unfold dAug at e
  split at e
  · rename_i a hs
    obtain ⟨⟨y, B1⟩, e1, e⟩ := bnd e
    split at e
    · rename_i c hy
      have hy : y = .int c := hy
      subst hy
      cases e
      obtain ⟨v, hv, q⟩ := R.slt i _ hs
      cases q
      refine ⟨_, hv, sl, B, F, b, _, _, R, e1, fun u H1 F1 b1 R1 S1 q1 => ?_⟩
      cases q1
      exact ⟨a, c, rfl, rfl, k F1 b1 _ H1 (R1.put (s := .dat _) (.int _) (fun _ z => nomatch z)) S1.ex⟩
    · cases e
  · cases e) (ps_aug hN hi hx h ho hf)

/-! ### xs.index(y) -/
def pyIndex (xs : List PyData) (y : PyData) : Option PyData :=
  if SeqAt.shaped (.list xs) = true ∧ SeqAt.shaped y = true then (xs.findIdx? fun z => PyData.eqv z y).map fun j => .int (j : Nat) else none
def dIndex (d d2 : DE) : DE := fun sl B => (d sl B).bind fun p => (d2 sl p.2).bind fun q => match p.1 with
  | .list xs => (pyIndex xs q.1).map fun z => (z, q.2)
  | _ => none
theorem e_index {d2 : DE} (h : PE X e (tBM X.K "list" (rIndexD X.K) (liftO X.K C d) (tCons (liftO X.K C d2) tNil))) : PE X e (liftE X.K C (dIndex d d2)) :=
  imp_e (fun σ H Q ⟨sl, B, F, b, r, B', R, e, kk⟩ => by
    obtain ⟨⟨y, B1⟩, e1, e⟩ := bnd e
    obtain ⟨⟨z, B2⟩, e2, e'⟩ := bnd e
    clear e
    split at e'
    · rename_i xs hy
      have hy : y = .list xs := hy
      subst hy
      obtain ⟨w, e3, e4⟩ := mpd e'
      cases e4
      refine ⟨sl, B, F, b, _, _, R, e1, fun v H1 F1 b1 R1 S1 q1 => ?_⟩
      have q1' := q1
      obtain ⟨a, vs, rfl, g1, g2, g3⟩ := q1'
      refine ⟨.inl ⟨rfl, _, SqL.of g1⟩, sl, B1, F1, b1, _, _, R1, e2, fun u H2 F2 b2 R2 S2 q2 => ?_⟩
      unfold pyIndex at e3
      split at e3
      · rename_i hh
        obtain ⟨j, e4, e3⟩ := mpd e3
        cases e3
        rw [List.findIdx?_eq_some_iff_getElem] at e4
        obtain ⟨hl, h1, h2⟩ := e4
        exact ⟨a, u, z, xs, j, xs[j], rfl, rfl, (q1.mono S2).dp R2.fro, q2.dp R2.fro, hh.1, hh.2, List.getElem?_eq_getElem hl, h1, fun m z' hm hz => by
          have hm2 : m < xs.length := Nat.lt_trans hm hl
          rw [List.getElem?_eq_getElem hm2] at hz
          cases hz
          have := h2 m hm
          simpa using this, kk _ H2 F2 b2 R2 (S1.trans S2) (.int _)⟩
      · cases e3
    · cases e') h
end
end Dn

set_option Elab.async false
set_option linter.all false
set_option autoImplicit false
set_option maxRecDepth 100000
set_option maxHeartbeats 2000000
namespace Dn
open PySem PySem.Spec PyProof.Rows L2

/-! ### enumerate, zip over lists and tuples -/
structure Src where
  t : Bool
  a : Addr
  vs : List V
def SrcH (K : Frg) (H : Hp) (z : Src) : Prop := if z.t = true then SqT K H z.a z.vs else SqL K H z.a z.vs
def SrcI (h : Heap) (z : Src) (items : Array Value) : Prop := if z.t = true then h.IsTuple z.a items else h.IsList z.a items
def SrcAt (h : Heap) (it : Addr) (z : Src) (i : Nat) : Prop := if z.t = true then h.IsTupleIter it z.a i else h.IsListIter it z.a i
def SrcO (z : Src) : Obj := if z.t = true then { cls := .type "tuple_iterator", data := .fields #[.ref z.a, .int 0 0] } else { cls := .type "list_iterator", data := .fields #[.ref z.a, .int 0 0] }
theorem src_items {X : Cx} {pins : List (Addr × Obj)} {σ : L2.St} {H : Hp} {s : Shared} (I : Inv X pins σ H s) {z : Src} (h : SrcH X.K H z) : ∃ its : List Value, Vals z.vs its ∧ SrcI s.heap z its.toArray ∧ z.a < s.heap.objs.size := by
  obtain ⟨t, a, vs⟩ := z
  cases t with
  | true =>
    have h' : SqT X.K H a vs := h
    obtain ⟨its, rv, q, _⟩ := I.tuple h'
    obtain ⟨o, ho, _⟩ := id q
    exact ⟨its, rv, q, Heap.lt_size ho⟩
  | false =>
    have h' : SqL X.K H a vs := h
    obtain ⟨its, rv, q, _⟩ := I.list h'
    exact ⟨its, rv, q.isList, q.lt⟩
theorem src_draws {prog : Program} {w : World} {A : Around} (hh : A.handled = none) (it : Addr) (z : Src) (hne : z.a ≠ it) (items : Array Value) :
    Draws prog w A it [it, z.a] items.size (fun i v => items[i]? = some v) (fun i h => SrcAt h it z i ∧ SrcI h z items) := by
  obtain ⟨t, a, vs⟩ := z
  cases t with
  | true => exact Draws.tuple hh it a hne items
  | false => exact Draws.list hh it a hne items
theorem src_begins (z : Src) (items : Array Value) : Begins (.ref z.a) (SrcO z) fun h => SrcI h z items := by
  obtain ⟨t, a, vs⟩ := z
  cases t with
  | true => exact begins_tuple a items
  | false => exact begins_list a items
theorem src_at {h : Heap} {it : Addr} {z : Src} (e : h.get? it = some (SrcO z)) : SrcAt h it z 0 := by
  obtain ⟨t, a, vs⟩ := z
  cases t with
  | true => exact ⟨_, e, rfl, rfl⟩
  | false => exact ⟨_, e, rfl, rfl⟩
theorem src_obj {h : Heap} {it : Addr} {z : Src} {i : Nat} (st : SrcAt h it z i) : ∃ o, h.get? it = some o ∧ ∀ v, o.data ≠ .cell v := by
  obtain ⟨t, a, vs⟩ := z
  cases t with
  | true =>
    obtain ⟨o, e, c, d⟩ := st
    exact ⟨o, e, fun v q => by rw [d] at q; cases q⟩
  | false =>
    obtain ⟨o, e, c, d⟩ := st
    exact ⟨o, e, fun v q => by rw [d] at q; cases q⟩
theorem src_keep {h h' : Heap} {it : Addr} {z : Src} {i : Nat} (st : SrcAt h it z i) (k : ∀ o, h.get? it = some o → h'.get? it = some o) : SrcAt h' it z i := by
  obtain ⟨t, a, vs⟩ := z
  cases t with
  | true => exact Heap.IsTupleIter.at st k
  | false => exact Heap.IsListIter.at st k
/-- n turns, each a new tuple -/
def ItS (K : Frg) (srcs : List Src) (n : Nat) (ys : Nat → List V) : It :=
  ⟨fun i H => i < n ∧ ∀ z ∈ srcs, SrcH K H z, fun i H v H' => ∃ T, v = .ref T ∧ H T = none ∧ H' = upd H T (.tup (ys i)), fun i H => i = n ∧ ∀ z ∈ srcs, SrcH K H z⟩
theorem turn_gen {P : Program} {w : World} {K : Frg} {elts : List Expr} {kk : Nat} {tpos : Pos} {srcs : List Src} {n : Nat} {ys : Nat → List V} {I0 : Addr} {fp : List Addr} {tn : Nat → Heap → Prop} (mem : I0 ∈ fp)
    (obj : ∀ i h, tn i h → ∀ b ∈ fp, ∃ o, h.get? b = some o ∧ ∀ v, o.data ≠ .cell v) (keep : ∀ i h h', tn i h → (∀ b ∈ fp, ∀ o, h.get? b = some o → h'.get? b = some o) → tn i h')
    (self : ∀ (A : Around) (i : Nat) (s : Shared) (Q : Value → Shared → Prop) (E : Value → Shared → Prop), tn i s.heap → Q (.ref I0) s → wpAny (model P w) A (pyIter (.ref I0)) Q E s) (hy : ∀ i, (ys i).length ≤ 3)
    (G : ∀ (X : Cx), X.prog = P → X.w = w → X.K = K → X.calm = true → ∀ (pins : List (Addr × Obj)) (s : Shared) (σ : L2.St) (H : Hp), Inv X pins σ H s → (∀ z ∈ srcs, SrcH K H z) → ∀ i, tn i s.heap →
      ∃ (fpG wr : List Addr) (St : Nat → Heap → Prop), GoesN P w X.A (.Tuple elts kk tpos) I0 fpG wr n (fun i h0 v h => ∃ T vals, v = .ref T ∧ h0.objs.size ≤ T ∧ Vals (ys i) vals ∧ h.IsTuple T vals.toArray) St ∧ (∀ b ∈ wr, b ∈ fp) ∧ St i s.heap ∧ ∀ j h, St j h → tn j h) :
    Turn P w K (.Tuple elts kk tpos) (ItS K srcs n ys) fp I0 tn where
  mem := mem
  obj := obj
  keep := keep
  self := self
  item := by
    intro X hP hw hK hc i pins s σ H E I hf st ⟨hi, hsrc⟩
    obtain ⟨fpG, wr, St, W, sub, st0, back⟩ := G X hP hw hK hc pins s σ H I hsrc i st
    subst hP hw hK
    refine W.goes i s (fun u s2 => ∃ x H', Inv X pins σ H' s2 ∧ RelV x u ∧ (ItS X.K srcs n ys).yld i H x H' ∧ tn (i + 1) s2.heap ∧ ∀ b ∈ fp, H' b = none) E hi st0 fun v h' tk ⟨T, vals, ev, hT, rv, ht⟩ st' kp _ => ?_
    subst ev
    have new : ObjOk X.prog X.w (upd H T (.tup (ys i))) h' T (.tup (ys i)) := ⟨sized _ (Nat.le_trans (hy i) (by decide)), vals, rv, ht⟩
    have I1 : Inv X pins σ (upd H T (.tup (ys i))) { s with heap := h', toks := tk } := I.turnedNew (ch := fp) (fun b o hb q => kp b o (fun z => hb (sub b z)) q) hf hT new
    refine ⟨.ref T, _, I1, rfl, ⟨T, rfl, I.hok.fresh hT, rfl⟩, back _ _ st', fun b hb => ?_⟩
    obtain ⟨o, ho, _⟩ := obj i s.heap st b hb
    rw [upd_ne (Nat.ne_of_lt (Nat.lt_of_lt_of_le (Heap.lt_size ho) hT))]
    exact (hf b hb).1
  done := by
    intro X hP hw hK hc i pins s σ H E I hf st ⟨hi, hsrc⟩
    obtain ⟨fpG, wr, St, W, sub, st0, back⟩ := G X hP hw hK hc pins s σ H I hsrc i st
    subst hP hw hK hi
    exact W.stops s (fun s2 => Inv X pins σ H s2) E st0 fun h' tk kp _ => I.turnedL (ch := fp) (fun b o hb q => kp b o (fun z => hb (sub b z)) q) hf
theorem isTup_of {h : Heap} {T : Addr} {a b : Value} (x : h.IsTuple T #[a, b]) : h.IsTuple T [a, b].toArray := x
set_option maxHeartbeats 2000000 in
theorem meets_enum1 {v : Value} {o : Obj} {Hh : Heap → Prop} (Bg : Begins v o Hh) :
    Meets (Builtin.«enumerate.__new__» ⟨[.type "enumerate", v], []⟩) (fun _ R s => Hh s.heap ∧ R (.ok (.ret (.ref (s.heap.push o).objs.size))) { s with heap := (s.heap.push o).push { cls := .type "enumerate", data := .fields #[.none, .bool false, .ref s.heap.objs.size, rawInt 0, .none, .none] } }) :=
  .of_wp fun prog w A R s hyp => by
    obtain ⟨hp, gg, dd, tt, os⟩ := s; obtain ⟨g1, fin⟩ := hyp
    have sub := sub_enumerate
    have nx1 : ∀ {A' : Around} {E : Value → Shared → Prop} {Q : Value → Shared → Prop}, Q (.ref hp.objs.size) ⟨hp.push o, gg, dd, tt, os⟩ → wpAny (model prog w) A' (pyIter v) Q E ⟨hp, gg, dd, tt, os⟩ :=
      fun q => Bg.iter prog w _ _ ⟨hp, gg, dd, tt, os⟩ _ g1 q
    wp_walk using nx1
    refine wpAny_stack_any (fun stk => wpAny_pure ?_)
    split
    · rename_i cc _ _ _ _ _
      cases (cc == Value.type "enumerate") <;> (wp_walk using nx1; exact ⟨_, rfl, fin⟩)
    · wp_walk using nx1
      exact ⟨_, rfl, fin⟩
theorem enum1_begins {prog : Program} {w : World} {A : Around} {E : Value → Shared → Prop} {s : Shared} {v : Value} {o : Obj} {Hh : Heap → Prop} {Q : Value → Shared → Prop} (Bg : Begins v o Hh) (h1 : Hh s.heap)
    (k : ∀ h', IsEnum h' (s.heap.objs.size + 1) s.heap.objs.size 0 .none → h'.get? s.heap.objs.size = some o → (∀ b o, s.heap.get? b = some o → h'.get? b = some o) → Q (.ref (s.heap.objs.size + 1)) { s with heap := h' }) :
    wpAny (model prog w) A (call (.type "enumerate") [v]) Q E s := by
  refine callType_new F.called_enumerate (by decide) (F.typeCall_enumerate_1 _) (F.newCall_enumerate_1 _) (fun oo => F.args_object_init_2 oo _) F.entry_enumerate_new (meets_enum1 Bg) ⟨h1, ?_⟩
  have hz : (s.heap.push o).objs.size = s.heap.objs.size + 1 := Heap.size_push ..
  have he : IsEnum ((s.heap.push o).push { cls := .type "enumerate", data := .fields #[.none, .bool false, .ref s.heap.objs.size, rawInt 0, .none, .none] }) (s.heap.objs.size + 1) s.heap.objs.size 0 .none := by
    rw [← hz]
    exact Heap.get?_push_size (s.heap.push o) (o := { cls := .type "enumerate", data := .fields #[.none, .bool false, .ref s.heap.objs.size, rawInt 0, .none, .none] }) rfl
  show _ ∧ _
  rw [hz]
  exact ⟨⟨_, he, rfl⟩, k _ he (Heap.get?_push_of_some _ (Heap.get?_push_size _ Bg.free)) fun b u x => Heap.get?_push_of_some _ (Heap.get?_push_of_some _ x)⟩
end Dn

set_option Elab.async false
set_option linter.all false
set_option autoImplicit false
set_option maxRecDepth 100000
set_option maxHeartbeats 2000000
namespace Dn
open PySem PySem.Spec PyProof.Rows L2

def ysE (z : Src) (i : Nat) : List V := [.int (i : Nat), z.vs.getD i .non]
def ysZ (z1 z2 : Src) (i : Nat) : List V := [z1.vs.getD i .non, z2.vs.getD i .non]
theorem vals_getD {xs : List V} {its : List Value} {i : Nat} {u : Value} (rv : Vals xs its) (h : its.toArray[i]? = some u) : RelV (xs.getD i .non) u := by
  have h' : its[i]? = some u := by simpa using h
  have hl : i < xs.length := by
    rw [rv.length]
    rcases Nat.lt_or_ge i its.length with q | q
    · exact q
    · rw [List.getElem?_eq_none q] at h'; cases h'
  obtain ⟨u', e1, e2⟩ := rv.get (List.getElem?_eq_getElem hl)
  rw [h'] at e1
  cases e1
  rw [List.getD_eq_getElem?_getD, List.getElem?_eq_getElem hl]
  exact e2
theorem turn_enumS {P : Program} {w : World} {K : Frg} {elts : List Expr} {kk : Nat} {tpos : Pos} (z : Src) (e it : Addr) :
    Turn P w K (.Tuple elts kk tpos) (ItS K [z] z.vs.length (ysE z)) [e, it] e (fun i h => (∃ old, IsEnum h e it ((i : Nat) : Int) old) ∧ SrcAt h it z i ∧ e ≠ it ∧ z.a ≠ it ∧ e ≠ z.a) := by
  refine turn_gen (by simp) (fun i h st b hb => ?_) (fun i h h' st k => ?_) (fun A i s Q E st h => ?_) (fun i => by show 2 ≤ 3; decide) fun X hP hw hK hc pins s σ H I hs i st => ?_
  · obtain ⟨⟨old, he⟩, hi, _⟩ := st
    rcases (by simpa using hb : b = e ∨ b = it) with q | q
    · rw [q]; exact ⟨_, he, fun v t => nomatch t⟩
    · rw [q]; exact src_obj hi
  · obtain ⟨⟨old, he⟩, hi, hne⟩ := st
    exact ⟨⟨old, k e (by simp) _ he⟩, src_keep hi (fun o q => k it (by simp) o q), hne⟩
  · obtain ⟨⟨old, he⟩, _⟩ := st
    exact wpAny_pyIter_enum he h
  · subst hP hw hK
    obtain ⟨⟨old, he⟩, hi, hne, hza, hez⟩ := st
    obtain ⟨its, rv, hI, _⟩ := src_items I (hs z (by simp))
    have D : Draws X.prog X.w X.A.in1 it [it, z.a] its.toArray.size (fun i v => its.toArray[i]? = some v) (fun i h => SrcAt h it z i ∧ SrcI h z its.toArray) := src_draws (show X.A.in1.handled = none from I.ok.hd hc) it z hza its.toArray
    have W := GoesN.enumFrom (elts := elts) (x1 := kk) (pos := tpos) 0 D e hne (by simp; exact ⟨hne, hez⟩) (by simp)
    have en : its.toArray.size = z.vs.length := by rw [List.size_toArray, ← rv.length]
    rw [en] at W
    refine ⟨_, _, _, W.mono fun i h0 v h hi' ⟨T, t, x, ev, hT, hx, ht⟩ => ⟨T, [.int (0 + (i : Int)) t, x], ev, hT, ?_, ht⟩, fun b hb => by simpa using hb, ⟨⟨old, by rw [Int.zero_add]; exact he⟩, hi, hI⟩, fun j h ⟨⟨o, q1⟩, q2, _⟩ => ⟨⟨o, by rw [Int.zero_add] at q1; exact q1⟩, q2, hne, hza, hez⟩⟩
    exact .cons ⟨t, by rw [Int.zero_add]⟩ (.cons (vals_getD rv hx) .nil)
theorem turn_zipS {P : Program} {w : World} {K : Frg} {elts : List Expr} {kk : Nat} {tpos : Pos} (z1 z2 : Src) (N : Nat) (h1 : z1.a < N) (h2 : z2.a < N) :
    Turn P w K (.Tuple elts kk tpos) (ItS K [z1, z2] (min z1.vs.length z2.vs.length) (ysZ z1 z2)) [N + 4, N + 2, N + 3, N, N + 1] (N + 4)
      (fun i h => IsZip h (N + 4) (N + 2) (N + 3) .none ∧ IsTupOf2 h (N + 2) (.ref N) (.ref (N + 1)) ∧ (∃ a1 a2, IsTupOf2 h (N + 3) a1 a2) ∧ SrcAt h N z1 i ∧ SrcAt h (N + 1) z2 i) := by
  refine turn_gen (by simp) (fun i h st b hb => ?_) (fun i h h' st k => ?_) (fun A i s Q E st h => ?_) (fun i => by show 2 ≤ 3; decide) fun X hP hw hK hc pins s σ H I hs i st => ?_
  · obtain ⟨hz, hT, ⟨x, y, hTO⟩, q1, q2⟩ := st
    rcases (by simpa using hb : b = N + 4 ∨ b = N + 2 ∨ b = N + 3 ∨ b = N ∨ b = N + 1) with q | q | q | q | q
    · rw [q]; exact ⟨_, hz, fun v t => nomatch t⟩
    · rw [q]; exact ⟨_, hT, fun v t => nomatch t⟩
    · rw [q]; exact ⟨_, hTO, fun v t => nomatch t⟩
    · rw [q]; exact src_obj q1
    · rw [q]; exact src_obj q2
  · obtain ⟨hz, hT, ⟨x, y, hTO⟩, q1, q2⟩ := st
    exact ⟨k _ (by simp) _ hz, k _ (by simp) _ hT, ⟨x, y, k _ (by simp) _ hTO⟩, src_keep q1 (fun o q => k _ (by simp) o q), src_keep q2 (fun o q => k _ (by simp) o q)⟩
  · exact wpAny_pyIter_zip st.1 h
  · subst hP hw hK
    obtain ⟨hz, hT, hTO, q1, q2⟩ := st
    obtain ⟨its1, rv1, hI1, _⟩ := src_items I (hs z1 (by simp))
    obtain ⟨its2, rv2, hI2, _⟩ := src_items I (hs z2 (by simp))
    have D1 : Draws X.prog X.w X.A.in1 N [N, z1.a] its1.toArray.size (fun i v => its1.toArray[i]? = some v) (fun i h => SrcAt h N z1 i ∧ SrcI h z1 its1.toArray) := src_draws (show X.A.in1.handled = none from I.ok.hd hc) N z1 (Nat.ne_of_lt h1) its1.toArray
    have D2 : Draws X.prog X.w X.A.in1 (N + 1) [N + 1, z2.a] its2.toArray.size (fun i v => its2.toArray[i]? = some v) (fun i h => SrcAt h (N + 1) z2 i ∧ SrcI h z2 its2.toArray) := src_draws (show X.A.in1.handled = none from I.ok.hd hc) (N + 1) z2 (Nat.ne_of_lt (Nat.lt_succ_of_lt h2)) its2.toArray
    have S : ZipSep2 (N + 4) (N + 2) (N + 3) N (N + 1) (N :: [z1.a]) ((N + 1) :: [z2.a]) := zip_sep2 (fun b hb => by rw [List.mem_singleton.mp hb]; exact h1) (fun b hb => by rw [List.mem_singleton.mp hb]; exact h2)
    have W := GoesN.zip2 (elts := elts) (x1 := kk) (pos := tpos) S D1 D2
    have e1 : its1.toArray.size = z1.vs.length := by rw [List.size_toArray, ← rv1.length]
    have e2 : its2.toArray.size = z2.vs.length := by rw [List.size_toArray, ← rv2.length]
    rw [e1, e2] at W
    refine ⟨_, _, _, W.mono fun i h0 v h hi' ⟨T, x, y, ev, hT, hx, hy, ht⟩ => ⟨T, [x, y], ev, hT, ?_, ht⟩, fun b hb => by
      rcases (by simpa using hb : b = N + 4 ∨ b = N + 3 ∨ b = N ∨ b = N + 1) with q | q | q | q <;> simp [q], ⟨hz, hT, hTO, ⟨q1, hI1⟩, ⟨q2, hI2⟩⟩, fun j h ⟨k1, k2, k3, k4, k5⟩ => ⟨k1, k2, k3, k4.1, k5.1⟩⟩
    exact .cons (vals_getD rv1 hx) (.cons (vals_getD rv2 hy) .nil)
def enumD : Nat → List PyData → List PyData
  | _, [] => []
  | k, x :: r => .tuple [.int (k : Nat), x] :: enumD (k + 1) r
def zipD : List PyData → List PyData → List PyData
  | x :: xs, y :: ys => .tuple [x, y] :: zipD xs ys
  | _, _ => []
theorem enumD_get : ∀ (xs : List PyData) (k i : Nat) (x : PyData), (enumD k xs)[i]? = some x → ∃ y, xs[i]? = some y ∧ x = .tuple [.int ((k + i : Nat) : Int), y]
  | [], _, _, _, h => by cases h
  | y :: r, k, 0, x, h => by
    cases h
    exact ⟨y, rfl, rfl⟩
  | y :: r, k, i + 1, x, h => by
    obtain ⟨z, e1, e2⟩ := enumD_get r (k + 1) i x h
    refine ⟨z, e1, ?_⟩
    rw [e2, Nat.add_right_comm k 1 i]
    rfl
theorem enumD_length : ∀ (xs : List PyData) (k : Nat), (enumD k xs).length = xs.length
  | [], _ => rfl
  | _ :: r, k => by rw [enumD, List.length_cons, List.length_cons, enumD_length r]
theorem zipD_get : ∀ (xs ys : List PyData) (i : Nat) (x : PyData), (zipD xs ys)[i]? = some x → ∃ a b, xs[i]? = some a ∧ ys[i]? = some b ∧ x = .tuple [a, b]
  | [], _, _, _, h => by cases h
  | _ :: _, [], _, _, h => by cases h
  | a :: xs, b :: ys, 0, x, h => by
    cases h
    exact ⟨a, b, rfl, rfl, rfl⟩
  | a :: xs, b :: ys, i + 1, x, h => zipD_get xs ys i x h
theorem zipD_length : ∀ (xs ys : List PyData), (zipD xs ys).length = min xs.length ys.length
  | [], _ => by simp [zipD]
  | _ :: _, [] => by simp [zipD]
  | _ :: xs, _ :: ys => by rw [zipD, List.length_cons, List.length_cons, List.length_cons, zipD_length xs ys]; omega
theorem rps_getD {K : Frg} {F : Hp} {vs : List V} {ds : List PyData} {i : Nat} {d : PyData} (r : Rps K F vs ds) (h : ds[i]? = some d) : Rp K F (vs.getD i .non) d := by
  obtain ⟨v, e1, e2⟩ := r.get h
  rw [List.getD_eq_getElem?_getD, e1]
  exact e2
theorem al_tup {K : Frg} {F H : Hp} {T : Addr} {vs : List V} {ds : List PyData} (fr : Ext F H) (hT : H T = none) (r : Rps K F vs ds) : ∃ F2, Al F H F2 (upd H T (.tup vs)) ∧ Rp K F2 (.ref T) (.tuple ds) :=
  ⟨_, .one hT, .tup (SqT.of upd_same) (Rps.mono (Ext.new (not_in_F fr hT)) r)⟩
theorem wk_enum {K : Frg} {F : Hp} {P : Hp → Prop} {z : Src} {xs : List PyData} (hp : ∀ F' H', Ext F F' → Ext F' H' → P H' → SrcH K H' z) (r : Rps K F z.vs xs) : Wk K F P (ItS K [z] z.vs.length (ysE z)) (enumD 0 xs) := fun i F' H' h1 h2 h3 => by
  have hs : ∀ y ∈ [z], SrcH K H' y := fun y hy => by rw [List.mem_singleton.mp hy]; exact hp F' H' h1 h2 h3
  refine ⟨fun x hx => ?_, fun hx => ⟨by rw [hx, enumD_length, r.length], hs⟩⟩
  obtain ⟨y, e1, e2⟩ := enumD_get xs 0 i x hx
  have hl : i < xs.length := by
    rcases Nat.lt_or_ge i xs.length with q | q
    · exact q
    · rw [List.getElem?_eq_none q] at e1; cases e1
  refine ⟨⟨by rw [r.length]; exact hl, hs⟩, fun v H2 ⟨T, ev, hT, eH⟩ => ?_⟩
  subst ev eH e2
  rw [Nat.zero_add]
  exact al_tup h2 hT (.cons (.int _) (.one (Rp.mono h1 (rps_getD r e1))))
theorem wk_zip {K : Frg} {F : Hp} {P : Hp → Prop} {z1 z2 : Src} {xs ys : List PyData} (hp : ∀ F' H', Ext F F' → Ext F' H' → P H' → SrcH K H' z1 ∧ SrcH K H' z2) (r1 : Rps K F z1.vs xs) (r2 : Rps K F z2.vs ys) :
    Wk K F P (ItS K [z1, z2] (min z1.vs.length z2.vs.length) (ysZ z1 z2)) (zipD xs ys) := fun i F' H' h1 h2 h3 => by
  have hs : ∀ y ∈ [z1, z2], SrcH K H' y := fun y hy => by
    rcases (by simpa using hy : y = z1 ∨ y = z2) with q | q
    · rw [q]; exact (hp F' H' h1 h2 h3).1
    · rw [q]; exact (hp F' H' h1 h2 h3).2
  refine ⟨fun x hx => ?_, fun hx => ⟨by rw [hx, zipD_length, r1.length, r2.length], hs⟩⟩
  obtain ⟨a, b, e1, e2, e3⟩ := zipD_get xs ys i x hx
  have hl1 : i < xs.length := by
    rcases Nat.lt_or_ge i xs.length with q | q
    · exact q
    · rw [List.getElem?_eq_none q] at e1; cases e1
  have hl2 : i < ys.length := by
    rcases Nat.lt_or_ge i ys.length with q | q
    · exact q
    · rw [List.getElem?_eq_none q] at e2; cases e2
  refine ⟨⟨by rw [r1.length, r2.length]; exact Nat.lt_min.mpr ⟨hl1, hl2⟩, hs⟩, fun v H2 ⟨T, ev, hT, eH⟩ => ?_⟩
  subst ev eH e3
  exact al_tup h2 hT (.cons (Rp.mono h1 (rps_getD r1 e1)) (.one (Rp.mono h1 (rps_getD r2 e2))))
def dEnum (d : DE) : DL := fun sl B => (dSeq' d sl B).map fun p => (enumD 0 p.1, p.2)
def dZip (d d2 : DE) : DL := fun sl B => (dSeq' d sl B).bind fun p => (dSeq' d2 sl p.2).map fun q => (zipD p.1 q.1, q.2)
/-- a source from a value -/
theorem src_of {K : Frg} {F H : Hp} {b : Bad} {v : V} {x : PyData} {xs : List PyData} (fr : Ext F H) (h : TopR K F H b v x) (e : x = .list xs ∨ x = .tuple xs) : ∃ z : Src, v = .ref z.a ∧ SrcH K H z ∧ Rps K F z.vs xs ∧ (∀ F' H', Ext F F' → Ext F' H' → Keep b H H' → SrcH K H' z) := by
  rcases e with e | e
  · subst e
    obtain ⟨a, vs, rfl, h1, h2, h3⟩ := h
    exact ⟨⟨false, a, vs⟩, rfl, SqL.of h1, h3, fun F' H' _ _ k => SqL.of (k a _ h1 h2)⟩
  · subst e
    have h' : Rp K F v (.tuple xs) := h
    cases h' with
    | tup h1 h2 => exact ⟨⟨true, _, _⟩, rfl, fr.sqT h1, h2, fun F' H' g1 g2 _ => g2.sqT (g1.sqT h1)⟩
theorem src_ofE {K : Frg} {F H : Hp} {v : V} {x : PyData} {xs : List PyData} (fr : Ext F H) (h : Rp K F v x) (e : x = .list xs ∨ x = .tuple xs) : ∃ z : Src, v = .ref z.a ∧ SrcH K H z ∧ Rps K F z.vs xs ∧ (∀ F' H', Ext F F' → Ext F' H' → True → SrcH K H' z) := by
  rcases e with e | e
  · subst e
    cases h with
    | lst h1 h2 => exact ⟨⟨false, _, _⟩, rfl, SqL.of (fr _ _ h1), h2, fun F' H' g1 g2 _ => SqL.of (g2 _ _ (g1 _ _ h1))⟩
  · subst e
    cases h with
    | tup h1 h2 => exact ⟨⟨true, _, _⟩, rfl, fr.sqT h1, h2, fun F' H' g1 g2 _ => g2.sqT (g1.sqT h1)⟩
theorem dSeq_inv {d : DE} {sl : Sl} {B B' : Bx} {xs : List PyData} (h : dSeq' d sl B = some (xs, B')) : ∃ x, d sl B = some (x, B') ∧ (x = .list xs ∨ x = .tuple xs) := by
  obtain ⟨⟨x, B1⟩, e1, e⟩ := bnd h
  split at e
  · rename_i ys hy
    cases e
    exact ⟨_, e1, .inl hy⟩
  · rename_i ys hy
    cases e
    exact ⟨_, e1, .inr hy⟩
  · cases e
section
variable {X : Cx} {C : Fx} {l l2 : Expr} {d d2 : DE} {p pos tpos : Pos} {elts : List Expr} {kk : Nat}
theorem enum_run {pins : List (Addr × Obj)} {σ : L2.St} {H : Hp} {s1 : Shared} {Rr : It → Hp → Prop} {E : Value → Shared → Prop} (I : Inv X pins σ H s1) (z : Src) (hz : SrcH X.K H z) (q : Rr (ItS X.K [z] z.vs.length (ysE z)) H) :
    wpAny (model X.prog X.w) X.A (call (.type "enumerate") [.ref z.a]) (fun v s2 => wpAny (model X.prog X.w) X.A (pyIter v) (PIE X pins σ (.Tuple elts kk tpos) Rr) E s2) E s1 := by
  obtain ⟨its, rv, hI, hlt⟩ := src_items I hz
  refine enum1_begins (src_begins z its.toArray) hI fun h' he hit hk => wpAny_pyIter_enum he ?_
  have I2 : Inv X pins σ H { s1 with heap := h' } := I.kept (t' := s1.toks) hk
  refine ⟨s1.heap.objs.size + 1, [s1.heap.objs.size + 1, s1.heap.objs.size], _, _, H, rfl, I2, turn_enumS z (s1.heap.objs.size + 1) s1.heap.objs.size, ⟨⟨.none, he⟩, src_at hit, Nat.succ_ne_self _, Nat.ne_of_lt hlt, Nat.ne_of_gt (Nat.lt_succ_of_lt hlt)⟩, fun c hc => ?_, q⟩
  have hle : s1.heap.objs.size ≤ c := by
    rcases (by simpa using hc : c = s1.heap.objs.size + 1 ∨ c = s1.heap.objs.size) with q | q
    · rw [q]; exact Nat.le_succ _
    · rw [q]; exact Nat.le_refl _
  exact I.fpOk hle (I.hok.fresh hle)
theorem zip_run {pins : List (Addr × Obj)} {σ : L2.St} {H : Hp} {s1 : Shared} {Rr : It → Hp → Prop} {E : Value → Shared → Prop} (I : Inv X pins σ H s1) (z1 z2 : Src) (hz1 : SrcH X.K H z1) (hz2 : SrcH X.K H z2) (q : Rr (ItS X.K [z1, z2] (min z1.vs.length z2.vs.length) (ysZ z1 z2)) H) :
    wpAny (model X.prog X.w) X.A (call (.type "zip") [.ref z1.a, .ref z2.a]) (fun v s2 => wpAny (model X.prog X.w) X.A (pyIter v) (PIE X pins σ (.Tuple elts kk tpos) Rr) E s2) E s1 := by
  obtain ⟨its1, rv1, hI1, hlt1⟩ := src_items I hz1
  obtain ⟨its2, rv2, hI2, hlt2⟩ := src_items I hz2
  refine zip_begins2 (src_begins z1 its1.toArray) (src_begins z2 its2.toArray) hI1 hI2 fun h' hz hTI hTO h1 h2 _ hk => wpAny_pyIter_zip hz ?_
  have I2 : Inv X pins σ H { s1 with heap := h' } := I.kept (t' := s1.toks) hk
  refine ⟨s1.heap.objs.size + 4, [s1.heap.objs.size + 4, s1.heap.objs.size + 2, s1.heap.objs.size + 3, s1.heap.objs.size, s1.heap.objs.size + 1], _, _, H, rfl, I2, turn_zipS z1 z2 _ hlt1 hlt2, ⟨hz, hTI, ⟨_, _, hTO⟩, src_at h1, src_at h2⟩, fun c hc => ?_, q⟩
  have hle : s1.heap.objs.size ≤ c := by
    rcases (by simpa using hc : c = s1.heap.objs.size + 4 ∨ c = s1.heap.objs.size + 2 ∨ c = s1.heap.objs.size + 3 ∨ c = s1.heap.objs.size ∨ c = s1.heap.objs.size + 1) with q | q | q | q | q <;> rw [q] <;> first | exact Nat.le_add_right _ _ | exact Nat.le_refl _
  exact I.fpOk hle (I.hok.fresh hle)
theorem i_enum (hm : X.mg "enumerate" = none) (h : PE X l (liftE X.K C d)) (hg : Gl X "enumerate" := by rfl) (hs : starEach [l] X.env = [(false, eval l X.env)] := by rfl) (hs' : starEach (l :: []) X.env = (false, eval l X.env) :: starEach [] X.env := by rfl) :
    PI X (.Tuple elts kk tpos) (.Call (.Name "enumerate" p) [l] [] pos) (liftI X.K C (dEnum d)) := ⟨fun pins s σ H Rr I ⟨sl, B, F, b, xs, B', R, e, k⟩ => by
  obtain ⟨⟨ys, B1⟩, e1, e⟩ := mpd e
  cases e
  obtain ⟨x, e2, e3⟩ := dSeq_inv e1
  refine Call_ (ld_blt I hg hm boot_enumerate (PyProof.Rows.callWith_type1 (thn ((pa_cons h pa_nil hs').run pos pins s σ H (fun vs H' => ∃ F' b', Rel X.K C sl B1 F' b' σ H' ∧ Stp F b H F' b' H' ∧ ∃ v, vs = [v] ∧ Rp X.K F' v x) I ⟨sl, B, F, b, x, B1, R, e2, fun v H' F' b' R' S' q => ⟨F', b', R', S', v, rfl, q⟩⟩) fun us s1 ⟨vs, H1, I1, r1, q1⟩ => ?_) hs rfl))
  obtain ⟨F1, b1, R1, S1, v, rfl, q1⟩ := q1
  obtain ⟨z, ev, hz, rz, kz⟩ := src_ofE R1.fro q1 e3
  subst ev
  cases r1 with
  | cons ra rb =>
    cases rb
    cases ra
    exact enum_run I1 z hz (k _ H1 F1 b1 R1 S1 (wk_enum kz rz))⟩
theorem i_enumo (hm : X.mg "enumerate" = none) (h : PE X l (liftO X.K C d)) (hg : Gl X "enumerate" := by rfl) (hs : starEach [l] X.env = [(false, eval l X.env)] := by rfl) (hs' : starEach (l :: []) X.env = (false, eval l X.env) :: starEach [] X.env := by rfl) :
    PI X (.Tuple elts kk tpos) (.Call (.Name "enumerate" p) [l] [] pos) (liftIo X.K C (dEnum d)) := ⟨fun pins s σ H Rr I ⟨sl, B, F, b, xs, B', R, e, k⟩ => by
  obtain ⟨⟨ys, B1⟩, e1, e⟩ := mpd e
  cases e
  obtain ⟨x, e2, e3⟩ := dSeq_inv e1
  refine Call_ (ld_blt I hg hm boot_enumerate (PyProof.Rows.callWith_type1 (thn ((pa_cons h pa_nil hs').run pos pins s σ H (fun vs H' => ∃ F' b', Rel X.K C sl B1 F' b' σ H' ∧ Stp F b H F' b' H' ∧ ∃ v, vs = [v] ∧ TopR X.K F' H' b' v x) I ⟨sl, B, F, b, x, B1, R, e2, fun v H' F' b' R' S' q => ⟨F', b', R', S', v, rfl, q⟩⟩) fun us s1 ⟨vs, H1, I1, r1, q1⟩ => ?_) hs rfl))
  obtain ⟨F1, b1, R1, S1, v, rfl, q1⟩ := q1
  obtain ⟨z, ev, hz, rz, kz⟩ := src_of R1.fro q1 e3
  subst ev
  cases r1 with
  | cons ra rb =>
    cases rb
    cases ra
    exact enum_run I1 z hz (k _ H1 F1 b1 R1 S1 (wk_enum kz rz))⟩
theorem i_zip (hm : X.mg "zip" = none) (h : PE X l (liftE X.K C d)) (h2 : PE X l2 (liftE X.K C d2)) (hg : Gl X "zip" := by rfl) (hs : starEach [l, l2] X.env = (false, eval l X.env) :: starEach [l2] X.env := by rfl) (hpl : (backTo pos (starEach [l2] X.env)).any (·.1) = false := by rfl) (hs' : starEach (l :: [l2]) X.env = (false, eval l X.env) :: starEach [l2] X.env := by rfl)
    (hs2 : starEach (l2 :: []) X.env = (false, eval l2 X.env) :: starEach [] X.env := by rfl) : PI X (.Tuple elts kk tpos) (.Call (.Name "zip" p) [l, l2] [] pos) (liftI X.K C (dZip d d2)) := ⟨fun pins s σ H Rr I ⟨sl, B, F, b, xs, B', R, e, k⟩ => by
  obtain ⟨⟨xs1, B1⟩, e1, e⟩ := bnd e
  obtain ⟨⟨xs2, B2⟩, e2, e⟩ := mpd e
  cases e
  obtain ⟨x, e3, e4⟩ := dSeq_inv e1
  obtain ⟨y, e5, e6⟩ := dSeq_inv e2
  refine Call_ (ld_blt I hg hm PyProof.Rows.boot_zip (PyProof.Rows.callWith_type1 (thn ((pa_cons h (pa_cons h2 pa_nil hs2) hs').run pos pins s σ H (fun vs H' => ∃ F' b', Rel X.K C sl B2 F' b' σ H' ∧ Stp F b H F' b' H' ∧ ∃ v u, vs = [v, u] ∧ Rp X.K F' v x ∧ Rp X.K F' u y) I ⟨sl, B, F, b, x, B1, R, e3, fun v H' F' b' R' S' q => ⟨sl, B1, F', b', y, _, R', e5, fun u H2 F2 b2 R2 S2 q2 => ⟨F2, b2, R2, S'.trans S2, v, u, rfl, Rp.mono S2.ex q, q2⟩⟩⟩) fun us s1 ⟨vs, H1, I1, r1, q1⟩ => ?_) hs hpl))
  obtain ⟨F1, b1, R1, S1, v, u, rfl, q1, q2⟩ := q1
  obtain ⟨z, ev, hz, rz, kz⟩ := src_ofE R1.fro q1 e4
  obtain ⟨z2, ev2, hz2, rz2, kz2⟩ := src_ofE R1.fro q2 e6
  subst ev ev2
  cases r1 with
  | cons ra rb =>
    cases rb with
    | cons rb rc =>
      cases rc
      cases ra
      cases rb
      exact zip_run I1 z z2 hz hz2 (k _ H1 F1 b1 R1 S1 (wk_zip (fun F' H' g1 g2 g3 => ⟨kz F' H' g1 g2 g3, kz2 F' H' g1 g2 g3⟩) rz rz2))⟩
theorem i_zipo (hm : X.mg "zip" = none) (h : PE X l (liftO X.K C d)) (h2 : PE X l2 (liftO X.K C d2)) (hg : Gl X "zip" := by rfl) (hs : starEach [l, l2] X.env = (false, eval l X.env) :: starEach [l2] X.env := by rfl) (hpl : (backTo pos (starEach [l2] X.env)).any (·.1) = false := by rfl) (hs' : starEach (l :: [l2]) X.env = (false, eval l X.env) :: starEach [l2] X.env := by rfl)
    (hs2 : starEach (l2 :: []) X.env = (false, eval l2 X.env) :: starEach [] X.env := by rfl) : PI X (.Tuple elts kk tpos) (.Call (.Name "zip" p) [l, l2] [] pos) (liftIo X.K C (dZip d d2)) := ⟨fun pins s σ H Rr I ⟨sl, B, F, b, xs, B', R, e, k⟩ => by
  obtain ⟨⟨xs1, B1⟩, e1, e⟩ := bnd e
  obtain ⟨⟨xs2, B2⟩, e2, e⟩ := mpd e
  cases e
  obtain ⟨x, e3, e4⟩ := dSeq_inv e1
  obtain ⟨y, e5, e6⟩ := dSeq_inv e2
  refine Call_ (ld_blt I hg hm PyProof.Rows.boot_zip (PyProof.Rows.callWith_type1 (thn ((pa_cons h (pa_cons h2 pa_nil hs2) hs').run pos pins s σ H (fun vs H' => ∃ F' b', Rel X.K C sl B2 F' b' σ H' ∧ Stp F b H F' b' H' ∧ ∃ v u, vs = [v, u] ∧ TopR X.K F' H' b' v x ∧ TopR X.K F' H' b' u y) I ⟨sl, B, F, b, x, B1, R, e3, fun v H' F' b' R' S' q => ⟨sl, B1, F', b', y, _, R', e5, fun u H2 F2 b2 R2 S2 q2 => ⟨F2, b2, R2, S'.trans S2, v, u, rfl, q.mono S2, q2⟩⟩⟩) fun us s1 ⟨vs, H1, I1, r1, q1⟩ => ?_) hs hpl))
  obtain ⟨F1, b1, R1, S1, v, u, rfl, q1, q2⟩ := q1
  obtain ⟨z, ev, hz, rz, kz⟩ := src_of R1.fro q1 e4
  obtain ⟨z2, ev2, hz2, rz2, kz2⟩ := src_of R1.fro q2 e6
  subst ev ev2
  cases r1 with
  | cons ra rb =>
    cases rb with
    | cons rb rc =>
      cases rc
      cases ra
      cases rb
      exact zip_run I1 z z2 hz hz2 (k _ H1 F1 b1 R1 S1 (wk_zip (fun F' H' g1 g2 g3 => ⟨kz F' H' g1 g2 g3, kz2 F' H' g1 g2 g3⟩) rz rz2))⟩
end
end Dn

set_option Elab.async false
set_option linter.all false
set_option autoImplicit false
set_option maxRecDepth 100000
set_option maxHeartbeats 1000000
/-! Reckoning with denotations, from the inside out (for simp only): each combinator applied, then a helper on what its parts gave. -/
namespace Dn
open PySem
abbrev OE := Option (PyData × Bx)
section
variable {da db : DE} {dv : DV} {ta tb : DT} {dl : DL} {ds : DA} {sl s2 : Sl} {B B1 B2 : Bx} {x y z : PyData} {xs ys : List PyData} {v : Sv} {vs : List Sv} {b c : Bool} {d1 d2 : DS}
theorem k_dC : dC x sl B = some (x, B) := id rfl
theorem k_var_ap {i : Nat} : dVar i sl B = (match sl[i]? with | some (some (.dat d)) => some (d, B) | _ => none) := id rfl
theorem k_varO_ap {i : Nat} : dVarO i sl B = (match sl[i]? with | some (some (.dat d)) => some (d, B) | some (some (.own xs)) => some (.list xs, B) | _ => none) := id rfl
theorem k_varV_ap {i : Nat} : dVarV i sl B = (match sl[i]? with | some (some (.own _)) => none | some (some s) => some (s, B) | _ => none) := id rfl
/-! operators -/
def kOp1 (f : PyData → PyData → Option PyData) (db : DE) (sl : Sl) : OE → OE
  | some (x, B) => (db sl B).bind fun q => (f x q.1).map fun z => (z, q.2)
  | none => none
def kOp2 (f : PyData → PyData → Option PyData) (x : PyData) : OE → OE
  | some (y, B) => (f x y).map fun z => (z, B)
  | none => none
def kFin (B : Bx) : Option PyData → OE
  | some z => some (z, B)
  | none => none
theorem k_op {f : PyData → PyData → Option PyData} : dOp f da db sl B = kOp1 f db sl (da sl B) := by
  cases hh : da sl B <;> simp [dOp, kOp1, hh]
theorem k_op1 {f : PyData → PyData → Option PyData} : kOp1 f db sl (some (x, B)) = kOp2 f x (db sl B) := by
  cases hh : db sl B <;> simp [kOp1, kOp2, hh]
theorem k_op2 {f : PyData → PyData → Option PyData} : kOp2 f x (some (y, B)) = kFin B (f x y) := by
  cases hh : f x y <;> simp [kOp2, kFin, hh]
theorem k_fin : kFin B (some z) = some (z, B) := id rfl
def kT1 (f : PyData → PyData → Option Bool) (db : DE) (sl : Sl) : OE → Option (Bool × Bx)
  | some (x, B) => (db sl B).bind fun q => (f x q.1).map fun z => (z, q.2)
  | none => none
def kT2 (f : PyData → PyData → Option Bool) (x : PyData) : OE → Option (Bool × Bx)
  | some (y, B) => (f x y).map fun z => (z, B)
  | none => none
def kTF (B : Bx) : Option Bool → Option (Bool × Bx)
  | some z => some (z, B)
  | none => none
theorem k_tst {f : PyData → PyData → Option Bool} : dTst f da db sl B = kT1 f db sl (da sl B) := by
  cases hh : da sl B <;> simp [dTst, kT1, hh]
theorem k_t1 {f : PyData → PyData → Option Bool} : kT1 f db sl (some (x, B)) = kT2 f x (db sl B) := by
  cases hh : db sl B <;> simp [kT1, kT2, hh]
theorem k_t2 {f : PyData → PyData → Option Bool} : kT2 f x (some (y, B)) = kTF B (f x y) := by
  cases hh : f x y <;> simp [kT2, kTF, hh]
theorem k_tF : kTF B (some b) = some (b, B) := id rfl
def kB : Option (Bool × Bx) → OE
  | some (b, B) => some (.bool b, B)
  | none => none
theorem k_opB {f : PyData → PyData → Option Bool} : dOpB f da db sl B = kB (kT1 f db sl (da sl B)) := by
  unfold dOpB kT1
  cases da sl B with
  | none => rfl
  | some p =>
    show (db sl p.2).bind _ = kB ((db sl p.2).bind _)
    cases db sl p.2 with
    | none => rfl
    | some q =>
      show (f p.1 q.1).map _ = kB ((f p.1 q.1).map _)
      cases f p.1 q.1 <;> rfl
theorem k_B : kB (some (b, B)) = some (.bool b, B) := id rfl
def kNeg : OE → OE
  | some (.int i, B) => some (.int (-i), B)
  | _ => none
theorem k_neg : dNeg da sl B = kNeg (da sl B) := by
  unfold dNeg kNeg
  cases da sl B with
  | none => rfl
  | some p => obtain ⟨x, B1⟩ := p; cases x <;> rfl
theorem k_neg1 {i : Int} : kNeg (some (.int i, B)) = some (.int (-i), B) := id rfl
/-! tests -/
def kAnd (u : DT) (sl : Sl) : Option (Bool × Bx) → Option (Bool × Bx)
  | some (true, B) => u sl B
  | some (false, B) => some (false, B)
  | none => none
def kOr (u : DT) (sl : Sl) : Option (Bool × Bx) → Option (Bool × Bx)
  | some (true, B) => some (true, B)
  | some (false, B) => u sl B
  | none => none
def kNot : Option (Bool × Bx) → Option (Bool × Bx)
  | some (b, B) => some (!b, B)
  | none => none
theorem k_andT : dAndT ta tb sl B = kAnd tb sl (ta sl B) := by
  unfold dAndT kAnd
  cases ta sl B with
  | none => rfl
  | some p => obtain ⟨x, B1⟩ := p; cases x <;> rfl
theorem k_orT : dOrT ta tb sl B = kOr tb sl (ta sl B) := by
  unfold dOrT kOr
  cases ta sl B with
  | none => rfl
  | some p => obtain ⟨x, B1⟩ := p; cases x <;> rfl
theorem k_notT : dNotT ta sl B = kNot (ta sl B) := by
  cases hh : ta sl B <;> simp [dNotT, kNot, hh]
theorem k_and1 : kAnd tb sl (some (true, B)) = tb sl B := id rfl
theorem k_and0 : kAnd tb sl (some (false, B)) = some (false, B) := id rfl
theorem k_or1 : kOr tb sl (some (true, B)) = some (true, B) := id rfl
theorem k_or0 : kOr tb sl (some (false, B)) = tb sl B := id rfl
theorem k_not1 : kNot (some (b, B)) = some (!b, B) := id rfl
def kTru : OE → Option (Bool × Bx)
  | some (x, B) => kTF B (truD x)
  | none => none
theorem k_tru : dTru da sl B = kTru (da sl B) := by
  unfold dTru kTru
  cases da sl B with
  | none => rfl
  | some p => show (truD p.1).map _ = kTF p.2 (truD p.1); cases truD p.1 <;> rfl
theorem k_tru1 : kTru (some (x, B)) = kTF B (truD x) := id rfl
def kAndV (db : DE) (sl : Sl) : OE → OE
  | some (.bool true, B) => db sl B
  | some (.bool false, B) => some (.bool false, B)
  | _ => none
def kOrV (db : DE) (sl : Sl) : OE → OE
  | some (.bool true, B) => some (.bool true, B)
  | some (.bool false, B) => db sl B
  | _ => none
def kNotV : OE → OE
  | some (.bool b, B) => some (.bool (!b), B)
  | _ => none
theorem k_andV : dAndV da db sl B = kAndV db sl (da sl B) := by
  unfold dAndV kAndV
  cases da sl B with
  | none => rfl
  | some p =>
    obtain ⟨x, B1⟩ := p
    cases x with
    | bool k => cases k <;> rfl
    | _ => rfl
theorem k_orV : dOrV da db sl B = kOrV db sl (da sl B) := by
  unfold dOrV kOrV
  cases da sl B with
  | none => rfl
  | some p =>
    obtain ⟨x, B1⟩ := p
    cases x with
    | bool k => cases k <;> rfl
    | _ => rfl
theorem k_notV : dNotV da sl B = kNotV (da sl B) := by
  unfold dNotV kNotV
  cases da sl B with
  | none => rfl
  | some p => obtain ⟨x, B1⟩ := p; cases x <;> rfl
theorem k_andV1 : kAndV db sl (some (.bool true, B)) = db sl B := id rfl
theorem k_andV0 : kAndV db sl (some (.bool false, B)) = some (.bool false, B) := id rfl
theorem k_orV1 : kOrV db sl (some (.bool true, B)) = some (.bool true, B) := id rfl
theorem k_orV0 : kOrV db sl (some (.bool false, B)) = db sl B := id rfl
theorem k_notV1 : kNotV (some (.bool b, B)) = some (.bool (!b), B) := id rfl
def kIf (da db : DE) (sl : Sl) : Option (Bool × Bx) → OE
  | some (true, B) => da sl B
  | some (false, B) => db sl B
  | none => none
theorem k_if : dIf ta da db sl B = kIf da db sl (ta sl B) := by
  unfold dIf kIf
  cases ta sl B with
  | none => rfl
  | some p => obtain ⟨x, B1⟩ := p; cases x <;> rfl
theorem k_if1 : kIf da db sl (some (true, B)) = da sl B := id rfl
theorem k_if0 : kIf da db sl (some (false, B)) = db sl B := id rfl
theorem k_ifD {p : Prop} [Decidable p] : kIf da db sl (some (decide p, B)) = if p then da sl B else db sl B := by
  by_cases h : p
  · rw [decide_eq_true h, if_pos h]; rfl
  · rw [decide_eq_false h, if_neg h]; rfl
/-! argument lists, displays -/
def kCons (dl : DL) (sl : Sl) : OE → Option (List PyData × Bx)
  | some (x, B) => (dl sl B).map fun q => (x :: q.1, q.2)
  | none => none
def kCons2 (x : PyData) : Option (List PyData × Bx) → Option (List PyData × Bx)
  | some (xs, B) => some (x :: xs, B)
  | none => none
theorem k_nil : dNil sl B = some ([], B) := id rfl
theorem k_cons : dCons da dl sl B = kCons dl sl (da sl B) := by
  cases hh : da sl B <;> simp [dCons, kCons, hh]
theorem k_cons1 : kCons dl sl (some (x, B)) = kCons2 x (dl sl B) := by
  cases hh : dl sl B <;> simp [kCons, kCons2, hh]
theorem k_cons2 : kCons2 x (some (xs, B)) = some (x :: xs, B) := id rfl
def kConsA (ds : DA) (sl : Sl) : Option (Sv × Bx) → Option (List Sv × Bx)
  | some (x, B) => (ds sl B).map fun q => (x :: q.1, q.2)
  | none => none
def kConsA2 (x : Sv) : Option (List Sv × Bx) → Option (List Sv × Bx)
  | some (xs, B) => some (x :: xs, B)
  | none => none
theorem k_nilA : dNilA sl B = some ([], B) := id rfl
theorem k_consA : dConsA dv ds sl B = kConsA ds sl (dv sl B) := by
  cases hh : dv sl B <;> simp [dConsA, kConsA, hh]
theorem k_consA1 : kConsA ds sl (some (v, B)) = kConsA2 v (ds sl B) := by
  cases hh : ds sl B <;> simp [kConsA, kConsA2, hh]
theorem k_consA2 : kConsA2 v (some (vs, B)) = some (v :: vs, B) := id rfl
def kV : OE → Option (Sv × Bx)
  | some (x, B) => some (.dat x, B)
  | none => none
theorem k_V : dV da sl B = kV (da sl B) := by
  cases hh : da sl B <;> simp [dV, kV, hh]
theorem k_V1 : kV (some (x, B)) = some (.dat x, B) := id rfl
def kF : Option (List PyData × Bx) → OE
  | some (xs, B) => some (.list xs, B)
  | none => none
theorem k_F : dF dl sl B = kF (dl sl B) := by
  cases hh : dl sl B <;> simp [dF, kF, hh]
theorem k_F1 : kF (some (xs, B)) = some (.list xs, B) := id rfl
def kTup : Option (List PyData × Bx) → OE
  | some (xs, B) => if xs.length ≤ sizeLine then some (.tuple xs, B) else none
  | none => none
theorem k_tup : dTup dl sl B = kTup (dl sl B) := by
  cases hh : dl sl B <;> simp [dTup, kTup, hh]
theorem k_tup1 (h : xs.length ≤ sizeLine) : kTup (some (xs, B)) = some (.tuple xs, B) := if_pos h
def kLst : Option (List PyData × Bx) → Option (List PyData × Bx)
  | some (xs, B) => if xs.length ≤ sizeLine then some (xs, B) else none
  | none => none
theorem k_lst : dLst dl sl B = kLst (dl sl B) := by
  cases hh : dl sl B <;> simp [dLst, kLst, hh]
theorem k_lst1 (h : xs.length ≤ sizeLine) : kLst (some (xs, B)) = some (xs, B) := if_pos h
/-! built-ins -/
def kCl (f : List PyData → Option PyData) : Option (List PyData × Bx) → OE
  | some (xs, B) => kFin B (f xs)
  | none => none
theorem k_cl {f : List PyData → Option PyData} : dCl f dl sl B = kCl f (dl sl B) := by
  unfold dCl kCl
  cases dl sl B with
  | none => rfl
  | some p => show (f p.1).map _ = kFin p.2 (f p.1); cases f p.1 <;> rfl
theorem k_cl1 {f : List PyData → Option PyData} : kCl f (some (xs, B)) = kFin B (f xs) := id rfl
def kFinL (B : Bx) : Option (List PyData) → Option (List PyData × Bx)
  | some z => some (z, B)
  | none => none
def kClL (f : List PyData → Option (List PyData)) : Option (List PyData × Bx) → Option (List PyData × Bx)
  | some (xs, B) => kFinL B (f xs)
  | none => none
theorem k_clL {f : List PyData → Option (List PyData)} : dClL f dl sl B = kClL f (dl sl B) := by
  unfold dClL kClL
  cases dl sl B with
  | none => rfl
  | some p => show (f p.1).map _ = kFinL p.2 (f p.1); cases f p.1 <;> rfl
theorem k_clL1 {f : List PyData → Option (List PyData)} : kClL f (some (xs, B)) = kFinL B (f xs) := id rfl
theorem k_finL : kFinL B (some xs) = some (xs, B) := id rfl
def kIsi (T : String) : OE → OE
  | some (x, B) => some (.bool (isTy T x), B)
  | none => none
theorem k_isi {T : String} : dIsi T da sl B = kIsi T (da sl B) := by
  cases hh : da sl B <;> simp [dIsi, kIsi, hh]
theorem k_isi1 {T : String} : kIsi T (some (x, B)) = some (.bool (isTy T x), B) := id rfl
def kDat : Option (Sv × Bx) → OE
  | some (.dat z, B) => some (z, B)
  | _ => none
def kFn (f : FD) : Option (List Sv × Bx) → OE
  | some (ss, B) => kDat (f ss B)
  | none => none
theorem k_fn {f : FD} : dFn f ds sl B = kFn f (ds sl B) := by
  unfold dFn kFn
  cases ds sl B with
  | none => rfl
  | some p =>
    show (f p.1 p.2).bind _ = kDat (f p.1 p.2)
    cases f p.1 p.2 with
    | none => rfl
    | some q => obtain ⟨v, B1⟩ := q; cases v <;> rfl
theorem k_fn1 {f : FD} : kFn f (some (vs, B)) = kDat (f vs B) := id rfl
theorem k_dat : kDat (some (.dat z, B)) = some (z, B) := id rfl
def kFnV (f : FD) : Option (List Sv × Bx) → Option (Sv × Bx)
  | some (ss, B) => f ss B
  | none => none
theorem k_fnV {f : FD} : dFnV f ds sl B = kFnV f (ds sl B) := by
  cases hh : ds sl B <;> simp [dFnV, kFnV, hh]
theorem k_fnV1 {f : FD} : kFnV f (some (vs, B)) = f vs B := id rfl
def kSeqI : OE → Option (List PyData × Bx)
  | some (.list xs, B) => some (xs, B)
  | some (.tuple xs, B) => some (xs, B)
  | _ => none
theorem k_seqI : dSeq' da sl B = kSeqI (da sl B) := by
  unfold dSeq' kSeqI
  cases da sl B with
  | none => rfl
  | some p => obtain ⟨v, B1⟩ := p; cases v <;> rfl
theorem k_seqI1 : kSeqI (some (.list xs, B)) = some (xs, B) := id rfl
theorem k_seqI2 : kSeqI (some (.tuple xs, B)) = some (xs, B) := id rfl
def kRng1 : OE → Option (List PyData × Bx)
  | some (.int j, B) => if -(2 ^ 62) ≤ j ∧ j < 2 ^ 62 then some (rngD 0 j.toNat, B) else none
  | _ => none
theorem k_rng1 : dRng1 da sl B = kRng1 (da sl B) := by
  unfold dRng1 kRng1
  cases da sl B with
  | none => rfl
  | some p => obtain ⟨v, B1⟩ := p; cases v <;> rfl
theorem k_rng1' {j : Int} (h : -(2 ^ 62) ≤ j ∧ j < 2 ^ 62) : kRng1 (some (.int j, B)) = some (rngD 0 j.toNat, B) := if_pos h
def kRng2 (db : DE) (sl : Sl) : OE → Option (List PyData × Bx)
  | some (x, B) => (db sl B).bind fun q => match x, q.1 with
    | .int i, .int j => if -(2 ^ 62) ≤ i ∧ i < 2 ^ 62 ∧ -(2 ^ 62) ≤ j ∧ j < 2 ^ 62 then some (rngD i (j - i).toNat, q.2) else none
    | _, _ => none
  | none => none
def kRng2' (i : Int) : OE → Option (List PyData × Bx)
  | some (.int j, B) => if -(2 ^ 62) ≤ i ∧ i < 2 ^ 62 ∧ -(2 ^ 62) ≤ j ∧ j < 2 ^ 62 then some (rngD i (j - i).toNat, B) else none
  | _ => none
theorem k_rng2 : dRng2 da db sl B = kRng2 db sl (da sl B) := by
  unfold dRng2
  cases da sl B <;> rfl
theorem k_rng2a {i : Int} : kRng2 db sl (some (.int i, B)) = kRng2' i (db sl B) := by
  cases hh : db sl B with
  | none => simp [kRng2, kRng2', hh]
  | some p => obtain ⟨v, B1⟩ := p; cases v <;> simp [kRng2, kRng2', hh]
theorem k_rng2b {i j : Int} (h : -(2 ^ 62) ≤ i ∧ i < 2 ^ 62 ∧ -(2 ^ 62) ≤ j ∧ j < 2 ^ 62) : kRng2' i (some (.int j, B)) = some (rngD i (j - i).toNat, B) := if_pos h
def kEnum : Option (List PyData × Bx) → Option (List PyData × Bx)
  | some (xs, B) => some (enumD 0 xs, B)
  | none => none
theorem k_enum : dEnum da sl B = kEnum (dSeq' da sl B) := by
  cases hh : dSeq' da sl B <;> simp [dEnum, kEnum, hh]
theorem k_enum1 : kEnum (some (xs, B)) = some (enumD 0 xs, B) := id rfl
def kZip (db : DE) (sl : Sl) : Option (List PyData × Bx) → Option (List PyData × Bx)
  | some (xs, B) => (dSeq' db sl B).map fun q => (zipD xs q.1, q.2)
  | none => none
def kZip2 (xs : List PyData) : Option (List PyData × Bx) → Option (List PyData × Bx)
  | some (ys, B) => some (zipD xs ys, B)
  | none => none
theorem k_zip : dZip da db sl B = kZip db sl (dSeq' da sl B) := by
  cases hh : dSeq' da sl B <;> simp [dZip, kZip, hh]
theorem k_zip1 : kZip db sl (some (xs, B)) = kZip2 xs (dSeq' db sl B) := by
  cases hh : dSeq' db sl B <;> simp [kZip, kZip2, hh]
theorem k_zip2 : kZip2 xs (some (ys, B)) = some (zipD xs ys, B) := id rfl
/-! slices -/
def kP : OE → Option (Option Int × Bx)
  | some (.int i, B) => some (some i, B)
  | _ => none
theorem k_P : dPart da sl B = kP (da sl B) := by
  unfold dPart kP
  cases da sl B with
  | none => rfl
  | some p => obtain ⟨v, B1⟩ := p; cases v <;> rfl
theorem k_P1 {i : Int} : kP (some (.int i, B)) = some (some i, B) := id rfl
theorem k_noP : dNoP sl B = some (none, B) := id rfl
def kSl1 (f : PyData → Option Int → Option Int → Option PyData) (l h : DP) (sl : Sl) : OE → OE
  | some (x, B) => (l sl B).bind fun q => (h sl q.2).bind fun r => (f x q.1 r.1).map fun z => (z, r.2)
  | none => none
def kSl2 (f : PyData → Option Int → Option Int → Option PyData) (x : PyData) (h : DP) (sl : Sl) : Option (Option Int × Bx) → OE
  | some (a, B) => (h sl B).bind fun r => (f x a r.1).map fun z => (z, r.2)
  | none => none
def kSl3 (f : PyData → Option Int → Option Int → Option PyData) (x : PyData) (a : Option Int) : Option (Option Int × Bx) → OE
  | some (c, B) => kFin B (f x a c)
  | none => none
theorem k_sl {f : PyData → Option Int → Option Int → Option PyData} {l h : DP} : dSl f da l h sl B = kSl1 f l h sl (da sl B) := by
  cases hh : da sl B <;> simp [dSl, kSl1, hh]
theorem k_sl1 {f : PyData → Option Int → Option Int → Option PyData} {l h : DP} : kSl1 f l h sl (some (x, B)) = kSl2 f x h sl (l sl B) := by
  cases hh : l sl B <;> simp [kSl1, kSl2, hh]
theorem k_sl2 {f : PyData → Option Int → Option Int → Option PyData} {h : DP} {a : Option Int} : kSl2 f x h sl (some (a, B)) = kSl3 f x a (h sl B) := by
  cases hh : h sl B with
  | none => simp [kSl2, kSl3, hh]
  | some p =>
    simp only [kSl2, kSl3, hh, Option.bind_some]
    cases f x a p.1 <;> rfl
theorem k_sl3 {f : PyData → Option Int → Option Int → Option PyData} {a c : Option Int} : kSl3 f x a (some (c, B)) = kFin B (f x a c) := id rfl
/-! comprehensions -/
def kCmp (tg : DG) (t : DT) (e : DE) (sw : Sl) : Option (List PyData × Bx) → Option (List PyData × Bx)
  | some (xs, B) => if xs.length < sizeLine then cmpGo tg t e sw xs B else none
  | none => none
theorem k_cmp {it : DL} {tg : DG} {t : DT} {e : DE} {ws : List Nat} : dCmp it tg t e ws sl B = kCmp tg t e (wipeD sl ws) (it sl B) := by
  cases hh : it sl B <;> simp [dCmp, kCmp, hh]
theorem k_cmp1 {tg : DG} {t : DT} {e : DE} {sw : Sl} (h : xs.length < sizeLine) : kCmp tg t e sw (some (xs, B)) = cmpGo tg t e sw xs B := if_pos h
theorem k_yes : dYes sl B = some (true, B) := id rfl
/-! statements -/
def kSeq (d2 : DS) : Option Out → Option Out
  | some (.nx s B) => d2 s B
  | o => o
theorem k_seq : dSeq d1 d2 sl B = kSeq d2 (d1 sl B) := by
  unfold dSeq kSeq
  cases d1 sl B with
  | none => rfl
  | some o => cases o <;> rfl
theorem k_seq1 : kSeq d2 (some (.nx sl B)) = d2 sl B := id rfl
theorem k_seq2 : kSeq d2 (some (.rt v B)) = some (.rt v B) := id rfl
theorem k_seq3 : kSeq d2 (some (.bk sl B)) = some (.bk sl B) := id rfl
theorem k_seq4 : kSeq d2 (some (.ct sl B)) = some (.ct sl B) := id rfl
theorem k_next : dNext sl B = some (.nx sl B) := id rfl
theorem k_brk : dBreak sl B = some (.bk sl B) := id rfl
theorem k_cont : dCont sl B = some (.ct sl B) := id rfl
theorem k_retN : dRetN sl B = some (.rt (.dat .none) B) := id rfl
def kAsg (i : Nat) (sl : Sl) : OE → Option Out
  | some (x, B) => some (.nx (sl.set i (some (.dat x))) B)
  | none => none
theorem k_asg {i : Nat} : dAsg i da sl B = kAsg i sl (da sl B) := by
  cases hh : da sl B <;> simp [dAsg, kAsg, hh]
theorem k_asg1 {i : Nat} : kAsg i sl (some (x, B)) = some (.nx (sl.set i (some (.dat x))) B) := id rfl
def kAsgV (i : Nat) (sl : Sl) : Option (Sv × Bx) → Option Out
  | some (.own _, _) => none
  | some (x, B) => some (.nx (sl.set i (some x)) B)
  | none => none
theorem k_asgV {i : Nat} : dAsgV i dv sl B = kAsgV i sl (dv sl B) := by
  unfold dAsgV kAsgV
  cases dv sl B with
  | none => rfl
  | some p => obtain ⟨x, B1⟩ := p; cases x <;> rfl
theorem k_asgV1 {i : Nat} : kAsgV i sl (some (.dat x, B)) = some (.nx (sl.set i (some (.dat x))) B) := id rfl
theorem k_asgV2 {i : Nat} : kAsgV i sl (some (.box, B)) = some (.nx (sl.set i (some .box)) B) := id rfl
theorem k_asgV3 {i : Nat} : kAsgV i sl (some (.cells, B)) = some (.nx (sl.set i (some .cells)) B) := id rfl
def kAsgO (i : Nat) (sl : Sl) : Option (List PyData × Bx) → Option Out
  | some (x, B) => some (.nx (sl.set i (some (.own x))) B)
  | none => none
theorem k_asgO {i : Nat} : dAsgO i dl sl B = kAsgO i sl (dl sl B) := by
  cases hh : dl sl B <;> simp [dAsgO, kAsgO, hh]
theorem k_asgO1 {i : Nat} : kAsgO i sl (some (xs, B)) = some (.nx (sl.set i (some (.own xs))) B) := id rfl
def kNx (B : Bx) : Option Sl → Option Out
  | some s => some (.nx s B)
  | none => none
def kAsgG (tg : DG) (sl : Sl) : OE → Option Out
  | some (x, B) => kNx B (tg x sl)
  | none => none
theorem k_asgG {tg : DG} : dAsgG tg da sl B = kAsgG tg sl (da sl B) := by
  unfold dAsgG kAsgG
  cases da sl B with
  | none => rfl
  | some p => show (tg p.1 sl).map _ = kNx p.2 (tg p.1 sl); cases tg p.1 sl <;> rfl
theorem k_asgG1 {tg : DG} : kAsgG tg sl (some (x, B)) = kNx B (tg x sl) := id rfl
theorem k_nx : kNx B (some sl) = some (.nx sl B) := id rfl
theorem k_gN {i : Nat} : gN i x sl = some (sl.set i (some (.dat x))) := id rfl
def kG (ds : DGs) (xs : List PyData) : Option Sl → Option Sl
  | some s => ds xs s
  | none => none
theorem k_gT {ds : DGs} : gT ds (.tuple xs) sl = ds xs sl := id rfl
theorem k_gC {d : DG} {ds : DGs} : gCons' d ds (x :: xs) sl = kG ds xs (d x sl) := by
  unfold kG
  show (d x sl).bind _ = _
  cases d x sl <;> rfl
theorem k_g1 {ds : DGs} : kG ds xs (some sl) = ds xs sl := id rfl
theorem k_g0 : gNil' [] sl = some sl := id rfl
def kPar (i j : Nat) (db : DE) (sl : Sl) : OE → Option Out
  | some (x, B) => (db sl B).map fun q => .nx ((sl.set i (some (.dat x))).set j (some (.dat q.1))) q.2
  | none => none
def kPar2 (i j : Nat) (sl : Sl) (x : PyData) : OE → Option Out
  | some (y, B) => some (.nx ((sl.set i (some (.dat x))).set j (some (.dat y))) B)
  | none => none
theorem k_par {i j : Nat} : dPar i j da db sl B = kPar i j db sl (da sl B) := by
  cases hh : da sl B <;> simp [dPar, kPar, hh]
theorem k_par1 {i j : Nat} : kPar i j db sl (some (x, B)) = kPar2 i j sl x (db sl B) := by
  cases hh : db sl B <;> simp [kPar, kPar2, hh]
theorem k_par2 {i j : Nat} : kPar2 i j sl x (some (y, B)) = some (.nx ((sl.set i (some (.dat x))).set j (some (.dat y))) B) := id rfl
def kDrop (sl : Sl) : OE → Option Out
  | some (_, B) => some (.nx sl B)
  | none => none
theorem k_drop : dDrop da sl B = kDrop sl (da sl B) := by
  cases hh : da sl B <;> simp [dDrop, kDrop, hh]
theorem k_drop1 : kDrop sl (some (x, B)) = some (.nx sl B) := id rfl
def kRet : OE → Option Out
  | some (x, B) => some (.rt (.dat x) B)
  | none => none
theorem k_ret : dRet da sl B = kRet (da sl B) := by
  cases hh : da sl B <;> simp [dRet, kRet, hh]
theorem k_ret1 : kRet (some (x, B)) = some (.rt (.dat x) B) := id rfl
def kRetV : Option (Sv × Bx) → Option Out
  | some (x, B) => some (.rt x B)
  | none => none
theorem k_retV : dRetV dv sl B = kRetV (dv sl B) := by
  cases hh : dv sl B <;> simp [dRetV, kRetV, hh]
theorem k_retV1 : kRetV (some (v, B)) = some (.rt v B) := id rfl
def kIfS (d1 d2 : DS) (sl : Sl) : Option (Bool × Bx) → Option Out
  | some (true, B) => d1 sl B
  | some (false, B) => d2 sl B
  | none => none
theorem k_ifS : dIfS ta d1 d2 sl B = kIfS d1 d2 sl (ta sl B) := by
  unfold dIfS kIfS
  cases ta sl B with
  | none => rfl
  | some p => obtain ⟨x, B1⟩ := p; cases x <;> rfl
theorem k_ifS1 : kIfS d1 d2 sl (some (true, B)) = d1 sl B := id rfl
theorem k_ifS0 : kIfS d1 d2 sl (some (false, B)) = d2 sl B := id rfl
theorem k_ifSD {p : Prop} [Decidable p] : kIfS d1 d2 sl (some (decide p, B)) = if p then d1 sl B else d2 sl B := by
  by_cases h : p
  · rw [decide_eq_true h, if_pos h]; rfl
  · rw [decide_eq_false h, if_neg h]; rfl
theorem k_fz_ap {i : Nat} : dFz i d1 sl B = (match sl[i]? with | some (some (.own xs)) => d1 (sl.set i (some (.dat (.list xs)))) B | _ => d1 sl B) := id rfl
def kApp (j : Nat) (sl : Sl) : OE → Option Out
  | some (x, B) => match sl[j]? with
    | some (some (.own xs)) => if xs.length < sizeLine then some (.nx (sl.set j (some (.own (xs ++ [x])))) B) else none
    | _ => none
  | none => none
theorem k_app {j : Nat} : dApp j da sl B = kApp j sl (da sl B) := by
  unfold dApp kApp
  cases da sl B <;> rfl
theorem k_app1 {j : Nat} : kApp j sl (some (x, B)) = (match sl[j]? with | some (some (.own xs)) => if xs.length < sizeLine then some (.nx (sl.set j (some (.own (xs ++ [x])))) B) else none | _ => none) := id rfl
def kFor (tg : DG) (body : DS) (sl : Sl) : Option (List PyData × Bx) → Option Out
  | some (xs, B) => forGo tg body xs sl B
  | none => none
theorem k_for {it : DL} {tg : DG} {body : DS} : dFor it tg body sl B = kFor tg body sl (it sl B) := by
  cases hh : it sl B <;> simp [dFor, kFor, hh]
theorem k_for1 {tg : DG} {body : DS} : kFor tg body sl (some (xs, B)) = forGo tg body xs sl B := id rfl
def kAug (f : Int → Int → Int) (i : Nat) (sl : Sl) (a : Int) : OE → Option Out
  | some (.int c, B) => some (.nx (sl.set i (some (.dat (.int (f a c))))) B)
  | _ => none
theorem k_aug {f : Int → Int → Int} {i : Nat} {a : Int} (h : sl[i]? = some (some (.dat (.int a)))) : dAug f i da sl B = kAug f i sl a (da sl B) := by
  unfold dAug
  rw [h]
  show (da sl B).bind _ = _
  cases hh : da sl B with
  | none => rfl
  | some p => obtain ⟨x, B1⟩ := p; cases x <;> rfl
theorem k_aug1 {f : Int → Int → Int} {i : Nat} {a c : Int} : kAug f i sl a (some (.int c, B)) = some (.nx (sl.set i (some (.dat (.int (f a c))))) B) := id rfl
def kFun : Option Out → Option (Sv × Bx)
  | some (.rt r B) => some (r, B)
  | some (.nx _ B) => some (.dat .none, B)
  | _ => none
theorem k_fun {n m : Nat} {body : DS} (h : (vs.length = n ∧ vs.all nown = true) = True) : dFun n m body vs B = kFun (body (vs.map some ++ List.replicate m none) B) := by
  unfold dFun kFun
  rw [if_pos (of_eq_true h)]
  cases body (vs.map some ++ List.replicate m none) B with
  | none => rfl
  | some o => cases o <;> rfl
theorem k_fun1 : kFun (some (.rt v B)) = some (v, B) := id rfl
theorem k_fun2 : kFun (some (.nx sl B)) = some (.dat .none, B) := id rfl
/-! index -/
def kIdx (db : DE) (sl : Sl) : OE → OE
  | some (.list xs, B) => (db sl B).bind fun q => (pyIndex xs q.1).map fun z => (z, q.2)
  | _ => none
def kIdx2 (xs : List PyData) : OE → OE
  | some (y, B) => kFin B (pyIndex xs y)
  | none => none
theorem k_idx : dIndex da db sl B = kIdx db sl (da sl B) := by
  unfold dIndex kIdx
  cases da sl B with
  | none => rfl
  | some p =>
    obtain ⟨x, B1⟩ := p
    cases x <;> (cases hh : db sl B1 <;> simp [hh])
theorem k_idx1 : kIdx db sl (some (.list xs, B)) = kIdx2 xs (db sl B) := by
  cases hh : db sl B with
  | none => simp [kIdx, kIdx2, hh]
  | some p =>
    simp only [kIdx, kIdx2, hh, Option.bind_some]
    cases pyIndex xs p.1 <;> rfl
theorem k_idx2 : kIdx2 xs (some (y, B)) = kFin B (pyIndex xs y) := id rfl
/-! the box -/
theorem k_bget_ap {i : Nat} {k : Int} : dBget i k sl B = (match sl[i]? with | some (some .box) => if 1 ≤ k then (B.regs[(k - 1).toNat]?).map fun n => (.int n, B) else none | _ => none) := id rfl
theorem k_bcells_ap {i : Nat} : dBcells i sl B = (match sl[i]? with | some (some .box) => some (.cells, B) | _ => none) := id rfl
def kLenC : Option (Sv × Bx) → OE
  | some (.cells, B) => some (.int (B.cells.length : Int), B)
  | _ => none
theorem k_lenC : dLenC dv sl B = kLenC (dv sl B) := by
  unfold dLenC kLenC
  cases dv sl B with
  | none => rfl
  | some p => obtain ⟨x, B1⟩ := p; cases x <;> rfl
theorem k_lenC1 : kLenC (some (.cells, B)) = some (.int (B.cells.length : Int), B) := id rfl
def kPopC : Option (Sv × Bx) → OE
  | some (.cells, B) => match B.cells with
    | c :: r => some (.int c, { B with cells := r })
    | [] => none
  | _ => none
theorem k_popC : dPopC dv sl B = kPopC (dv sl B) := by
  unfold dPopC kPopC
  cases dv sl B with
  | none => rfl
  | some p => obtain ⟨x, B1⟩ := p; cases x <;> rfl
theorem k_popC1 : kPopC (some (.cells, B)) = (match B.cells with | c :: r => some (.int c, { B with cells := r }) | [] => none) := id rfl
def kBset (i : Nat) (k : Int) (sl : Sl) : OE → Option Out
  | some (.int n, B) => match sl[i]? with
    | some (some .box) => if 1 ≤ k ∧ (k - 1).toNat < B.regs.length then some (.nx sl { B with regs := B.regs.set (k - 1).toNat n }) else none
    | _ => none
  | _ => none
theorem k_bset {i : Nat} {k : Int} : dBset i k da sl B = kBset i k sl (da sl B) := by
  unfold dBset kBset
  cases da sl B with
  | none => rfl
  | some p =>
    obtain ⟨x, B1⟩ := p
    cases x with
    | int n =>
      show (match PyData.int n, sl[i]? with | .int n, some (some .box) => _ | _, _ => none) = (match sl[i]? with | some (some .box) => _ | _ => none)
      cases sl[i]? with
      | none => rfl
      | some w =>
        cases w with
        | none => rfl
        | some u => cases u <;> rfl
    | _ => rfl
theorem k_bset1 {i : Nat} {k n : Int} : kBset i k sl (some (.int n, B)) = (match sl[i]? with | some (some .box) => if 1 ≤ k ∧ (k - 1).toNat < B.regs.length then some (.nx sl { B with regs := B.regs.set (k - 1).toNat n }) else none | _ => none) := id rfl
def kGetC (d : DE) (sl : Sl) : Option (Sv × Bx) → OE
  | some (.cells, B) => (d sl B).bind fun q => match q.1 with
    | .int k => (L2.atI q.2.cells k).map fun n => (.int n, q.2)
    | _ => none
  | _ => none
def kGetC2 : OE → OE
  | some (.int k, B) => (L2.atI B.cells k).map fun n => (.int n, B)
  | _ => none
theorem k_getC : dGetC dv da sl B = kGetC da sl (dv sl B) := by
  unfold dGetC kGetC
  cases dv sl B with
  | none => rfl
  | some p => obtain ⟨x, B1⟩ := p; cases x <;> rfl
theorem k_getC1 : kGetC da sl (some (.cells, B)) = kGetC2 (da sl B) := by
  cases hh : da sl B with
  | none => simp [kGetC, kGetC2, hh]
  | some p => obtain ⟨x, B1⟩ := p; cases x <;> simp [kGetC, kGetC2, hh]
theorem k_getC2 {k : Int} : kGetC2 (some (.int k, B)) = (L2.atI B.cells k).map fun n => (.int n, B) := id rfl
end
/-! equality of plain data -/
theorem sh_int {i : Int} : SeqAt.shaped (.int i) = true := rfl
theorem sh_bool {i : Bool} : SeqAt.shaped (.bool i) = true := rfl
theorem sh_none : SeqAt.shaped .none = true := rfl
theorem eqv_ii {i j : Int} : PyData.eqv (.int i) (.int j) = (i == j) := by unfold PyData.eqv; rfl
theorem eqv_bb {i j : Bool} : PyData.eqv (.bool i) (.bool j) = (i == j) := by unfold PyData.eqv; rfl
theorem eqI {i j : Int} : pyEq (.int i) (.int j) = some (decide (i = j)) := by
  unfold pyEq
  rw [if_pos ⟨sh_int, sh_int⟩, eqv_ii]
  congr 1
theorem neI {i j : Int} : pyNe (.int i) (.int j) = some (decide (i ≠ j)) := by
  unfold pyNe
  rw [if_pos ⟨sh_int, sh_int⟩, eqv_ii]
  congr 1
  by_cases h : i = j
  · subst h; simp
  · simp [h]
theorem addI {i j : Int} : pyAdd (.int i) (.int j) = some (.int (i + j)) := id rfl
theorem subI {i j : Int} : pySub (.int i) (.int j) = some (.int (i - j)) := id rfl
theorem ltI {i j : Int} : pyLt (.int i) (.int j) = some (decide (i < j)) := id rfl
theorem leI {i j : Int} : pyLe (.int i) (.int j) = some (decide (i ≤ j)) := id rfl
theorem gtI {i j : Int} : pyGt (.int i) (.int j) = some (decide (j < i)) := id rfl
theorem geI {i j : Int} : pyGe (.int i) (.int j) = some (decide (j ≤ i)) := id rfl
theorem modI {i j : Int} (h : 0 < j) : pyMod (.int i) (.int j) = some (.int (i % j)) := if_pos h
theorem divI {i j : Int} (h : 0 < j) (h2 : j.natAbs.log2 < 9000) : pyDiv (.int i) (.int j) = some (.int (i / j)) := if_pos ⟨h, h2⟩
theorem mulI {i j : Int} (h : mulOk i j = true) : pyMul (.int i) (.int j) = some (.int (i * j)) := if_pos h
theorem log2_small {n k : Nat} (h : n < 2 ^ k) (hk : 0 < k) : n.log2 < k := by
  by_cases z : n = 0
  · subst z; simpa using hk
  · exact (Nat.log2_lt z).mpr h
theorem mulOk_l {i j : Int} (h1 : -(2 ^ 64) < i) (h2 : i < 2 ^ 64) : mulOk i j = true := by
  unfold mulOk
  rw [decide_eq_true (.inl ⟨h1, h2⟩)]
  rfl
theorem mulOk_r {i j : Int} (h1 : -(2 ^ 64) < j) (h2 : j < 2 ^ 64) : mulOk i j = true := by
  unfold mulOk
  rw [decide_eq_true (.inr ⟨h1, h2⟩)]
  rfl
theorem mulOk_w {i j : Int} {a b : Nat} (h1 : i.natAbs < 2 ^ a) (h2 : j.natAbs < 2 ^ b) (ha : 0 < a) (hb : 0 < b) (h : a + b ≤ 1000000) : mulOk i j = true := by
  unfold mulOk
  have q1 := log2_small h1 ha
  have q2 := log2_small h2 hb
  have : i.natAbs.log2 + j.natAbs.log2 < 1000000 := by omega
  rw [decide_eq_true this, Bool.or_true]
/-! loops -/
theorem forGo_nil {tg : DG} {body : DS} {sl : Sl} {B : Bx} : forGo tg body [] sl B = some (.nx sl B) := rfl
theorem forGo_step {tg : DG} {body : DS} {x : PyData} {xs : List PyData} {sl s1 s2 : Sl} {B B2 : Bx} (h1 : tg x sl = some s1) (h2 : body s1 B = some (.nx s2 B2)) : forGo tg body (x :: xs) sl B = forGo tg body xs s2 B2 := by
  show (tg x sl).bind _ = _
  rw [h1]
  show (body s1 B).bind _ = _
  rw [h2]
  rfl
theorem forGo_stepC {tg : DG} {body : DS} {x : PyData} {xs : List PyData} {sl s1 s2 : Sl} {B B2 : Bx} (h1 : tg x sl = some s1) (h2 : body s1 B = some (.ct s2 B2)) : forGo tg body (x :: xs) sl B = forGo tg body xs s2 B2 := by
  show (tg x sl).bind _ = _
  rw [h1]
  show (body s1 B).bind _ = _
  rw [h2]
  rfl
theorem forGo_brk {tg : DG} {body : DS} {x : PyData} {xs : List PyData} {sl s1 s2 : Sl} {B B2 : Bx} (h1 : tg x sl = some s1) (h2 : body s1 B = some (.bk s2 B2)) : forGo tg body (x :: xs) sl B = some (.nx s2 B2) := by
  show (tg x sl).bind _ = _
  rw [h1]
  show (body s1 B).bind _ = _
  rw [h2]
  rfl
theorem forGo_ret {tg : DG} {body : DS} {x : PyData} {xs : List PyData} {sl s1 : Sl} {r : Sv} {B B2 : Bx} (h1 : tg x sl = some s1) (h2 : body s1 B = some (.rt r B2)) : forGo tg body (x :: xs) sl B = some (.rt r B2) := by
  show (tg x sl).bind _ = _
  rw [h1]
  show (body s1 B).bind _ = _
  rw [h2]
  rfl
/-- a loop by an invariant over (turn, slots, box) -/
theorem forGo_inv {tg : DG} {body : DS} (xs : List PyData) (Pv : Nat → Sl → Bx → Prop) (step : ∀ i x sl B, xs[i]? = some x → Pv i sl B → ∃ s1 s2 B2, tg x sl = some s1 ∧ (body s1 B = some (.nx s2 B2) ∨ body s1 B = some (.ct s2 B2)) ∧ Pv (i + 1) s2 B2) :
    ∀ (k : Nat) (sl : Sl) (B : Bx), k ≤ xs.length → Pv k sl B → ∃ s2 B2, forGo tg body (xs.drop k) sl B = some (.nx s2 B2) ∧ Pv xs.length s2 B2 := by
  intro k
  generalize hm : xs.length - k = m
  induction m generalizing k with
  | zero =>
    intro sl B hk h
    have : k = xs.length := by omega
    subst this
    rw [List.drop_length]
    exact ⟨sl, B, rfl, h⟩
  | succ m ih =>
    intro sl B hk h
    have hlt : k < xs.length := by omega
    rw [List.drop_eq_getElem_cons hlt]
    obtain ⟨s1, s2, B2, h1, h2, h3⟩ := step k _ sl B (List.getElem?_eq_getElem hlt) h
    obtain ⟨s3, B3, h4, h5⟩ := ih (k + 1) (by omega) s2 B2 hlt h3
    refine ⟨s3, B3, ?_, h5⟩
    rcases h2 with h2 | h2
    · rw [forGo_step h1 h2]; exact h4
    · rw [forGo_stepC h1 h2]; exact h4
theorem cmpGo_nil {tg : DG} {t : DT} {e : DE} {sw : Sl} {B : Bx} : cmpGo tg t e sw [] B = some ([], B) := rfl
/-- a comprehension without a state -/
theorem cmpGo_pure {tg : DG} {t : DT} {e : DE} {sw : Sl} {B : Bx} (f : PyData → Bool) (g : PyData → PyData) : ∀ (xs : List PyData), (∀ x ∈ xs, ∃ s2, tg x sw = some s2 ∧ t s2 B = some (f x, B) ∧ (f x = true → e s2 B = some (g x, B))) → cmpGo tg t e sw xs B = some ((xs.filter f).map g, B)
  | [], _ => rfl
  | x :: xs, h => by
    obtain ⟨s2, h1, h2, h3⟩ := h x List.mem_cons_self
    have ih := cmpGo_pure f g xs fun y hy => h y (List.mem_cons_of_mem _ hy)
    unfold cmpGo
    rw [h1]
    show (t s2 B).bind _ = _
    rw [h2]
    show (if f x = true then _ else _) = _
    cases hf : f x with
    | true =>
      rw [if_pos rfl]
      show (e s2 B).bind _ = _
      rw [h3 hf]
      show (cmpGo tg t e sw xs B).map _ = _
      rw [ih, List.filter_cons_of_pos hf]
      rfl
    | false =>
      rw [if_neg Bool.false_ne_true, List.filter_cons_of_neg (by rw [hf]; exact Bool.false_ne_true)]
      exact ih
theorem cmpGo_map {tg : DG} {e : DE} {sw : Sl} {B : Bx} (g : PyData → PyData) (xs : List PyData) (h : ∀ x ∈ xs, ∃ s2, tg x sw = some s2 ∧ e s2 B = some (g x, B)) : cmpGo tg dYes e sw xs B = some (xs.map g, B) := by
  have := cmpGo_pure (tg := tg) (t := dYes) (e := e) (sw := sw) (B := B) (fun _ => true) g xs fun x hx => by
    obtain ⟨s2, h1, h2⟩ := h x hx
    exact ⟨s2, h1, rfl, fun _ => h2⟩
  rw [this, List.filter_eq_self.mpr (fun _ _ => rfl)]
theorem rngD_get {lo : Int} {n i : Nat} {x : PyData} (h : (rngD lo n)[i]? = some x) : i < n ∧ x = .int (lo + (i : Int)) := by
  unfold rngD at h
  rw [List.getElem?_map] at h
  obtain ⟨j, e1, e2⟩ := mpd h
  have hi : i < n := by
    rcases Nat.lt_or_ge i n with z | z
    · exact z
    · rw [List.getElem?_eq_none (by simpa using z)] at e1; cases e1
  rw [List.getElem?_range hi] at e1
  cases e1
  exact ⟨hi, e2.symm⟩
theorem rngD_length (lo : Int) (n : Nat) : (rngD lo n).length = n := by simp [rngD]
theorem rngD_mem {lo : Int} {n : Nat} {x : PyData} (h : x ∈ rngD lo n) : ∃ i, i < n ∧ x = .int (lo + (i : Int)) := by
  obtain ⟨i, hi⟩ := List.getElem?_of_mem h
  exact ⟨i, rngD_get hi⟩
theorem sz {n : Nat} (h : n ≤ 1000000) : n ≤ sizeLine := Nat.le_trans h (by decide)
theorem szlt {n : Nat} (h : n < 1000000) : n < sizeLine := Nat.lt_of_lt_of_le h (by decide)
theorem k_at0 {α : Type} {x : α} {xs : List α} : L2.atI (x :: xs) 0 = some x := L2.atI_nat (j := 0) rfl
theorem k_at1 {α : Type} {x y : α} {xs : List α} : L2.atI (x :: y :: xs) 1 = some y := L2.atI_nat (j := 1) rfl
theorem k_at2 {α : Type} {x y z : α} {xs : List α} : L2.atI (x :: y :: z :: xs) 2 = some z := L2.atI_nat (j := 2) rfl
theorem at_nat {α : Type} {xs : List α} {i : Nat} (h : i < xs.length) : L2.atI xs (i : Int) = some xs[i] := L2.atI_nat (List.getElem?_eq_getElem h)
theorem sz0 : 0 ≤ sizeLine := Nat.zero_le _
theorem sz1 : 1 ≤ sizeLine := sz (by decide)
theorem sz2 : 2 ≤ sizeLine := sz (by decide)
theorem sz3 : 3 ≤ sizeLine := sz (by decide)
theorem sz4 : 4 ≤ sizeLine := sz (by decide)
theorem sz5 : 5 ≤ sizeLine := sz (by decide)
theorem sz6 : 6 ≤ sizeLine := sz (by decide)
theorem rng_ok {n : Nat} (h : n < 1000000) : (-(2 ^ 62) ≤ (n : Int) ∧ (n : Int) < 2 ^ 62) = True := by
  have e : (2 : Int) ^ 62 = 4611686018427387904 := by decide
  rw [e]
  exact eq_true (by omega)
theorem rng_okI {i : Int} (h1 : -1000000 < i) (h : i < 1000000) : (-(2 ^ 62) ≤ i ∧ i < 2 ^ 62) = True := by
  have e : (2 : Int) ^ 62 = 4611686018427387904 := by decide
  rw [e]
  exact eq_true (by omega)
theorem rng_ok2 {i j : Int} (h1 : -1000000 < i) (h : i < 1000000) (h3 : -1000000 < j) (h4 : j < 1000000) : (-(2 ^ 62) ≤ i ∧ i < 2 ^ 62 ∧ -(2 ^ 62) ≤ j ∧ j < 2 ^ 62) = True := by
  have e : (2 : Int) ^ 62 = 4611686018427387904 := by decide
  rw [e]
  exact eq_true (by omega)
/-! the draw box of two numbers -/
section
variable {cs : List Int} {c x y n : Int} {on : Bool} {sl : Sl}
theorem k_bg1 : dBget 0 1 (some .box :: sl) ⟨cs, [x, y], on⟩ = some (.int x, ⟨cs, [x, y], on⟩) := id rfl
theorem k_bg2 : dBget 0 2 (some .box :: sl) ⟨cs, [x, y], on⟩ = some (.int y, ⟨cs, [x, y], on⟩) := id rfl
theorem k_bs1 : kBset 0 1 (some .box :: sl) (some (.int n, ⟨cs, [x, y], on⟩)) = some (.nx (some .box :: sl) ⟨cs, [n, y], on⟩) := id rfl
theorem k_bs2 : kBset 0 2 (some .box :: sl) (some (.int n, ⟨cs, [x, y], on⟩)) = some (.nx (some .box :: sl) ⟨cs, [x, n], on⟩) := id rfl
theorem k_bc : dBcells 0 (some .box :: sl) ⟨cs, [x, y], on⟩ = some (.cells, ⟨cs, [x, y], on⟩) := id rfl
theorem k_pop1 : kPopC (some (.cells, ⟨c :: cs, [x, y], on⟩)) = some (.int c, ⟨cs, [x, y], on⟩) := id rfl
end
/-- a draw box that can be drawn from -/
def BI (B : Bx) : Prop := ∃ cs x y, B = ⟨cs, [x, y], true⟩ ∧ 0 ≤ x ∧ 0 ≤ y
theorem eqI_self {i : Int} : pyEq (.int i) (.int i) = some true := by rw [eqI]; simp
end Dn

set_option Elab.async false
set_option linter.all false
set_option autoImplicit false
set_option maxRecDepth 100000
set_option maxHeartbeats 2000000
namespace Dn
open PySem PySem.Spec PyProof.Rows L2

/-! ### in, not in: lists and tuples -/
def itemsD : PyData → Option (List PyData)
  | .list xs => some xs
  | .tuple xs => some xs
  | _ => none
def rInA (K : Frg) : R2 := fun x y H Q => ∃ d c ds, Dp K H x d ∧ Dp K H y c ∧ (c = .list ds ∨ c = .tuple ds) ∧ SeqAt.shaped d = true ∧ SeqAt.shaped (.list ds) = true ∧ Q (.bl (ds.any fun z => PyData.eqv z d)) H
def rNotInA (K : Frg) : R2 := fun x y H Q => ∃ d c ds, Dp K H x d ∧ Dp K H y c ∧ (c = .list ds ∨ c = .tuple ds) ∧ SeqAt.shaped d = true ∧ SeqAt.shaped (.list ds) = true ∧ Q (.bl (!ds.any fun z => PyData.eqv z d)) H
theorem op_inA {X : Cx} (hu : X.A.units + 65 < cLine) : OpR X (compareOp .In) (rInA X.K) := by
  intro pins s σ H x y v u Q I rx ry h
  obtain ⟨d, c, ds, hd, he, hc, sd, se, q⟩ := h
  obtain ⟨as, r1⟩ := Dp.reads I d x v hd rx
  obtain ⟨bs, r2⟩ := Dp.reads I c y u he ry
  rcases hc with rfl | rfl
  · exact SeqAt.in_list_reads r2 r1 (SeqAt.canLay_of_shaped se) (SeqAt.canLay_of_shaped sd) (room_in_shaped sd hu) ⟨.bl _, H, I, rfl, q⟩
  · exact SeqAt.in_tuple_reads r2 r1 (SeqAt.canLay_of_shaped se) (SeqAt.canLay_of_shaped sd) (room_in_shaped sd hu) ⟨.bl _, H, I, rfl, q⟩
theorem op_notInA {X : Cx} (hu : X.A.units + 65 < cLine) : OpR X (compareOp .NotIn) (rNotInA X.K) := by
  intro pins s σ H x y v u Q I rx ry h
  obtain ⟨d, c, ds, hd, he, hc, sd, se, q⟩ := h
  obtain ⟨as, r1⟩ := Dp.reads I d x v hd rx
  obtain ⟨bs, r2⟩ := Dp.reads I c y u he ry
  rcases hc with rfl | rfl
  · exact SeqAt.notIn_list_reads r2 r1 (SeqAt.canLay_of_shaped se) (SeqAt.canLay_of_shaped sd) (room_in_shaped sd hu) ⟨.bl _, H, I, rfl, q⟩
  · exact SeqAt.notIn_tuple_reads r2 r1 (SeqAt.canLay_of_shaped se) (SeqAt.canLay_of_shaped sd) (room_in_shaped sd hu) ⟨.bl _, H, I, rfl, q⟩
def pyIn (x y : PyData) : Option Bool := (itemsD y).bind fun ds => if SeqAt.shaped x = true ∧ SeqAt.shaped (.list ds) = true then some (ds.any fun z => PyData.eqv z x) else none
def pyNotIn (x y : PyData) : Option Bool := (pyIn x y).map fun b => !b
theorem itemsD_is {c : PyData} {ds : List PyData} (h : itemsD c = some ds) : c = .list ds ∨ c = .tuple ds := by
  cases c <;> cases h
  · exact .inl rfl
  · exact .inr rfl
theorem r_in {K : Frg} : RTs K (rInA K) pyIn := fun x y z e F H b v u Q fr qx qy k => by
  obtain ⟨ds, e1, e⟩ := bnd e
  split at e
  · rename_i h
    cases e
    exact ⟨x, y, ds, qx.dp fr, qy.dp fr, itemsD_is e1, h.1, h.2, k⟩
  · cases e
theorem r_notin {K : Frg} : RTs K (rNotInA K) pyNotIn := fun x y z e F H b v u Q fr qx qy k => by
  obtain ⟨t, e0, e⟩ := mpd e
  obtain ⟨ds, e1, e2⟩ := bnd e0
  split at e2
  · rename_i h
    cases e2
    cases e
    exact ⟨x, y, ds, qx.dp fr, qy.dp fr, itemsD_is e1, h.1, h.2, k⟩
  · cases e2

/-! ### the order of data -/
def cmpOk (x y : PyData) : Bool := PySem.W.alike x y && decide (x.depth ≤ 60) && !isNon x
theorem cmpOk_is {x y : PyData} (h : cmpOk x y = true) : PySem.W.alike x y = true ∧ x ≠ .none ∧ x.depth ≤ 60 := by
  unfold cmpOk at h
  rw [Bool.and_eq_true, Bool.and_eq_true, decide_eq_true_eq] at h
  refine ⟨h.1.1, fun e => ?_, h.1.2⟩
  rw [e] at h
  exact absurd h.2 (by decide)
def rOrd (K : Frg) (g : PyData → PyData → Bool) : R2 := fun x y H Q => ∃ d e, Dp K H x d ∧ Dp K H y e ∧ cmpOk d e = true ∧ Q (.bl (g d e)) H
theorem roomD {A : Around} {d e : PyData} (hu : A.units + 65 < cLine) (h : d.depth ≤ 60) : A.units + min d.depth e.depth < cLine := by
  have := Nat.min_le_left d.depth e.depth
  omega
theorem op_ltD {X : Cx} (hu : X.A.units + 65 < cLine) : OpR X (compareOp .Lt) (rOrd X.K fun d e => PySem.W.dataLt d e) := by
  intro pins s σ H x y v u Q I rx ry h
  obtain ⟨d, c, hd, he, hc, q⟩ := h
  obtain ⟨as, r1⟩ := Dp.reads I d x v hd rx
  obtain ⟨bs, r2⟩ := Dp.reads I c y u he ry
  obtain ⟨h1, h2, h3⟩ := cmpOk_is hc
  exact PySem.W.lt_data r1 r2 h1 h2 (roomD hu h3) ⟨.bl _, H, I, rfl, q⟩
theorem op_gtD {X : Cx} (hu : X.A.units + 65 < cLine) : OpR X (compareOp .Gt) (rOrd X.K fun d e => PySem.W.dataLt e d) := by
  intro pins s σ H x y v u Q I rx ry h
  obtain ⟨d, c, hd, he, hc, q⟩ := h
  obtain ⟨as, r1⟩ := Dp.reads I d x v hd rx
  obtain ⟨bs, r2⟩ := Dp.reads I c y u he ry
  obtain ⟨h1, h2, h3⟩ := cmpOk_is hc
  exact PySem.W.gt_data r1 r2 h1 h2 (roomD hu h3) ⟨.bl _, H, I, rfl, q⟩
theorem op_leD {X : Cx} (hu : X.A.units + 65 < cLine) : OpR X (compareOp .LtE) (rOrd X.K fun d e => !PySem.W.dataLt e d) := by
  intro pins s σ H x y v u Q I rx ry h
  obtain ⟨d, c, hd, he, hc, q⟩ := h
  obtain ⟨as, r1⟩ := Dp.reads I d x v hd rx
  obtain ⟨bs, r2⟩ := Dp.reads I c y u he ry
  obtain ⟨h1, h2, h3⟩ := cmpOk_is hc
  exact PySem.W.le_data r1 r2 h1 h2 (roomD hu h3) ⟨.bl _, H, I, rfl, q⟩
theorem op_geD {X : Cx} (hu : X.A.units + 65 < cLine) : OpR X (compareOp .GtE) (rOrd X.K fun d e => !PySem.W.dataLt d e) := by
  intro pins s σ H x y v u Q I rx ry h
  obtain ⟨d, c, hd, he, hc, q⟩ := h
  obtain ⟨as, r1⟩ := Dp.reads I d x v hd rx
  obtain ⟨bs, r2⟩ := Dp.reads I c y u he ry
  obtain ⟨h1, h2, h3⟩ := cmpOk_is hc
  exact PySem.W.ge_data r1 r2 h1 h2 (roomD hu h3) ⟨.bl _, H, I, rfl, q⟩
def pyOrd (g : PyData → PyData → Bool) (x y : PyData) : Option Bool := if cmpOk x y = true then some (g x y) else none
def pyLtD := pyOrd fun d e => PySem.W.dataLt d e
def pyGtD := pyOrd fun d e => PySem.W.dataLt e d
def pyLeD := pyOrd fun d e => !PySem.W.dataLt e d
def pyGeD := pyOrd fun d e => !PySem.W.dataLt d e
theorem r_ord {K : Frg} {g : PyData → PyData → Bool} : RTs K (rOrd K g) (pyOrd g) := fun x y z e F H b v u Q fr qx qy k => by
  unfold pyOrd at e
  split at e
  · rename_i h
    cases e
    exact ⟨x, y, qx.dp fr, qy.dp fr, h, k⟩
  · cases e

/-! ### a op b op' c -/
def dChn (f g : PyData → PyData → Option Bool) (da db dc : DE) : DT := fun sl B => (da sl B).bind fun p => (db sl p.2).bind fun q => (f p.1 q.1).bind fun t => if t = true then (dc sl q.2).bind fun r => (g q.1 r.1).map fun z => (z, r.2) else some (false, q.2)
def dChnB (f g : PyData → PyData → Option Bool) (da db dc : DE) : DE := fun sl B => (dChn f g da db dc sl B).map fun p => (.bool p.1, p.2)
section
variable {X : Cx} {C : Fx} {a b c : Expr} {da db dc : DE} {pos : Pos}
theorem chn_imp {r r' : R2} {f g : PyData → PyData → Option Bool} (hr : RTs X.K r f) (hr' : RTs X.K r' g) {sl : Sl} {B : Bx} {F H : Hp} {bb : Bad} {σ : L2.St} {t : Bool} {B' : Bx} {Q : VK} (R : Rel X.K C sl B F bb σ H) (e : dChn f g da db dc sl B = some (t, B'))
    (k : ∀ H' F' b', Rel X.K C sl B' F' b' σ H' → Stp F bb H F' b' H' → Q (.bl t) H') : tChain r r' (liftO X.K C da) (liftO X.K C db) (liftO X.K C dc) σ H Q := by
  obtain ⟨⟨x, B1⟩, e1, e⟩ := bnd e
  obtain ⟨⟨y, B2⟩, e2, e⟩ := bnd e
  obtain ⟨z, e3, e⟩ := bnd e
  refine two_o R e1 e2 fun v u H' F' b' R' S' qx qy => ?_
  refine hr x y _ e3 F' H' b' v u _ R'.fro qx qy ⟨z, rfl, ?_⟩
  cases z with
  | false =>
    cases e
    exact iteF (k H' F' b' R' S')
  | true =>
    obtain ⟨⟨w, B3⟩, e4, e⟩ := bnd e
    obtain ⟨t', e5, e⟩ := mpd e
    cases e
    exact iteT ⟨sl, B2, F', b', w, B3, R', e4, fun w' H2 F2 b2 R2 S2 q2 => hr' y w _ e5 F2 H2 b2 u w' Q R2.fro (qy.mono S2) q2 (k H2 F2 b2 R2 (S'.trans S2))⟩
theorem e_chn {op op' : CmpOp} {r r' : R2} {f g : PyData → PyData → Option Bool} (ho : OpR X (compareOp op) r) (hr : RTs X.K r f) (ho' : OpR X (compareOp op') r') (hr' : RTs X.K r' g) (ha : PE X a (liftO X.K C da)) (hb : PE X b (liftO X.K C db)) (hc : PE X c (liftO X.K C dc))
    (hm : lastMarks [op, op'] [b, c] = false := by with_unfolding_all rfl) : PE X (.Compare a [op, op'] [b, c] pos) (liftE X.K C (dChnB f g da db dc)) :=
  imp_e (fun σ H Q ⟨sl, B, F, bb, rr, B', R, e, k⟩ => by
    obtain ⟨⟨t, B1⟩, e1, e⟩ := mpd e
    cases e
    exact chn_imp hr hr' R e1 fun H' F' b' R' S' => k _ H' F' b' R' S' (.bl _)) (pe_chain ho ho' ha hb hc hm)
theorem t_chn {op op' : CmpOp} {r r' : R2} {f g : PyData → PyData → Option Bool} (ho : OpR X (compareOp op) r) (hr : RTs X.K r f) (ho' : OpR X (compareOp op') r') (hr' : RTs X.K r' g) (ha : PE X a (liftO X.K C da)) (hb : PE X b (liftO X.K C db)) (hc : PE X c (liftO X.K C dc))
    (hm : lastMarks [op, op'] [b, c] = false := by with_unfolding_all rfl) : PT X (.Compare a [op, op'] [b, c] pos) (liftT X.K C (dChn f g da db dc)) :=
  imp_t (fun σ H Q ⟨sl, B, F, bb, rr, B', R, e, k⟩ => chn_imp hr hr' R e fun H' F' b' R' S' => ⟨rr, rfl, k H' F' b' R' S'⟩) (pt_chain ho ho' ha hb hc hm)
end
end Dn

set_option Elab.async false
set_option linter.all false
set_option autoImplicit false
set_option maxRecDepth 100000
set_option maxHeartbeats 2000000
namespace Dn
open PySem PySem.Spec PyProof.Rows L2

/-! ### max, min of ints -/
theorem alike_ints (ns : List Int) : PySem.W.AlikeAll (ns.map PyData.int) := by
  refine ⟨fun x hx y hy => ?_, fun x hx e => ?_⟩
  · obtain ⟨i, _, rfl⟩ := List.mem_map.mp hx
    obtain ⟨j, _, rfl⟩ := List.mem_map.mp hy
    simp [PySem.W.alike]
  · obtain ⟨i, _, rfl⟩ := List.mem_map.mp hx
    cases e
theorem depth_ints : ∀ ns : List Int, PyData.depthAll (ns.map PyData.int) = 0
  | [] => rfl
  | n :: ns => by
    show max (PyData.depth (.int n)) (PyData.depthAll (ns.map PyData.int)) = 0
    rw [depth_ints ns]; rfl
theorem dp_ints {K : Frg} {H : Hp} : ∀ ns : List Int, DpAll K H (ns.map V.int) (ns.map PyData.int)
  | [] => .nil
  | n :: ns => .cons (.int n) (dp_ints ns)
def rM1 (K : Frg) (g : Int → List Int → Int) : List V → Hp → VK → Prop := fun vs H Q => ∃ (a : Addr) (n : Int) (ns : List Int), vs = [V.ref a] ∧ (SqL K H a ((n :: ns).map V.int) ∨ SqT K H a ((n :: ns).map V.int)) ∧ Q (.int (g n ns)) H
theorem cr_max1 {X : Cx} (hc : X.calm = true) (hu : X.A.units + 65 < cLine) : CallR X (.builtin "max") (rM1 X.K fun n ns => ns.foldl max n) := by
  intro pins s σ H vs us Q I r h
  obtain ⟨a, n, ns, rfl, hs, q⟩ := h
  have hz : X.A.units + 1 + PyData.depthAll (PyData.int n :: ns.map PyData.int) < cLine := by
    rw [show PyData.int n :: ns.map PyData.int = (n :: ns).map PyData.int from rfl, depth_ints]; omega
  rcases hs with hs | hs
  · obtain ⟨its, rv, hl, _⟩ := I.list hs
    rw [Vals.ref1 r]
    obtain ⟨as, ra⟩ := Dp.readsAll I _ _ _ (dp_ints (K := X.K) (H := H) (n :: ns)) rv
    refine PySem.W.max_list_data (I.ok.hd hc) hl.isList (by simpa using ra) (alike_ints (n :: ns)) hz fun i v h' tk bs _ rd hk => ?_
    rw [PySem.W.maxD_ints] at rd
    cases rd
    exact ⟨.int _, H, I.kept hk, ⟨_, rfl⟩, q⟩
  · obtain ⟨its, rv, hl, _⟩ := I.tuple hs
    rw [Vals.ref1 r]
    obtain ⟨as, ra⟩ := Dp.readsAll I _ _ _ (dp_ints (K := X.K) (H := H) (n :: ns)) rv
    refine PySem.W.max_tuple_data (I.ok.hd hc) (show s.heap.IsTuple a its.toArray from hl) (by simpa using ra) (alike_ints (n :: ns)) hz fun i v h' tk bs _ rd hk => ?_
    rw [PySem.W.maxD_ints] at rd
    cases rd
    exact ⟨.int _, H, I.kept hk, ⟨_, rfl⟩, q⟩
theorem cr_min1 {X : Cx} (hc : X.calm = true) (hu : X.A.units + 65 < cLine) : CallR X (.builtin "min") (rM1 X.K fun n ns => ns.foldl min n) := by
  intro pins s σ H vs us Q I r h
  obtain ⟨a, n, ns, rfl, hs, q⟩ := h
  have hz : X.A.units + 1 + PyData.depthAll (PyData.int n :: ns.map PyData.int) < cLine := by
    rw [show PyData.int n :: ns.map PyData.int = (n :: ns).map PyData.int from rfl, depth_ints]; omega
  rcases hs with hs | hs
  · obtain ⟨its, rv, hl, _⟩ := I.list hs
    rw [Vals.ref1 r]
    obtain ⟨as, ra⟩ := Dp.readsAll I _ _ _ (dp_ints (K := X.K) (H := H) (n :: ns)) rv
    refine PySem.W.min_list_data (I.ok.hd hc) hl.isList (by simpa using ra) (alike_ints (n :: ns)) hz fun i v h' tk bs _ rd hk => ?_
    rw [PySem.W.minD_ints] at rd
    cases rd
    exact ⟨.int _, H, I.kept hk, ⟨_, rfl⟩, q⟩
  · obtain ⟨its, rv, hl, _⟩ := I.tuple hs
    rw [Vals.ref1 r]
    obtain ⟨as, ra⟩ := Dp.readsAll I _ _ _ (dp_ints (K := X.K) (H := H) (n :: ns)) rv
    refine PySem.W.min_tuple_data (I.ok.hd hc) (show s.heap.IsTuple a its.toArray from hl) (by simpa using ra) (alike_ints (n :: ns)) hz fun i v h' tk bs _ rd hk => ?_
    rw [PySem.W.minD_ints] at rd
    cases rd
    exact ⟨.int _, H, I.kept hk, ⟨_, rfl⟩, q⟩
def pyM1 (g : Int → List Int → Int) : List PyData → Option PyData
  | [.list xs] => (intsOf xs).bind fun ns => match ns with
    | n :: r => some (.int (g n r))
    | [] => none
  | [.tuple xs] => (intsOf xs).bind fun ns => match ns with
    | n :: r => some (.int (g n r))
    | [] => none
  | _ => none
def pyMax1 := pyM1 fun n ns => ns.foldl max n
def pyMin1 := pyM1 fun n ns => ns.foldl min n
theorem r_m1 {X : Cx} {g : Int → List Int → Int} : RCl X.K (rM1 X.K g) (pyM1 g) := fun ds z e F H b vs Q fr q k => by
  unfold pyM1 at e
  split at e
  · obtain ⟨ns, e1, e⟩ := bnd e
    split at e
    · cases e
      have e1 := intsOf_eq e1
      subst e1
      obtain ⟨v, rfl, p, us, rfl, h1, _, h2⟩ := tops1 q
      have e2 := h2.ints
      subst e2
      exact ⟨p, _, _, rfl, .inl (SqL.of h1), k _ _ _ .refl (.int _)⟩
    · cases e
  · obtain ⟨ns, e1, e⟩ := bnd e
    split at e
    · cases e
      have e1 := intsOf_eq e1
      subst e1
      obtain ⟨v, rfl, h⟩ := tops1 q
      obtain ⟨p, us, rfl, h1, h2⟩ := top_tup fr h
      have e2 := h2.ints
      subst e2
      exact ⟨p, _, _, rfl, .inr h1, k _ _ _ .refl (.int _)⟩
    · cases e
  · cases e
end Dn

set_option Elab.async false
set_option linter.all false
set_option autoImplicit false
set_option maxRecDepth 100000
set_option maxHeartbeats 2000000
namespace Dn
open PySem PySem.Spec PyProof.Rows L2

/-! ### sorted(xs), alike data -/
def sortD (ds : List PyData) : List PyData := ds.mergeSort (PySem.W.dataLe false id)
def sortOk (ds : List PyData) : Bool := (ds.all fun d => ds.all fun e => PySem.W.alike d e) && (ds.all fun d => decide (d.depth ≤ 60)) &&
  ((ds.all fun d => match d with | .tuple (_ :: _) => true | _ => false) || (ds.all fun d => match d with | .tuple _ => false | .none => false | _ => true))
theorem sortOk_is {ds : List PyData} (h : sortOk ds = true) : PySem.W.AllAlike ds ∧ PySem.W.Sortable ds ∧ ∀ d ∈ ds, d.depth ≤ 60 := by
  unfold sortOk at h
  rw [Bool.and_eq_true, Bool.and_eq_true, Bool.or_eq_true, List.all_eq_true, List.all_eq_true, List.all_eq_true, List.all_eq_true] at h
  obtain ⟨⟨h1, h2⟩, h3⟩ := h
  refine ⟨fun d hd e he => List.all_eq_true.mp (h1 d hd) e he, ?_, fun d hd => of_decide_eq_true (h2 d hd)⟩
  rcases h3 with h3 | h3
  · refine .inl fun d hd => ?_
    have := h3 d hd
    split at this
    · exact ⟨_, _, rfl⟩
    · cases this
  · refine .inr fun d hd => ?_
    have := h3 d hd
    split at this
    · cases this
    · cases this
    · rename_i n1 n2
      exact ⟨n2, n1⟩
def rSortD (K : Frg) : List V → Hp → VK → Prop := fun vs H Q => ∃ (a : Addr) (xs : List V) (ds : List PyData), vs = [V.ref a] ∧ SqL K H a xs ∧ DpAll K H xs ds ∧ sortOk ds = true ∧
  ∀ (ys : List (V × PyData)) (p : Addr), ys.Perm (xs.zip ds) → ys.map Prod.snd = sortD ds → H p = none → Q (.ref p) (upd H p (.lst (ys.map Prod.fst)))
theorem dpAll_len {K : Frg} {H : Hp} : ∀ {xs : List V} {ds : List PyData}, DpAll K H xs ds → xs.length = ds.length
  | _, _, .nil => rfl
  | _, _, .cons _ t => congrArg Nat.succ (dpAll_len t)
theorem each_zip : ∀ {xs : List V} {us : List Value} {ds : List PyData}, xs.length = ds.length → Vals xs us → PySem.W.EachIs (fun (u : Value) (b : V × PyData) => RelV b.1 u) us (xs.zip ds)
  | [], _, _, _, .nil => .nil
  | x :: xs, _, d :: ds, h, .cons r t => .cons r (each_zip (Nat.succ.inj h) t)
  | _ :: _, _, [], h, .cons _ _ => by cases h
theorem each_rds {h : Heap} : ∀ {xs : List V} {us : List Value} {ds : List PyData} {as : List Addr}, xs.length = ds.length → Vals xs us → ReadsAll h us ds as → PySem.W.EachIs (fun (u : Value) (b : V × PyData) => ∃ as, Reads h u b.2 as) us (xs.zip ds)
  | [], _, _, _, _, .nil, .nil => .nil
  | x :: xs, _, d :: ds, _, hl, .cons r t, .cons r1 r2 => .cons ⟨_, r1⟩ (each_rds (Nat.succ.inj hl) t r2)
theorem each_vals : ∀ {us : List Value} {bs : List (V × PyData)}, PySem.W.EachIs (fun (u : Value) (b : V × PyData) => RelV b.1 u) us bs → Vals (bs.map Prod.fst) us
  | _, _, .nil => .nil
  | _, _, .cons r t => .cons r (each_vals t)
theorem zip_snd : ∀ {xs : List V} {ds : List PyData}, xs.length = ds.length → (xs.zip ds).map Prod.snd = ds
  | [], [], _ => rfl
  | x :: xs, d :: ds, h => congrArg (d :: ·) (zip_snd (Nat.succ.inj h))
theorem cr_sortD {X : Cx} (hu : X.A.units + 65 < cLine) : CallR X (.builtin "sorted") (rSortD X.K) := by
  intro pins s σ H vs us Q I r h
  obtain ⟨a, xs, ds, rfl, hs, hd, hk, q⟩ := h
  obtain ⟨its, rv, hl, hz⟩ := I.list hs
  rw [Vals.ref1 r]
  obtain ⟨as, ra⟩ := Dp.readsAll I _ _ _ hd rv
  obtain ⟨h1, h2, h3⟩ := sortOk_is hk
  have el := dpAll_len hd
  have ez := zip_snd el
  refine PySem.W.sorted_data (enc := Prod.snd) (bs := xs.zip ds) hl.isList (each_zip el rv) (each_rds el rv ra) (by rw [ez]; exact h1) (by rw [ez]; exact h2) (by rw [List.length_zip, el, Nat.min_self, ← el]; exact hz) (fun b hb => by
    have := h3 b.2 (List.of_mem_zip hb).2
    omega) fun out ho hr => ?_
  obtain ⟨ep, he'⟩ := PyProof.Rows.sortedAll_at s.heap its out.toArray
  have hp : (List.mergeSort (xs.zip ds) (PySem.W.dataLe false Prod.snd)).Perm (xs.zip ds) := List.mergeSort_perm _ _
  have hlen : ((List.mergeSort (xs.zip ds) (PySem.W.dataLe false Prod.snd)).map Prod.fst).length ≤ sizeLine := by
    rw [List.length_map, hp.length_eq, List.length_zip, el, Nat.min_self, ← el]; exact hz
  refine ⟨.ref _, upd H (s.heap.objs.size + 1) (.lst _), I.laid (t' := s.toks) (fun _ _ => PyProof.Rows.sortedAll_old) (Nat.le_succ _) ⟨hlen, _, ep, each_vals hr, he'⟩, rfl, q _ _ hp ?_ (I.hok.fresh (Nat.le_succ _))⟩
  unfold sortD
  have e := List.map_mergeSort (r := PySem.W.dataLe false Prod.snd) (s := PySem.W.dataLe false id) (f := Prod.snd) (l := xs.zip ds) fun _ _ _ _ => rfl
  rw [e, ez]
theorem rps_zip {K : Frg} {F : Hp} : ∀ {xs : List V} {ds : List PyData}, Rps K F xs ds → ∀ b ∈ xs.zip ds, Rp K F b.1 b.2
  | _, _, .nil, b, h => absurd h List.not_mem_nil
  | _, _, .cons r t, b, h => by
    rcases List.mem_cons.mp h with e | e
    · rw [e]; exact r
    · exact rps_zip t b e
theorem rps_of {K : Frg} {F : Hp} : ∀ (ys : List (V × PyData)), (∀ b ∈ ys, Rp K F b.1 b.2) → Rps K F (ys.map Prod.fst) (ys.map Prod.snd)
  | [], _ => .nil
  | y :: ys, h => .cons (h y List.mem_cons_self) (rps_of ys fun b hb => h b (List.mem_cons_of_mem _ hb))
def pySorted : List PyData → Option (List PyData)
  | [.list xs] => if sortOk xs = true then some (sortD xs) else none
  | _ => none
theorem r_sortD {X : Cx} : RClL X.K (rSortD X.K) pySorted := fun ds z e F H b vs Q fr q k => by
  unfold pySorted at e
  split at e
  · split at e
    · rename_i hk
      cases e
      obtain ⟨v, rfl, p, us, rfl, h1, _, h2⟩ := tops1 q
      refine ⟨p, us, _, rfl, SqL.of h1, (Rps.mono fr h2).dp, hk, fun ys p' hp hs hn => ?_⟩
      have := rps_of (K := X.K) (F := F) ys fun b hb => rps_zip h2 b (hp.subset hb)
      rw [hs] at this
      exact k p' _ hn this
    · cases e
  · cases e
end Dn

set_option Elab.async false
set_option linter.all false
set_option autoImplicit false
set_option maxRecDepth 100000
set_option maxHeartbeats 2000000

/-! ### t[::-1] -/
namespace HT
open PySem PySem.Spec PyProof.Rows L2
section
variable {prog : Program} {w : World} {A : Around} {E : Value → Shared → Prop} {s : Shared}
theorem sliceApplied_rev {sl : Addr} {vs : Value} {n : Nat} {Q : Int × Int × Nat → Shared → Prop} (hs : s.heap.IsSliceOf sl .none .none vs) (ps : IsPart vs (some (-1)))
    (h : Q ((n : Int) - 1, -1, n) s) : wpAny (model prog w) A (Builtin.Slice.sliceApplied (.ref sl) (pure (n : Int))) Q E s := by
  obtain ⟨os, hos, hcs, hds⟩ := id hs
  unfold Builtin.Slice.sliceApplied Builtin.Slice.sliceFields
  refine wpAny_bind (wpAny_bind (wpAny_field hos hds (x := .none) rfl (wpAny_bind (wpAny_field hos hds (x := .none) rfl (wpAny_bind (wpAny_field hos hds (x := vs) rfl (wpAny_pure ?_)))))))
  refine wpAny_bind (slicePart_ ps ?_)
  show wpAny _ _ (if ((-1 : Int) == 0) = true then _ else _) _ _ s
  rw [if_neg (by decide)]
  refine wpAny_bind (slicePart_none (wpAny_bind (slicePart_none (wpAny_bind (wpAny_pure ?_)))))
  have e : Builtin.Slice.slicePlaces ((n : Int) - 1) (-1) (-1) = n := by
    unfold Builtin.Slice.slicePlaces
    rw [if_neg (by decide)]
    split
    · rw [show -(-1 : Int) = 1 from rfl, Int.ediv_one]; omega
    · omega
  show wpAny _ _ (pure ((n : Int) - 1, (-1 : Int), Builtin.Slice.slicePlaces ((n : Int) - 1) (-1) (-1))) _ _ s
  rw [e]
  exact wpAny_pure h
theorem fm_congr {α β : Type} {f g : α → Option β} : ∀ {l : List α}, (∀ x ∈ l, f x = g x) → l.filterMap f = l.filterMap g
  | [], _ => rfl
  | x :: l, h => by
    rw [List.filterMap_cons, List.filterMap_cons, h x List.mem_cons_self, fm_congr fun y hy => h y (List.mem_cons_of_mem _ hy)]
theorem pick_rev (xs : Array Value) : ((List.range xs.size).filterMap fun (m : Nat) => xs[((xs.size : Int) - 1 + (m : Int) * (-1)).toNat]?).toArray = xs.toList.reverse.toArray := by
  congr 1
  refine List.ext_getElem? fun i => ?_
  have hh : ∀ m, m < xs.size → xs[((xs.size : Int) - 1 + (m : Int) * (-1)).toNat]? = some (xs.toList.reverse.getD m .none) := fun m hm => by
    rw [show ((xs.size : Int) - 1 + (m : Int) * (-1)).toNat = xs.size - 1 - m by omega, List.getD_eq_getElem?_getD, List.getElem?_reverse (by simpa using hm), Array.length_toList, Array.getElem?_toList]
    rw [Array.getElem?_eq_getElem (by omega)]
    rfl
  have e : (List.range xs.size).filterMap (fun (m : Nat) => xs[((xs.size : Int) - 1 + (m : Int) * (-1)).toNat]?) = (List.range xs.size).map fun m => xs.toList.reverse.getD m .none := by
    rw [← List.filterMap_eq_map']
    exact fm_congr fun m hm => by rw [hh m (List.mem_range.mp hm)]
  rw [e, List.getElem?_map]
  rcases Nat.lt_or_ge i xs.size with z | z
  · rw [List.getElem?_range z, Option.map_some, List.getD_eq_getElem?_getD, List.getElem?_eq_getElem (by simpa using z)]
    rfl
  · rw [List.getElem?_eq_none (by simpa using z), List.getElem?_eq_none (by simpa using z), Option.map_none]
theorem getItem_tuple_rev {t sl : Addr} {items : Array Value} {vs : Value} {Q : Value → Shared → Prop} (ht : IsTup s.heap t items) (hs : s.heap.IsSliceOf sl .none .none vs) (ps : IsPart vs (some (-1)))
    (h : Q (.ref s.heap.objs.size) { s with heap := s.heap.push { cls := .type "tuple", data := .seq items.toList.reverse.toArray } })
    (hsz : items.size ≤ sizeLine) : wpAny (model prog w) A (getItem (.ref t) (.ref sl)) Q E s := by
  have htake : sizeOk (.seq items.toList.reverse.toArray) := by
    show items.toList.reverse.toArray.size ≤ sizeLine
    rw [List.size_toArray, List.length_reverse, Array.length_toList]
    exact hsz
  obtain ⟨os, hos, hcs, hds⟩ := id hs
  have hTs : s.TypeIs (.ref sl) "slice" := ⟨os, hos, hcs⟩
  unfold getItem
  try with_reducible refine wpAny_holding ?_
  first | refine wpAny_bind (wpAny_pure ?_) | skip
  refine wpAny_bind (wpAny_sequenceKey ht.typeIs (by decide) ?_)
  refine wpAny_bind (wpAny_callSpecial?_slot (name := Str.ofString "__getitem__") ht.typeIs PyProof.Rows.slot_tuple_getitem
    (wpAny_call_entry PyProof.Rows.slot_tuple_getitem ht.typeIs entry_tuple_getitem ?_ (args_tuple_getitem _ _)))
  show wpAny _ _ (Builtin.Tuple.tupleItemsOf (.ref t) >>= _) _ _ s
  refine wpAny_bind (tupleItemsOf_ ht ?_)
  refine wpAny_bind (wpAny_typeOf hTs ?_)
  rw [if_pos (by decide)]
  refine wpAny_bind (sliceApplied_rev hs ps ?_)
  have hno : ¬ ((((items.size : Int) - 1) == 0 && (-1 : Int) == 1 && items.size == items.size) = true) := by
    intro q
    rw [Bool.and_eq_true, Bool.and_eq_true] at q
    exact absurd (eq_of_beq q.1.2) (by decide)
  show wpAny _ _ (if (((items.size : Int) - 1) == 0 && (-1 : Int) == 1 && items.size == items.size) = true then _ else _) _ _ s
  rw [if_neg hno, pick_rev]
  first
    | exact wpAny_bind (m := Builtin.Tuple.tupleExact _) (wpAny_newObj_type (wpAny_pure ⟨_, rfl, wpAny_pure h⟩) htake)
    | exact wpAny_bind (m := Builtin.Tuple.tupleExact _) (wpAny_newObj_type (wpAny_bind (wpAny_pure (wpAny_pure ⟨_, rfl, wpAny_pure h⟩))) htake)
    | exact wpAny_bind (wpAny_bind (m := Builtin.Tuple.tupleExact _) (wpAny_newObj_type (wpAny_pure (wpAny_pure ⟨_, rfl, wpAny_pure h⟩)) htake))
    | exact wpAny_bind (wpAny_bind (m := Builtin.Tuple.tupleExact _) (wpAny_newObj_type (wpAny_pure ⟨_, rfl, wpAny_pure h⟩) htake))
end
end HT
namespace Dn
open PySem PySem.Spec PyProof.Rows L2
def revD : PyData → Option PyData
  | .list xs => some (.list xs.reverse)
  | .tuple xs => some (.tuple xs.reverse)
  | _ => none
/-- t[::-1] of a tuple -/
def tRevT (K : Frg) (te : TE) : TE := fun σ H Q => te σ H fun x H1 => ∃ a xs, x = .ref a ∧ SqT K H1 a xs ∧ ∀ p, H1 p = none → Q (.ref p) (upd H1 p (.tup xs.reverse))
theorem pe_revT {X : Cx} {e : Expr} {te : TE} {k : Nat} {p1 p2 p3 pos : Pos} (he : PE X e te) : PE X (.Subscript e (.Slice none none (some (.UnaryOp .USub (.Constant (.int 1) k p1) p2)) p3) pos) (tRevT X.K te) := by
  refine ⟨fun pins s σ H Q I h => ?_⟩
  refine Subscript_ (thn (he.run pins s σ H _ I h) fun v s1 ⟨x, H1, I1, r1, q1⟩ => ?_)
  obtain ⟨a, xs, ex, hx, q⟩ := q1
  subst ex
  cases r1
  have hst : PO X (some (.UnaryOp .USub (.Constant (.int 1) k p1) p2)) (tPart (tUn (rU fun i => .int (-i)) (tC (.int 1)))) := po_some (pe_un un_neg pe_int)
  refine wpAny_Slice (thn (po_none.run pins s1 σ H1 (fun o H2 => o = none ∧ H2 = H1) I1 ⟨rfl, rfl⟩) fun vl s2 ⟨l, H2, I2, pl, el, e2⟩ => ?_)
  subst el e2
  refine thn (po_none.run pins s2 σ H2 (fun o H3 => o = none ∧ H3 = H2) I2 ⟨rfl, rfl⟩) fun vu s3 ⟨u, H3, I3, pu, eu, e3⟩ => ?_
  subst eu e3
  refine thn (hst.run pins s3 σ H3 (fun o H4 => o = some (-1) ∧ H4 = H3) I3 ⟨1, rfl, -1, rfl, rfl, rfl⟩) fun vs s4 ⟨o, H4, I4, ps, eo, e4⟩ => ?_
  subst eo e4
  cases pl
  cases pu
  have I5 : Inv X pins σ H4 { s4 with heap := s4.heap.push { cls := .type "slice", data := .fields #[.none, .none, vs] } } := I4.kept (t' := s4.toks) fun b ob q => Heap.get?_push_of_some _ q
  obtain ⟨its, r, ht, hz⟩ := I5.tuple hx
  have hlen := r.length
  show wpAny (model X.prog X.w) X.A (subscriptTail e (.Slice none none (some (.UnaryOp .USub (.Constant (.int 1) k p1) p2)) p3) (.ref a) (.ref s4.heap.objs.size)) (EP X pins σ Q) X.xe { s4 with heap := s4.heap.push { cls := .type "slice", data := .fields #[.none, .none, vs] } }
  refine tail_any (ops := [.ref a, .ref s4.heap.objs.size]) ht.typeIs (PyProof.Rows.slot_tuple_getitem.lookup) ?_ (by with_unfolding_all rfl)
  refine HT.getItem_tuple_rev ht (Heap.IsSliceOf.new _ .none .none vs) ps ?_ (by rw [List.size_toArray]; omega)
  refine ⟨.ref _, _, I5.laid (t' := s4.toks) (o := .tup xs.reverse) (fun b ob q => Heap.get?_push_of_some _ q) (Nat.le_refl _) ?_, rfl, q _ (I5.hok.fresh (Nat.le_refl _))⟩
  exact ⟨by rw [List.length_reverse]; exact hz, _, r.reverse, ⟨_, Heap.get?_push_size _ rfl, rfl, _, rfl⟩⟩
end Dn

set_option Elab.async false
set_option linter.all false
set_option autoImplicit false
set_option maxRecDepth 100000
set_option maxHeartbeats 2000000
namespace Dn
open PySem PySem.Spec PyProof.Rows L2

/-! ### t[::-1], l[::-1] -/
def dRev (da : DE) : DE := fun sl B => (da sl B).bind fun p => match p.1 with
  | .tuple xs => some (.tuple xs.reverse, p.2)
  | _ => none
def dRevL (da : DE) : DL := fun sl B => (da sl B).bind fun p => match p.1 with
  | .list xs => some (xs.reverse, p.2)
  | _ => none
theorem rps_snoc {K : Frg} {F : Hp} : ∀ {vs : List V} {ds : List PyData} {v : V} {d : PyData}, Rps K F vs ds → Rp K F v d → Rps K F (vs ++ [v]) (ds ++ [d])
  | _, _, _, _, .nil, h => .cons h .nil
  | _, _, _, _, .cons r t, h => .cons r (rps_snoc t h)
theorem rps_rev {K : Frg} {F : Hp} : ∀ {vs : List V} {ds : List PyData}, Rps K F vs ds → Rps K F vs.reverse ds.reverse
  | _, _, .nil => .nil
  | v :: vs, d :: ds, .cons r t => by
    rw [List.reverse_cons, List.reverse_cons]
    exact rps_snoc (rps_rev t) r
section
variable {X : Cx} {C : Fx} {a c e : Expr} {da db : DE} {p q p1 p2 p3 pos : Pos} {k : Nat}
theorem e_rev (ha : PE X a (liftO X.K C da)) : PE X (.Subscript a (.Slice none none (some (.UnaryOp .USub (.Constant (.int 1) k p1) p2)) p3) pos) (liftE X.K C (dRev da)) :=
  imp_e (fun σ H Q ⟨sl, B, F, b, rr, B', R, e, kk⟩ => by
    obtain ⟨⟨x, B1⟩, e1, e⟩ := bnd e
    split at e
    · rename_i xs hx
      cases e
      have hx' : x = .tuple xs := hx
      subst hx'
      refine ⟨sl, B, F, b, _, _, R, e1, fun v H1 F1 b1 R1 S1 q1 => ?_⟩
      obtain ⟨p, us, rfl, h1, h2⟩ := top_tup R1.fro q1
      refine ⟨p, us, rfl, h1, fun p' hp => ?_⟩
      obtain ⟨R2, S2⟩ := (Al.one hp).rel R1
      exact kk _ _ _ _ R2 (S1.trans S2) (.tup (SqT.of upd_same) (Rps.mono (Ext.new (not_in_F R1.fro hp)) (rps_rev h2)))
    · cases e) (pe_revT ha)
theorem l_rev (ha : PE X a (liftO X.K C da)) : PE X (.Subscript a (.Slice none none (some (.UnaryOp .USub (.Constant (.int 1) k p1) p2)) p3) pos) (liftL X.K C (dRevL da)) :=
  imp_e (fun σ H Q ⟨sl, B, F, b, rr, B', R, e, kk⟩ => by
    obtain ⟨⟨x, B1⟩, e1, e⟩ := bnd e
    split at e
    · rename_i xs hx
      cases e
      have hx' : x = .list xs := hx
      subst hx'
      refine ⟨sl, B, F, b, _, _, R, e1, fun v H1 F1 b1 R1 S1 q1 => ?_⟩
      obtain ⟨p, us, rfl, h1, _, h2⟩ := q1
      refine ⟨p, us, rfl, SqL.of h1, fun p' hp => ?_⟩
      have h0 : H p' = none := by
        cases z : H p' with
        | none => rfl
        | some o => exact absurd hp (S1.tr p' (by rw [z]; exact Option.some_ne_none _))
      exact kk p' us.reverse _ _ _ (R1.new hp) (S1.trans (Stp.new hp)) h0 (not_in_F R1.fro hp) (R1.nbx hp) upd_same (rps_rev h2)
    · cases e) (pe_revL ha)

/-! ### tuple(range(..)), list(range(..)) -/
def rgOk (a b : Int) : Bool := decide (-(2 ^ 62) ≤ a ∧ a < 2 ^ 62 ∧ -(2 ^ 62) ≤ b ∧ b < 2 ^ 62 ∧ (b - a).toNat ≤ 2 ^ 24)
def dRg1 (da : DE) : Sl → Bx → Option ((Int × Int) × Bx) := fun sl B => (da sl B).bind fun p => match p.1 with
  | .int n => if rgOk 0 n = true then some ((0, n), p.2) else none
  | _ => none
def dRg2 (da db : DE) : Sl → Bx → Option ((Int × Int) × Bx) := fun sl B => (da sl B).bind fun p => (db sl p.2).bind fun q => match p.1, q.1 with
  | .int i, .int j => if rgOk i j = true then some ((i, j), q.2) else none
  | _, _ => none
def rgD (a b : Int) : List PyData := rngD a (b - a).toNat
def dTupRg (r : Sl → Bx → Option ((Int × Int) × Bx)) : DE := fun sl B => (r sl B).map fun p => (.tuple (rgD p.1.1 p.1.2), p.2)
def dLstRg (r : Sl → Bx → Option ((Int × Int) × Bx)) : DL := fun sl B => (r sl B).map fun p => (rgD p.1.1 p.1.2, p.2)
theorem rps_rg {K : Frg} {F : Hp} (a b : Int) : Rps K F (rgV a b) (rgD a b) := by
  unfold rgV rgD rngD
  induction List.range (b - a).toNat with
  | nil => exact .nil
  | cons x r ih => exact .cons (.int _) ih
def liftRg (K : Frg) (C : Fx) (d : Sl → Bx → Option ((Int × Int) × Bx)) : L2.St → Hp → (Int → Int → Hp → Prop) → Prop := fun σ H Q => ∃ sl B F b r B', Rel K C sl B F b σ H ∧ d sl B = some (r, B') ∧ ∀ H' F' b', Rel K C sl B' F' b' σ H' → Stp F b H F' b' H' → Q r.1 r.2 H'
theorem rg_1 (hm : X.mg "range" = none) (ha : PE X a (liftO X.K C da)) (hg : Gl X "range" := by rfl) (na : starEach [a] X.env = (false, eval a X.env) :: starEach [] X.env := by rfl) : PRg X (.Call (.Name "range" p) [a] [] pos) (liftRg X.K C (dRg1 da)) :=
  fun pins s σ H Q I ⟨sl, B, F, b, rr, B', R, e, kk⟩ => prg_1 hg hm ha na pins s σ H Q I (by
    obtain ⟨⟨x, B1⟩, e1, e⟩ := bnd e
    split at e
    · rename_i n hx
      have hx' : x = .int n := hx
      subst hx'
      split at e
      · cases e
        refine ⟨sl, B, F, b, _, _, R, e1, fun v H1 F1 b1 R1 S1 q1 => ⟨n, top_int q1, kk H1 F1 b1 R1 S1⟩⟩
      · cases e
    · cases e)
theorem rg_2 (hm : X.mg "range" = none) (ha : PE X a (liftO X.K C da)) (hb : PE X c (liftO X.K C db)) (hg : Gl X "range" := by rfl) (na : starEach [a, c] X.env = (false, eval a X.env) :: starEach [c] X.env := by rfl)
    (nb : starEach [c] X.env = (false, eval c X.env) :: starEach [] X.env := by rfl) (hp : (backTo pos (starEach [c] X.env)).any (·.1) = false := by rfl) : PRg X (.Call (.Name "range" p) [a, c] [] pos) (liftRg X.K C (dRg2 da db)) :=
  fun pins s σ H Q I ⟨sl, B, F, b, rr, B', R, e, kk⟩ => prg_2 hg hm ha hb na nb hp pins s σ H Q I (by
    obtain ⟨⟨x, B1⟩, e1, e⟩ := bnd e
    obtain ⟨⟨y, B2⟩, e2, e⟩ := bnd e
    split at e
    · rename_i i j hx hy
      have hx' : x = .int i := hx
      have hy' : y = .int j := hy
      subst hx' hy'
      split at e
      · cases e
        exact two_o R e1 e2 fun v u H' F' b' R' S' qx qy => ⟨i, j, top_int qx, top_int qy, kk H' F' b' R' S'⟩
      · cases e
    · cases e)
theorem rgOk_is {a b : Int} (h : rgOk a b = true) : RgOk a b := by
  unfold rgOk at h
  rw [decide_eq_true_eq] at h
  exact h
def DRgOk (d : Sl → Bx → Option ((Int × Int) × Bx)) : Prop := ∀ sl B r B', d sl B = some (r, B') → RgOk r.1 r.2
theorem ok_rg1 : DRgOk (dRg1 da) := fun sl B r B' e => by
  obtain ⟨⟨x, B1⟩, e1, e⟩ := bnd e
  split at e
  · split at e
    · rename_i h
      cases e
      exact rgOk_is h
    · cases e
  · cases e
theorem ok_rg2 : DRgOk (dRg2 da db) := fun sl B r B' e => by
  obtain ⟨⟨x, B1⟩, e1, e⟩ := bnd e
  obtain ⟨⟨y, B2⟩, e2, e⟩ := bnd e
  split at e
  · split at e
    · rename_i h
      cases e
      exact rgOk_is h
    · cases e
  · cases e
variable {r : Sl → Bx → Option ((Int × Int) × Bx)}
theorem e_tupRg (hm : X.mg "tuple" = none) (ok : DRgOk r) (he : PRg X e (liftRg X.K C r)) (hc : X.calm = true := by rfl) (hg : Gl X "tuple" := by rfl) (na : starEach [e] X.env = (false, eval e X.env) :: starEach [] X.env := by rfl) : PE X (.Call (.Name "tuple" p) [e] [] pos) (liftE X.K C (dTupRg r)) :=
  imp_e (fun σ H Q ⟨sl, B, F, b, rr, B', R, e, kk⟩ => by
    obtain ⟨⟨⟨i, j⟩, B1⟩, e1, e⟩ := mpd e
    cases e
    refine ⟨sl, B, F, b, _, _, R, e1, fun H1 F1 b1 R1 S1 => ⟨ok _ _ _ _ e1, fun p' hp => ?_⟩⟩
    obtain ⟨R2, S2⟩ := (Al.one hp).rel R1
    exact kk _ _ _ _ R2 (S1.trans S2) (.tup (SqT.of upd_same) (rps_rg i j))) (pe_tupRg hc hg hm he na)
theorem l_lstRg (hm : X.mg "list" = none) (ok : DRgOk r) (he : PRg X e (liftRg X.K C r)) (hc : X.calm = true := by rfl) (hg : Gl X "list" := by rfl) (na : starEach [e] X.env = (false, eval e X.env) :: starEach [] X.env := by rfl) : PE X (.Call (.Name "list" p) [e] [] pos) (liftL X.K C (dLstRg r)) :=
  imp_e (fun σ H Q ⟨sl, B, F, b, rr, B', R, e, kk⟩ => by
    obtain ⟨⟨⟨i, j⟩, B1⟩, e1, e⟩ := mpd e
    cases e
    refine ⟨sl, B, F, b, _, _, R, e1, fun H1 F1 b1 R1 S1 => ⟨ok _ _ _ _ e1, fun p' hp => ?_⟩⟩
    have h0 : H p' = none := by
      cases z : H p' with
      | none => rfl
      | some o => exact absurd hp (S1.tr p' (by rw [z]; exact Option.some_ne_none _))
    exact kk p' (rgV i j) _ _ _ (R1.new hp) (S1.trans (Stp.new hp)) h0 (not_in_F R1.fro hp) (R1.nbx hp) upd_same (rps_rg i j)) (pe_listRg hc hg hm he na)

/-! ### sorted(set(t)), len(set(t)): a tuple of ints -/
def rSetT (K : Frg) (w : World) : List V → Hp → VK → Prop := fun vs H Q => ∃ (a : Addr) (ns : List Int), vs = [V.ref a] ∧ SqT K H a (ns.map V.int) ∧ ns.length ≤ 1000 ∧
  ∀ (p : Addr) (c : Nat), H p = none → c ≤ ns.length → Q (.ref p) (upd H p (SetO w p (fun j => decide (j ∈ ns)) c))
theorem cr_setT {X : Cx} (hc : X.calm = true) : CallR X (.type "set") (rSetT X.K X.w) := by
  intro pins s σ H vs us Q I r h
  obtain ⟨a, ns, rfl, hs, hl, q⟩ := h
  obtain ⟨its, rv, pt, hz⟩ := I.tuple hs
  rw [Vals.ref1 r]
  have hi : PyProof.Rows.IntsAre its.toArray.toList ns := ints_of_vals rv
  refine call_set_tupI ns (I.ok.hd hc) (show s.heap.IsTuple a its.toArray from pt) hi (by unfold scanBound; omega) fun h' tk c R1 hcn k => ?_
  exact ⟨.ref _, upd H s.heap.objs.size (SetO X.w s.heap.objs.size (fun j => decide (j ∈ ns)) c), I.laid (t' := tk) k (Nat.le_refl _) (setO_new R1), rfl, q _ c (I.hok.fresh (Nat.le_refl _)) hcn⟩
/-- the distinct ones, ascending -/
def sdI (ns : List Int) : List Int := (ns.eraseDups).mergeSort fun a b => decide (a ≤ b)
theorem asc_ext : ∀ {a b : List Int}, a.Pairwise (· < ·) → b.Pairwise (· < ·) → (∀ k, k ∈ a ↔ k ∈ b) → a = b
  | [], [], _, _, _ => rfl
  | [], y :: ys, _, _, h => absurd ((h y).mpr List.mem_cons_self) List.not_mem_nil
  | x :: xs, [], _, _, h => absurd ((h x).mp List.mem_cons_self) List.not_mem_nil
  | x :: xs, y :: ys, ha, hb, h => by
    rw [List.pairwise_cons] at ha hb
    have e : x = y := by
      have h1 := (h x).mp List.mem_cons_self
      have h2 := (h y).mpr List.mem_cons_self
      rcases List.mem_cons.mp h1 with e | e
      · exact e
      · rcases List.mem_cons.mp h2 with e2 | e2
        · exact e2.symm
        · have := hb.1 x e
          have := ha.1 y e2
          omega
    subst e
    congr 1
    refine asc_ext ha.2 hb.2 fun k => ⟨fun m => ?_, fun m => ?_⟩
    · rcases List.mem_cons.mp ((h k).mp (List.mem_cons_of_mem _ m)) with e | e
      · have := ha.1 k m
        omega
      · exact e
    · rcases List.mem_cons.mp ((h k).mpr (List.mem_cons_of_mem _ m)) with e | e
      · have := hb.1 k m
        omega
      · exact e
theorem eraseDups_nodup : ∀ ns : List Int, ns.eraseDups.Nodup
  | [] => by rw [List.eraseDups_nil]; exact List.nodup_nil
  | n :: ns => by
    rw [List.eraseDups_cons, List.nodup_cons]
    refine ⟨fun h => ?_, eraseDups_nodup _⟩
    rw [List.mem_eraseDups, List.mem_filter] at h
    simp at h
termination_by ns => ns.length
decreasing_by
  have := List.length_filter_le (fun b => !b == n) ns
  simp only [List.length_cons]
  omega
theorem sdI_mem (ns : List Int) (k : Int) : k ∈ sdI ns ↔ k ∈ ns := by
  unfold sdI
  rw [(List.mergeSort_perm _ _).mem_iff, List.mem_eraseDups]
theorem sdI_asc (ns : List Int) : (sdI ns).Pairwise (· < ·) := by
  have h1 : (sdI ns).Pairwise fun a b => decide (a ≤ b) = true := List.pairwise_mergeSort (le := fun a b : Int => decide (a ≤ b)) (fun a b c h1 h2 => by
    have := of_decide_eq_true h1
    have := of_decide_eq_true h2
    exact decide_eq_true (by omega)) (fun a b => by
    rw [Bool.or_eq_true, decide_eq_true_eq, decide_eq_true_eq]; omega) _
  have h2 : (sdI ns).Nodup := (List.mergeSort_perm _ _).nodup_iff.mpr (eraseDups_nodup ns)
  have h3 := h1.and h2
  exact h3.imp fun {a b} h => by
    have := of_decide_eq_true h.1
    have := h.2
    omega
def dSrtSet (da : DE) : DL := fun sl B => (da sl B).bind fun p => match p.1 with
  | .tuple xs => (intsOf xs).bind fun ns => if ns.length < 64 then some ((sdI ns).map PyData.int, p.2) else none
  | _ => none
theorem rps_ints {K : Frg} {F : Hp} : ∀ ns : List Int, Rps K F (ns.map V.int) (ns.map PyData.int)
  | [] => .nil
  | n :: ns => .cons (.int n) (rps_ints ns)
theorem l_srtSet (hm : X.mg "sorted" = none) (hm2 : X.mg "set" = none) (ha : PE X a (liftO X.K C da)) (hc : X.calm = true := by rfl) (hg : Gl X "sorted" := by rfl) (hg2 : Gl X "set" := by rfl)
    (he : starEach [.Call (.Name "set" q) [a] [] p2] X.env = (false, eval (.Call (.Name "set" q) [a] [] p2) X.env) :: starEach [] X.env := by rfl) (hpl : (backTo pos (starEach [] X.env)).any (·.1) = false := by rfl)
    (he2 : starEach [a] X.env = (false, eval a X.env) :: starEach [] X.env := by rfl) (hpl2 : (backTo p2 (starEach [] X.env)).any (·.1) = false := by rfl) :
    PE X (.Call (.Name "sorted" p) [.Call (.Name "set" q) [a] [] p2] [] pos) (liftL X.K C (dSrtSet da)) :=
  imp_e (fun σ H Q ⟨sl, B, F, b, rr, B', R, e, kk⟩ => by
    obtain ⟨⟨x, B1⟩, e1, e⟩ := bnd e
    split at e
    · rename_i xs hx
      have hx' : x = .tuple xs := hx
      subst hx'
      obtain ⟨ns, e2, e⟩ := bnd e
      split at e
      · rename_i hn
        cases e
        have e2 := intsOf_eq e2
        subst e2
        refine ⟨sl, B, F, b, _, _, R, e1, fun v H1 F1 b1 R1 S1 q1 => ?_⟩
        obtain ⟨p', us, rfl, h1, h2⟩ := top_tup R1.fro q1
        have e3 := h2.ints
        subst e3
        refine ⟨p', ns, rfl, h1, by omega, fun t c ht hc2 => ?_⟩
        refine ⟨t, _, c, rfl, upd_same, by omega, fun ns' l h3 h4 h5 hl => ?_⟩
        have en : ns' = sdI ns := asc_ext h3 (sdI_asc ns) fun k => by rw [h4, sdI_mem, decide_eq_true_eq]
        subst en
        have R2 := R1.new (o := SetO X.w t (fun j => decide (j ∈ ns)) c) ht
        have S2 := S1.trans (Stp.new (o := SetO X.w t (fun j => decide (j ∈ ns)) c) ht)
        have h0 : H l = none := by
          cases z : H l with
          | none => rfl
          | some o => exact absurd hl (S2.tr l (by rw [z]; exact Option.some_ne_none _))
        exact kk l _ _ _ _ (R2.new hl) (S2.trans (Stp.new hl)) h0 (not_in_F R2.fro hl) (R2.nbx hl) upd_same (rps_ints _)
      · cases e
    · cases e)
    (pe_callB (cr_sortedSet hc) hg hm PyProof.Rows.boot_sorted (pa_cons (pe_callTy (cr_setT hc) hg2 hm2 PyProof.Rows.boot_set (pa_cons (hs := he2) ha pa_nil) (by decide) (by decide) he2 hpl2) pa_nil (hs := he)) (by decide) (by decide) he hpl)
end
end Dn

set_option Elab.async false
set_option linter.all false
set_option autoImplicit false
set_option maxRecDepth 100000
set_option maxHeartbeats 2000000
namespace Dn
open PySem PySem.Spec PyProof.Rows L2

/-! ### two names at once, one's own lists among the values -/
def dParLE (i j : Nat) (da : DL) (db : DE) : DS := fun sl B => (da sl B).bind fun p => (db sl p.2).map fun q => .nx ((sl.set i (some (.own p.1))).set j (some (.dat q.1))) q.2
def dParEL (i j : Nat) (da : DE) (db : DL) : DS := fun sl B => (da sl B).bind fun p => (db sl p.2).map fun q => .nx ((sl.set j (some (.own q.1))).set i (some (.dat p.1))) q.2
def dParLL (i j : Nat) (da : DL) (db : DL) : DS := fun sl B => (da sl B).bind fun p => (db sl p.2).map fun q => .nx ((sl.set i (some (.own p.1))).set j (some (.own q.1))) q.2
theorem nb_of {F F' H H' : Hp} {b b' : Bad} {a : Addr} {o : HO} (S : Stp F b H F' b' H') (h1 : H a = some o) (h2 : ¬ inb b a) : ¬ inb b' a := fun z => by
  rcases S.nb a z with y | y
  · exact h2 y
  · rw [h1] at y; cases y
section
variable {X : Cx} {C : Fx} {a c : Expr} {da : DE} {la lb : DL} {db : DE} {x y : Str} {px py pt pos : Pos} {kt k2 : Nat} {pt2 : Pos}
theorem s_parLE (i j : Nat) {x y : Str} {a c : Expr} {da : DL} {db : DE} {px py pt : Pos} {kt k2 pt2} (hc : X.calm = true) (hN : X.N.Nodup) (hij : i ≠ j) (ha : PE X a (liftL X.K C da)) (hb : PE X c (liftE X.K C db)) (hi : X.N[i]? = some x := by rfl) (hj : X.N[j]? = some y := by rfl)
    (hx : X.env.scope.names.lookup x = some .local := by rfl) (hy : X.env.scope.names.lookup y = some .local := by rfl)
    (hw : swappedStores [.Tuple [.Name x px, .Name y py] kt pt] (.Tuple [a, c] k2 pt2) X.env = pure (some [x, y]) := by rfl)
    (hs : swapsWithSole [.Tuple [.Name x px, .Name y py] kt pt] (.Tuple [a, c] k2 pt2) pos.line X.env = pure false := by rfl)
    (hs1 : starEach (a :: [c]) X.env = (false, eval a X.env) :: starEach [c] X.env := by rfl) (hs2 : starEach (c :: []) X.env = (false, eval c X.env) :: starEach [] X.env := by rfl) :
    PS X (.Assign [.Tuple [.Name x px, .Name y py] kt pt] (.Tuple [a, c] k2 pt2) pos) (liftS X.K C (dParLE i j da db)) := imp_s (fun D σ H ⟨sl, B, F, b, o, R, e, k⟩ => by
  obtain ⟨⟨u, B1⟩, e1, e⟩ := bnd e
  obtain ⟨⟨w, B2⟩, e2, e⟩ := mpd e
  cases e
  exact ⟨sl, B, F, b, _, _, R, e1, fun p vs H1 F1 b1 R1 S1 h0 h1 h2 h3 h4 => ⟨sl, B1, F1, b1, _, _, R1, e2, fun v2 H2 F2 b2 R2 S2 q2 => ⟨.ref p, v2, rfl, k F2 b2 _ H2
    ((R2.putO (i := i) (S2.pr p _ h3 h2) (Rps.mono S2.ex h4) (S2.ko p (by rw [h3]; exact Option.some_ne_none _) h1) (nb_of S2 h3 h2) (R.t0 h0) (fun m ys em => R.ownT em h0)).put (s := .dat _) q2 (fun _ z => nomatch z)) (S1.ex.trans S2.ex)⟩⟩⟩)
  (ps_par (ta := tCons (liftL X.K C da) (tCons (liftE X.K C db) tNil)) hc hN hi hj hij hx hy (pa_cons ha (pa_cons hb pa_nil hs2) hs1) hw hs)
theorem s_parEL (i j : Nat) {x y : Str} {a c : Expr} {da : DE} {db : DL} {px py pt : Pos} {kt k2 pt2} (hc : X.calm = true) (hN : X.N.Nodup) (hij : i ≠ j) (ha : PE X a (liftE X.K C da)) (hb : PE X c (liftL X.K C db)) (hi : X.N[i]? = some x := by rfl) (hj : X.N[j]? = some y := by rfl)
    (hx : X.env.scope.names.lookup x = some .local := by rfl) (hy : X.env.scope.names.lookup y = some .local := by rfl)
    (hw : swappedStores [.Tuple [.Name x px, .Name y py] kt pt] (.Tuple [a, c] k2 pt2) X.env = pure (some [x, y]) := by rfl)
    (hs : swapsWithSole [.Tuple [.Name x px, .Name y py] kt pt] (.Tuple [a, c] k2 pt2) pos.line X.env = pure false := by rfl)
    (hs1 : starEach (a :: [c]) X.env = (false, eval a X.env) :: starEach [c] X.env := by rfl) (hs2 : starEach (c :: []) X.env = (false, eval c X.env) :: starEach [] X.env := by rfl) :
    PS X (.Assign [.Tuple [.Name x px, .Name y py] kt pt] (.Tuple [a, c] k2 pt2) pos) (liftS X.K C (dParEL i j da db)) := imp_s (fun D σ H ⟨sl, B, F, b, o, R, e, k⟩ => by
  obtain ⟨⟨u, B1⟩, e1, e⟩ := bnd e
  obtain ⟨⟨w, B2⟩, e2, e⟩ := mpd e
  cases e
  exact ⟨sl, B, F, b, _, _, R, e1, fun v1 H1 F1 b1 R1 S1 q1 => ⟨sl, B1, F1, b1, _, _, R1, e2, fun p vs H2 F2 b2 R2 S2 h0 h1 h2 h3 h4 => ⟨v1, .ref p, rfl, by
    rw [List.set_comm _ _ hij]
    exact k F2 b2 _ H2 ((R2.putO (i := j) h3 h4 h1 h2 (R1.t0 h0) (fun m ys em => R1.ownT em h0)).put (i := i) (s := .dat _) (Rp.mono S2.ex q1) (fun _ z => nomatch z)) (S1.ex.trans S2.ex)⟩⟩⟩)
  (ps_par (ta := tCons (liftE X.K C da) (tCons (liftL X.K C db) tNil)) hc hN hi hj hij hx hy (pa_cons ha (pa_cons hb pa_nil hs2) hs1) hw hs)
theorem s_parLL (i j : Nat) {x y : Str} {a c : Expr} {da : DL} {db : DL} {px py pt : Pos} {kt k2 pt2} (hc : X.calm = true) (hN : X.N.Nodup) (hij : i ≠ j) (ha : PE X a (liftL X.K C da)) (hb : PE X c (liftL X.K C db)) (hi : X.N[i]? = some x := by rfl) (hj : X.N[j]? = some y := by rfl)
    (hx : X.env.scope.names.lookup x = some .local := by rfl) (hy : X.env.scope.names.lookup y = some .local := by rfl)
    (hw : swappedStores [.Tuple [.Name x px, .Name y py] kt pt] (.Tuple [a, c] k2 pt2) X.env = pure (some [x, y]) := by rfl)
    (hs : swapsWithSole [.Tuple [.Name x px, .Name y py] kt pt] (.Tuple [a, c] k2 pt2) pos.line X.env = pure false := by rfl)
    (hs1 : starEach (a :: [c]) X.env = (false, eval a X.env) :: starEach [c] X.env := by rfl) (hs2 : starEach (c :: []) X.env = (false, eval c X.env) :: starEach [] X.env := by rfl) :
    PS X (.Assign [.Tuple [.Name x px, .Name y py] kt pt] (.Tuple [a, c] k2 pt2) pos) (liftS X.K C (dParLL i j da db)) := imp_s (fun D σ H ⟨sl, B, F, b, o, R, e, k⟩ => by
  obtain ⟨⟨u, B1⟩, e1, e⟩ := bnd e
  obtain ⟨⟨w, B2⟩, e2, e⟩ := mpd e
  cases e
  exact ⟨sl, B, F, b, _, _, R, e1, fun p vs H1 F1 b1 R1 S1 g0 g1 g2 g3 g4 => ⟨sl, B1, F1, b1, _, _, R1, e2, fun p2 vs2 H2 F2 b2 R2 S2 h0 h1 h2 h3 h4 => ⟨.ref p, .ref p2, rfl,
    k F2 b2 _ H2 ((R2.putO (i := i) (S2.pr p _ g3 g2) (Rps.mono S2.ex g4) (S2.ko p (by rw [g3]; exact Option.some_ne_none _) g1) (nb_of S2 g3 g2) (R.t0 g0) (fun m ys em => R.ownT em g0)).putO (i := j) h3 h4 h1 h2 (R1.t0 h0) (fun m ys em => by
      by_cases z : i = m
      · subst z
        intro q
        by_cases hl : i < σ.length
        · rw [List.getElem?_set_self hl] at q
          cases q
          rw [g3] at h0; cases h0
        · rw [List.getElem?_eq_none (by simpa using hl)] at q; cases q
      · rw [List.getElem?_set_ne z] at em ⊢
        exact R1.ownT em h0)) (S1.ex.trans S2.ex)⟩⟩⟩)
  (ps_par (ta := tCons (liftL X.K C da) (tCons (liftL X.K C db) tNil)) hc hN hi hj hij hx hy (pa_cons ha (pa_cons hb pa_nil hs2) hs1) hw hs)
end
end Dn

set_option Elab.async false
set_option linter.all false
set_option autoImplicit false
set_option maxRecDepth 100000
set_option maxHeartbeats 2000000
namespace Dn
open PySem PySem.Spec PyProof.Rows L2

/-! ### sum(xs), a list or a tuple of ints -/
def rSumA (K : Frg) : List V → Hp → VK → Prop := fun vs H Q => ∃ (a : Addr) (ns : List Int), vs = [V.ref a] ∧ (SqL K H a (ns.map V.int) ∨ SqT K H a (ns.map V.int)) ∧ Q (.int ns.sum) H
theorem cr_sumA {X : Cx} (hc : X.calm = true) : CallR X (.builtin "sum") (rSumA X.K) := by
  intro pins s σ H vs us Q I r h
  obtain ⟨a, ns, rfl, hs, q⟩ := h
  rcases hs with hs | hs
  · exact cr_sum hc pins s σ H _ us Q I r ⟨a, ns, rfl, hs, q⟩
  · obtain ⟨its, rv, hl, _⟩ := I.tuple hs
    rw [Vals.ref1 r]
    have hi : PyProof.Rows.IntsAre its ns := ints_of_vals rv
    obtain ⟨xs, e⟩ := hi.allInts.items
    have hn : numsOf (intItems xs).toList = ns := by rw [← e]; exact hi.numsOf
    rw [nums_intItems] at hn
    have hl' : s.heap.IsTuple a (intItems xs) := by rw [← e]; exact hl
    refine PySem.W.ktm_sumG (I.ok.hd hc) hl' fun h' tk t' hk => ?_
    have es : preSum (numAt xs) xs.size = ns.sum := by
      rw [preSum_eq, List.take_of_length_le (by simp), hn]
    rw [es]
    exact ⟨.int _, H, I.kept hk, ⟨_, rfl⟩, q⟩
def pySumA : List PyData → Option PyData
  | [.list xs] => (intsOf xs).map fun ns => .int ns.sum
  | [.tuple xs] => (intsOf xs).map fun ns => .int ns.sum
  | _ => none
theorem r_sumA {X : Cx} : RCl X.K (rSumA X.K) pySumA := fun ds z e F H b vs Q fr q k => by
  unfold pySumA at e
  split at e
  · obtain ⟨ns, e1, e⟩ := mpd e
    cases e
    have e1 := intsOf_eq e1
    subst e1
    obtain ⟨v, rfl, p, us, rfl, h1, _, h2⟩ := tops1 q
    have e2 := h2.ints
    subst e2
    exact ⟨p, ns, rfl, .inl (SqL.of h1), k _ _ _ .refl (.int _)⟩
  · obtain ⟨ns, e1, e⟩ := mpd e
    cases e
    have e1 := intsOf_eq e1
    subst e1
    obtain ⟨v, rfl, h⟩ := tops1 q
    obtain ⟨p, us, rfl, h1, h2⟩ := top_tup fr h
    have e2 := h2.ints
    subst e2
    exact ⟨p, ns, rfl, .inr h1, k _ _ _ .refl (.int _)⟩
  · cases e
end Dn

set_option Elab.async false
set_option linter.all false
set_option autoImplicit false
set_option maxRecDepth 100000
set_option maxHeartbeats 2000000
namespace Dn
open PySem PySem.Spec PyProof.Rows L2

/-! ### sorted(xs), one item at most, or alike data -/
theorem swo0 : SrtO.Swo fun _ _ : Value => false := ⟨fun _ _ h => absurd h Bool.false_ne_true, fun _ _ _ _ _ => rfl⟩
def rSortA (K : Frg) : List V → Hp → VK → Prop := fun vs H Q => rSortD K vs H Q ∨ ∃ (a : Addr) (xs : List V), vs = [V.ref a] ∧ SqL K H a xs ∧ xs.length ≤ 1 ∧ ∀ p, H p = none → Q (.ref p) (upd H p (.lst xs))
theorem perm_one {α : Type} {a b : List α} (h : a.Perm b) (hl : b.length ≤ 1) : a = b := by
  cases b with
  | nil => exact h.eq_nil
  | cons x r =>
    cases r with
    | nil => exact List.perm_singleton.mp h
    | cons _ _ => simp at hl
theorem cr_sortA {X : Cx} (hu : X.A.units + 65 < cLine) : CallR X (.builtin "sorted") (rSortA X.K) := by
  intro pins s σ H vs us Q I r h
  rcases h with h | ⟨a, xs, rfl, hs, h1, q⟩
  · exact cr_sortD hu pins s σ H vs us Q I r h
  · obtain ⟨its, rv, hl, hz⟩ := I.list hs
    rw [Vals.ref1 r]
    have hlen : its.length ≤ 1 := by rw [← rv.length]; exact h1
    refine SrtO.sorted_ord swo0 hl.isList (by rw [← rv.length]; exact hz) (fun h2 => absurd h2 (by omega)) fun out _ h2 => ?_
    have e : out = its := perm_one h2.perm hlen
    subst e
    obtain ⟨ep, he'⟩ := PyProof.Rows.sortedAll_at s.heap out out.toArray
    exact ⟨.ref _, upd H (s.heap.objs.size + 1) (.lst xs), I.laid (t' := s.toks) (fun _ _ => PyProof.Rows.sortedAll_old) (Nat.le_succ _) ⟨hz, out, ep, rv, he'⟩, rfl, q _ (I.hok.fresh (Nat.le_succ _))⟩
def pySortedA : List PyData → Option (List PyData)
  | [.list xs] => if sortOk xs = true ∨ xs.length ≤ 1 then some (sortD xs) else none
  | _ => none
theorem sortD_one {xs : List PyData} (h : xs.length ≤ 1) : sortD xs = xs := perm_one (List.mergeSort_perm _ _) h
theorem r_sortA {X : Cx} : RClL X.K (rSortA X.K) pySortedA := fun ds z e F H b vs Q fr q k => by
  unfold pySortedA at e
  split at e
  · split at e
    · rename_i xs hk
      cases e
      by_cases h1 : sortOk xs = true
      · exact .inl (r_sortD _ _ (show pySorted [.list xs] = some (sortD xs) from if_pos h1) F H b vs Q fr q k)
      · have h2 : xs.length ≤ 1 := by rcases hk with z | z; exact absurd z h1; exact z
        rw [sortD_one h2] at k
        obtain ⟨v, rfl, p, us, rfl, g1, _, g2⟩ := tops1 q
        exact .inr ⟨p, us, rfl, SqL.of g1, by rw [g2.length]; exact h2, fun p' hp => k p' us hp g2⟩
    · cases e
  · cases e
end Dn

set_option Elab.async false
set_option linter.all false
set_option autoImplicit false
set_option maxRecDepth 100000
set_option maxHeartbeats 0
namespace Dn
open PySem PySem.Spec PyProof.Rows L2
theorem fn_none {P : Program} {w : World} {K : Frg} {mg : Str → Option Value} {base : Heap} {k : Nat} {f : Addr} {fd : FuncData} {ps : List Str} : FnOk P w K mg base CX0 k f fd ps (spD K (fun _ _ => none)) where
  len := fun vs H Q E h => by
    obtain ⟨_, _, _, _, _, _, _, _, _, z, _⟩ := h
    cases z
  run := fun A outer s H args us vs Q E _ _ _ _ h => by
    obtain ⟨_, _, _, _, _, _, _, _, _, z, _⟩ := h
    cases z
theorem e_gI {X : Cx} {C : Fx} {x : Str} {n : Int} {pos : Pos} (h : ∃ t, X.mg x = some (.int n t)) (hg : Gl X x := by rfl) (hd : (x == ("__debug__" : Str)) = false := by decide) : PE X (.Name x pos) (liftE X.K C (dC (.int n))) := by
  obtain ⟨t, h⟩ := h
  exact e_glob (v := .int n) h ⟨t, rfl⟩ (fun _ => .int n) hg hd
theorem u65 {k : Nat} {A : Around} (r : Room k A) : A.units + 65 < cLine := by
  have := r.un
  omega
def topS (i : Nat) : Stmt := PySem.Challenge.pw_pantrykept_k87_whole_trays_in_order.main.body.getD i (.Pass ⟨0, 0, 0, 0⟩)
structure Tx (mg : Str → Option Value) : Prop where
  g_all : mg "all" = none
  g_bool : mg "bool" = none
  g_enumerate : mg "enumerate" = none
  g_int : mg "int" = none
  g_isinstance : mg "isinstance" = none
  g_len : mg "len" = none
  g_list : mg "list" = none
  g_max : mg "max" = none
  g_min : mg "min" = none
  g_range : mg "range" = none
  g_set : mg "set" = none
  g_sorted : mg "sorted" = none
  g_str : mg "str" = none
  g_sum : mg "sum" = none
  g_tuple : mg "tuple" = none
  g_zip : mg "zip" = none
/-! ## _law_tape -/
abbrev s_law_tape : Stmt := topS 14
abbrev N_law_tape : List Str := ["script"]
theorem sc_law_tape : FnScope N_law_tape ["script"] (defScope s_law_tape) := ⟨rfl, rfl, rfl, by decide +kernel, rfl, by decide +kernel, by decide +kernel⟩
noncomputable def b_law_tape : DS := (dRetV (dNewB 0 80 (dCons (dC (.int 0)) (dCons (dC (.int 0)) (dCons (dOp pyAdd (dC (.int 1)) (dLenS 0)) dNil)))))
noncomputable def d_law_tape : FD := dFun 1 0 b_law_tape
theorem ok_law_tape {P : Program} {w : World} {K : Frg} {mg : Str → Option Value} {base : Heap} {f : Addr} {fd : FuncData} (T : Tx mg) (F : Fun K "_law_tape" "_law_tape" s_law_tape f fd)  : FnOk P w K mg base CX0 1 f fd ["script"] (spD K d_law_tape) :=
  def_ok F sc_law_tape rfl rfl fun cdv A outer s H E C hr => by
    have nd := sc_law_tape.nd
    exact (ss_one (s_retV (v_newB 0 80 (pe_lst (pa_cons (pe_callTy call_list_of (by rfl) T.g_list PyProof.Rows.boot_list (pa_cons (pe_slice sl_list (pv 0) po_none (po_some pe_int)) pa_nil)) (by exact (d_cons e_int (d_cons e_int (d_cons (e_op op_addA r_add (o_of e_int) (o_of (e_lenS 0 T.g_len))) d_nil)))))))))
/-! ## filled_trays -/
abbrev s_filled_trays : Stmt := topS 8
abbrev N_filled_trays : List Str := ["w", "widths", "found", "left", "i", "width"]
theorem sc_filled_trays : FnScope N_filled_trays ["w", "widths"] (defScope s_filled_trays) := ⟨rfl, rfl, rfl, by decide +kernel, rfl, by decide +kernel, by decide +kernel⟩
noncomputable def filled_trays_L1 : DS := (dSeq (dIfS (dOrT (dTst pyGt (dVarO 5) (dVarO 3)) (dNotT (dTru (dVarO 2)))) (dSeq (dApp 2 (dVar 4))
  (dAsg 3 (dVar 0))) dNext)
  (dAug (fun i j => i - j) 3 (dVar 5)))
noncomputable def b_filled_trays : DS := (dSeq (dParLE 2 3 (dLst dNil) (dC (.int 0)))
  (dSeq (dFor (dEnum (dVar 1)) (gT (gCons' (gN 4) (gCons' (gN 5) gNil'))) filled_trays_L1)
  (dRet (dCl pyTuple (dCons (dVarO 2) dNil)))))
noncomputable def d_filled_trays : FD := dFun 2 4 b_filled_trays
theorem ok_filled_trays {P : Program} {w : World} {K : Frg} {mg : Str → Option Value} {base : Heap} {f : Addr} {fd : FuncData} (T : Tx mg) (F : Fun K "filled_trays" "filled_trays" s_filled_trays f fd)  : FnOk P w K mg base CX0 1 f fd ["w", "widths"] (spD K d_filled_trays) :=
  def_ok F sc_filled_trays rfl rfl fun cdv A outer s H E C hr => by
    have nd := sc_filled_trays.nd
    exact (ss_cons (s_parLE 2 3 rfl nd (by decide) (by exact (l_lst (by exact d_nil))) (by exact e_int))
  (ss_cons (s_for PassesOwn.never rfl (by exact (i_enum T.g_enumerate (e_var 1))) (by exact (g_tup rfl (gs_cons (g_name 4 nd) (gs_cons (g_name 5 nd) gs_nil)) (glen_cons (glen_cons glen_nil)))) (ss_cons (s_if (by exact ((w_or (t_cmp op_gt r_gt (nomark _) (o_var 5) (o_var 3)) (w_or1 (t_not (t_tru (o_var 2))))).pt)) (ss_cons (s_app 2 (pe_bm PySem.F.plainAttrs_list PySem.F.slot_list_append PySem.F.type_list_append mt_append (pv 2) (pa_cons (e_var 4) pa_nil)))
  (ss_one (s_set 3 nd (by exact (e_var 0))))) ss_nil)
  (ss_one (s_aug 3 ip_sub nd (by exact (e_var 5))))))
  (ss_one (s_ret (by exact (e_clT call_tuple_of r_tuple T.g_tuple PyProof.Rows.boot_tuple (by exact (q_cons (o_var 2) q_nil))))))))
/-! ## fewest_trays -/
abbrev s_fewest_trays : Stmt := topS 9
abbrev N_fewest_trays : List Str := ["w", "widths", "laying"]
theorem sc_fewest_trays : FnScope N_fewest_trays ["w", "widths"] (defScope s_fewest_trays) := ⟨rfl, rfl, rfl, by decide +kernel, rfl, by decide +kernel, by decide +kernel⟩
noncomputable def b_fewest_trays : DS := (dSeq (dAsg 2 (dFn (d_filled_trays) (dConsA (dVarV 0) (dConsA (dVarV 1) dNilA))))
  (dRet (dTup (dCons (dVar 2) (dCons (dVar 2) dNil)))))
noncomputable def d_fewest_trays : FD := dFun 2 1 b_fewest_trays
theorem ok_fewest_trays {P : Program} {w : World} {K : Frg} {mg : Str → Option Value} {base : Heap} {f : Addr} {fd : FuncData} (T : Tx mg) (F : Fun K "fewest_trays" "fewest_trays" s_fewest_trays f fd) (D_filled_trays : Def P w K mg base 1 "filled_trays" (d_filled_trays)) : FnOk P w K mg base CX0 2 f fd ["w", "widths"] (spD K d_fewest_trays) :=
  def_ok F sc_fewest_trays rfl rfl fun cdv A outer s H E C hr => by
    have nd := sc_fewest_trays.nd
    exact (ss_cons (s_set 2 nd (by exact (e_fn D_filled_trays (hr.mono (by decide)) (by exact (a_cons (v_var 0) (a_cons (v_var 1) a_nil))))))
  (ss_one (s_ret (by exact (e_tup (by exact (d_cons (e_var 2) (d_cons (e_var 2) d_nil))))))))
/-! ## narrowest -/
abbrev s_narrowest : Stmt := topS 10
abbrev N_narrowest : List Str := ["widths", "many", "v"]
theorem sc_narrowest : FnScope N_narrowest ["widths", "many"] (defScope s_narrowest) := ⟨rfl, rfl, rfl, by decide +kernel, rfl, by decide +kernel, by decide +kernel⟩
noncomputable def narrowest_W1 : DS := (dAug (fun i j => i + j) 2 (dC (.int 1)))
noncomputable def b_narrowest : DS := (dSeq (dAsg 2 (dCl pyMax1 (dCons (dVarO 0) dNil)))
  (dSeq (dWhile (dTst pyGt (dCl pyLen (dCons (dFn (d_filled_trays) (dConsA (dVarV 2) (dConsA (dVarV 0) dNilA))) dNil)) (dVarO 1)) narrowest_W1)
  (dRet (dVar 2))))
noncomputable def d_narrowest : FD := dFun 2 1 b_narrowest
theorem ok_narrowest {P : Program} {w : World} {K : Frg} {mg : Str → Option Value} {base : Heap} {f : Addr} {fd : FuncData} (T : Tx mg) (F : Fun K "narrowest" "narrowest" s_narrowest f fd) (D_filled_trays : Def P w K mg base 1 "filled_trays" (d_filled_trays)) : FnOk P w K mg base CX0 2 f fd ["widths", "many"] (spD K d_narrowest) :=
  def_ok F sc_narrowest rfl rfl fun cdv A outer s H E C hr => by
    have nd := sc_narrowest.nd
    exact (ss_cons (s_set 2 nd (by exact (e_clB (cr_max1 rfl (u65 hr)) r_m1 T.g_max (by decide +kernel) (by exact (q_cons (o_var 0) q_nil)))))
  (ss_cons (s_while PassesOwn.never (by exact (t_cmp op_gt r_gt (nomark _) (o_of (e_clB call_len r_len T.g_len PySem.boot_len (by exact (q_cons (o_of (e_fn D_filled_trays (hr.mono (by decide)) (by exact (a_cons (v_var 2) (a_cons (v_var 0) a_nil))))) q_nil)))) (o_var 1))) (ss_one (s_aug 2 ip_add nd (by exact e_int))))
  (ss_one (s_ret (by exact (e_var 2))))))
/-! ## even_trays -/
abbrev s_even_trays : Stmt := topS 11
abbrev N_even_trays : List Str := ["w", "widths", "many", "v", "found", "i", "left", "fits"]
theorem sc_even_trays : FnScope N_even_trays ["w", "widths", "many"] (defScope s_even_trays) := ⟨rfl, rfl, rfl, by decide +kernel, rfl, by decide +kernel, by decide +kernel⟩
noncomputable def even_trays_L1 : DS := (dSeq (dAsg 6 (dOp pySub (dVarO 2) (dCl pyLen (dCons (dVarO 4) dNil))))
  (dSeq (dAsg 7 (dAndV (dOpB pyLe (dCl pySumA (dCons (dSl pySl (dVarO 1) (dPart (dOp pyIx (dVarO 4) (dNeg (dC (.int 1))))) (dPart (dVar 5))) dNil)) (dVarO 3)) (dOpB pyLe (dCl pyLen (dCons (dFn (d_filled_trays) (dConsA (dVarV 3) (dConsA (dV (dSl pySl (dVarO 1) (dPart (dVar 5)) dNoP)) dNilA))) dNil)) (dVarO 6))))
  (dIfS (dAndT (dTru (dVarO 7)) (dTst pyGe (dOp pySub (dCl pyLen (dCons (dVarO 1) dNil)) (dVarO 5)) (dVarO 6))) (dSeq (dApp 4 (dVar 5))
  dBreak) dNext)))
noncomputable def even_trays_W2 : DS := (dFor (dRng2 (dOp pyAdd (dOp pyIx (dVarO 4) (dNeg (dC (.int 1)))) (dC (.int 1))) (dCl pyLen (dCons (dVarO 1) dNil))) (gN 5) even_trays_L1)
noncomputable def b_even_trays : DS := (dSeq (dIfS (dTst pyEq (dVarO 1) (dTup dNil)) (dRet (dTup dNil)) dNext)
  (dSeq (dAsg 3 (dFn (d_narrowest) (dConsA (dVarV 1) (dConsA (dVarV 2) dNilA))))
  (dSeq (dAsgO 4 (dLst (dCons (dC (.int 0)) dNil)))
  (dSeq (dWhile (dTst pyLt (dCl pyLen (dCons (dVarO 4) dNil)) (dVarO 2)) even_trays_W2)
  (dRet (dCl pyTuple (dCons (dVarO 4) dNil)))))))
noncomputable def d_even_trays : FD := dFun 3 5 b_even_trays
theorem ok_even_trays {P : Program} {w : World} {K : Frg} {mg : Str → Option Value} {base : Heap} {f : Addr} {fd : FuncData} (T : Tx mg) (F : Fun K "even_trays" "even_trays" s_even_trays f fd) (D_narrowest : Def P w K mg base 2 "narrowest" (d_narrowest)) (D_filled_trays : Def P w K mg base 1 "filled_trays" (d_filled_trays)) : FnOk P w K mg base CX0 3 f fd ["w", "widths", "many"] (spD K d_even_trays) :=
  def_ok F sc_even_trays rfl rfl fun cdv A outer s H E C hr => by
    have nd := sc_even_trays.nd
    exact (ss_cons (s_if (by exact (t_cmp (op_eqD hr.units) r_eq (nomark _) (o_var 1) (o_of (e_tup (by exact d_nil))))) (ss_one (s_ret (by exact (e_tup (by exact d_nil))))) ss_nil)
  (ss_cons (s_set 3 nd (by exact (e_fn D_narrowest (hr.mono (by decide)) (by exact (a_cons (v_var 1) (a_cons (v_var 2) a_nil))))))
  (ss_cons (s_setO 4 nd (by exact (l_lst (by exact (d_cons e_int d_nil)))))
  (ss_cons (s_while PassesOwn.never (by exact (t_cmp op_lt r_lt (nomark _) (o_of (e_clB call_len r_len T.g_len PySem.boot_len (by exact (q_cons (o_var 4) q_nil)))) (o_var 2))) (ss_one (s_for PassesOwn.never rfl (by exact (i_rng2 T.g_range (o_of (e_op op_addA r_add (o_of (e_ix (o_var 4) (o_of (e_neg e_int)))) (o_of e_int))) (o_of (e_clB call_len r_len T.g_len PySem.boot_len (by exact (q_cons (o_var 1) q_nil)))))) (by exact (g_name 5 nd)) (ss_cons (s_set 6 nd (by exact (e_op op_sub r_sub (o_var 2) (o_of (e_clB call_len r_len T.g_len PySem.boot_len (by exact (q_cons (o_var 4) q_nil)))))))
  (ss_cons (s_set 7 nd (by exact (e_and (by exact (e_cmp op_le r_le (nomark _) (o_of (e_clB (cr_sumA rfl) r_sumA T.g_sum (by decide +kernel) (by exact (q_cons (o_of (e_sl (o_var 1) (p_some (e_ix (o_var 4) (o_of (e_neg e_int)))) (p_some (e_var 5)))) q_nil)))) (o_var 3))) (by exact (e_one (by exact (e_cmp op_le r_le (nomark _) (o_of (e_clB call_len r_len T.g_len PySem.boot_len (by exact (q_cons (o_of (e_fn D_filled_trays (hr.mono (by decide)) (by exact (a_cons (v_var 3) (a_cons (v_of (e_sl (o_var 1) (p_some (e_var 5)) p_none)) a_nil))))) q_nil)))) (o_var 6))))))))
  (ss_one (s_if (by exact ((w_and (t_tru (o_var 7)) (w_and1 (t_cmp op_ge r_ge (nomark _) (o_of (e_op op_sub r_sub (o_of (e_clB call_len r_len T.g_len PySem.boot_len (by exact (q_cons (o_var 1) q_nil)))) (o_var 5))) (o_var 6)))).pt)) (ss_cons (s_app 4 (pe_bm PySem.F.plainAttrs_list PySem.F.slot_list_append PySem.F.type_list_append mt_append (pv 4) (pa_cons (e_var 5) pa_nil)))
  (ss_one s_break)) ss_nil)))))))
  (ss_one (s_ret (by exact (e_clT call_tuple_of r_tuple T.g_tuple PyProof.Rows.boot_tuple (by exact (q_cons (o_var 4) q_nil))))))))))
/-! ## _law_widest -/
abbrev s_law_widest : Stmt := topS 20
abbrev N_law_widest : List Str := ["widths", "laying", "ends_here", "a", "b"]
theorem sc_law_widest : FnScope N_law_widest ["widths", "laying"] (defScope s_law_widest) := ⟨rfl, rfl, rfl, by decide +kernel, rfl, by decide +kernel, by decide +kernel⟩
noncomputable def b_law_widest : DS := (dSeq (dAsg 2 (dOp pyAdd (dF (dClL pyList (dCons (dSl pySl (dVarO 1) (dPart (dC (.int 1))) dNoP) dNil))) (dF (dLst (dCons (dCl pyLen (dCons (dVarO 0) dNil)) dNil)))))
  (dRet (dCl pyMax1 (dCons (dOp pyAdd (dF (dCmp (dZip (dVarO 1) (dVarO 2)) (gT (gCons' (gN 3) (gCons' (gN 4) gNil'))) dYes (dCl pySumA (dCons (dSl pySl (dVarO 0) (dPart (dVar 3)) (dPart (dVar 4))) dNil)) [3, 4])) (dF (dLst (dCons (dC (.int 0)) dNil)))) dNil))))
noncomputable def d_law_widest : FD := dFun 2 3 b_law_widest
theorem ok_law_widest {P : Program} {w : World} {K : Frg} {mg : Str → Option Value} {base : Heap} {f : Addr} {fd : FuncData} (T : Tx mg) (F : Fun K "_law_widest" "_law_widest" s_law_widest f fd)  : FnOk P w K mg base CX0 1 f fd ["widths", "laying"] (spD K d_law_widest) :=
  def_ok F sc_law_widest rfl rfl fun cdv A outer s H E C hr => by
    have nd := sc_law_widest.nd
    exact (ss_cons (s_set 2 nd (by exact (e_op op_addA r_add (o_of (f_of (l_clT call_list_of r_list T.g_list PyProof.Rows.boot_list (by exact (q_cons (o_of (e_sl (o_var 1) (p_some e_int) p_none)) q_nil))))) (o_of (f_of (l_lst (by exact (d_cons (e_clB call_len r_len T.g_len PySem.boot_len (by exact (q_cons (o_var 0) q_nil))) d_nil))))))))
  (ss_one (s_ret (by exact (e_clB (cr_max1 rfl (u65 hr)) r_m1 T.g_max (by decide +kernel) (by exact (q_cons (o_of (e_op op_addA r_add (o_of (f_of (l_lc rfl nd (by exact (i_zipo T.g_zip (o_var 1) (o_var 2))) (blkOk_by (own := [("a", 3), ("b", 4)]) (N := N_law_widest) (sc := defScope s_law_widest) (by decide +kernel)) (fun _ _ _ _ _ => (by exact (g_tup rfl (gs_cons (g_name 3 nd) (gs_cons (g_name 4 nd) gs_nil)) (glen_cons (glen_cons glen_nil))))) (fun _ _ _ _ _ => (by exact ts_nil)) (fun _ _ _ _ _ => (by exact (e_clB (cr_sumA rfl) r_sumA T.g_sum (by decide +kernel) (by exact (q_cons (o_of (e_sl (o_var 0) (p_some (e_var 3)) (p_some (e_var 4)))) q_nil)))))))) (o_of (f_of (l_lst (by exact (d_cons e_int d_nil))))))) q_nil)))))))
/-! ## _law_filled -/
abbrev s_law_filled : Stmt := topS 23
abbrev N_law_filled : List Str := ["w", "widths", "found", "left", "i"]
theorem sc_law_filled : FnScope N_law_filled ["w", "widths"] (defScope s_law_filled) := ⟨rfl, rfl, rfl, by decide +kernel, rfl, by decide +kernel, by decide +kernel⟩
noncomputable def law_filled_L1 : DS := (dSeq (dIfS (dOrT (dTst pyEq (dVarO 2) (dF (dLst dNil))) (dTst pyGt (dOp pyIx (dVarO 1) (dVarO 4)) (dVarO 3))) (dSeq (dApp 2 (dVar 4))
  (dAsg 3 (dVar 0))) dNext)
  (dAsg 3 (dOp pySub (dVarO 3) (dOp pyIx (dVarO 1) (dVarO 4)))))
noncomputable def b_law_filled : DS := (dSeq (dParLE 2 3 (dLst dNil) (dC (.int 0)))
  (dSeq (dFor (dRng1 (dCl pyLen (dCons (dVarO 1) dNil))) (gN 4) law_filled_L1)
  (dRet (dCl pyTuple (dCons (dVarO 2) dNil)))))
noncomputable def d_law_filled : FD := dFun 2 3 b_law_filled
theorem ok_law_filled {P : Program} {w : World} {K : Frg} {mg : Str → Option Value} {base : Heap} {f : Addr} {fd : FuncData} (T : Tx mg) (F : Fun K "_law_filled" "_law_filled" s_law_filled f fd)  : FnOk P w K mg base CX0 1 f fd ["w", "widths"] (spD K d_law_filled) :=
  def_ok F sc_law_filled rfl rfl fun cdv A outer s H E C hr => by
    have nd := sc_law_filled.nd
    exact (ss_cons (s_parLE 2 3 rfl nd (by decide) (by exact (l_lst (by exact d_nil))) (by exact e_int))
  (ss_cons (s_for PassesOwn.never rfl (by exact (i_rng1 T.g_range (o_of (e_clB call_len r_len T.g_len PySem.boot_len (by exact (q_cons (o_var 1) q_nil)))))) (by exact (g_name 4 nd)) (ss_cons (s_if (by exact ((w_or (t_cmp (op_eqD hr.units) r_eq (nomark _) (o_var 2) (o_of (f_of (l_lst (by exact d_nil))))) (w_or1 (t_cmp op_gt r_gt (nomark _) (o_of (e_ix (o_var 1) (o_var 4))) (o_var 3)))).pt)) (ss_cons (s_app 2 (pe_bm PySem.F.plainAttrs_list PySem.F.slot_list_append PySem.F.type_list_append mt_append (pv 2) (pa_cons (e_var 4) pa_nil)))
  (ss_one (s_set 3 nd (by exact (e_var 0))))) ss_nil)
  (ss_one (s_set 3 nd (by exact (e_op op_sub r_sub (o_var 3) (o_of (e_ix (o_var 1) (o_var 4)))))))))
  (ss_one (s_ret (by exact (e_clT call_tuple_of r_tuple T.g_tuple PyProof.Rows.boot_tuple (by exact (q_cons (o_var 2) q_nil))))))))
/-! ## _law_mix -/
abbrev s_law_mix : Stmt := topS 13
abbrev N_law_mix : List Str := ["number"]
theorem sc_law_mix : FnScope N_law_mix ["number"] (defScope s_law_mix) := ⟨rfl, rfl, rfl, by decide +kernel, rfl, by decide +kernel, by decide +kernel⟩
noncomputable def b_law_mix : DS := (dSeq (dAsg 0 (dOp pyMod (dCl pyInt (dCons (dOp pyAdd (dOp pyMul (dVarO 0) (dC (.int 6364136223846793005))) (dC (.int 1442695040888963407))) dNil)) (dC (.int 18446744073709551616))))
  (dRet (dOp pyMod (dCl pyInt (dCons (dOp pyAdd (dOp pyDiv (dOp pyMul (dVarO 0) (dVarO 0)) (dC (.int 4294967296))) (dOp pyMul (dVarO 0) (dC (.int 69621)))) dNil)) (dC (.int 18446744073709551557)))))
noncomputable def d_law_mix : FD := dFun 1 0 b_law_mix
theorem ok_law_mix {P : Program} {w : World} {K : Frg} {mg : Str → Option Value} {base : Heap} {f : Addr} {fd : FuncData} (T : Tx mg) (F : Fun K "_law_mix" "_law_mix" s_law_mix f fd)  : FnOk P w K mg base CX0 1 f fd ["number"] (spD K d_law_mix) :=
  def_ok F sc_law_mix rfl rfl fun cdv A outer s H E C hr => by
    have nd := sc_law_mix.nd
    exact (ss_cons (s_set 0 nd (by exact (e_op op_mod r_mod (o_of (e_clT call_int1 r_int T.g_int PyProof.Rows.boot_int (by exact (q_cons (o_of (e_op op_addA r_add (o_of (e_op op_mulA r_mul (o_var 0) (o_of e_int))) (o_of e_int))) q_nil)))) (o_of e_int))))
  (ss_one (s_ret (by exact (e_op op_mod r_mod (o_of (e_clT call_int1 r_int T.g_int PyProof.Rows.boot_int (by exact (q_cons (o_of (e_op op_addA r_add (o_of (e_op op_fdivW r_div (o_of (e_op op_mulA r_mul (o_var 0) (o_var 0))) (o_of e_int))) (o_of (e_op op_mulA r_mul (o_var 0) (o_of e_int))))) q_nil)))) (o_of e_int))))))
/-! ## _law_take -/
abbrev s_law_take : Stmt := topS 15
abbrev N_law_take : List Str := ["tape", "many", "cell", "digit"]
theorem sc_law_take : FnScope N_law_take ["tape", "many"] (defScope s_law_take) := ⟨rfl, rfl, rfl, by decide +kernel, rfl, by decide +kernel, by decide +kernel⟩
noncomputable def b_law_take : DS := (dSeq (dIfS (dTst pyLt (dBget 0 2) (dVarO 1)) (dIfS (dTst pyLt (dBget 0 1) (dLenC (dBcells 0))) (dSeq (dAsg 2 (dGetC (dBcells 0) (dBget 0 1)))
  (dSeq (dAsg 2 (dIf (dTst pyGe (dVarO 2) (dC (.int 0))) (dOp pyMul (dC (.int 2)) (dVarO 2)) (dOp pySub (dOp pyMul (dNeg (dC (.int 2))) (dVarO 2)) (dC (.int 1)))))
  (dSeq (dBset 0 1 (dOp pyAdd (dBget 0 1) (dC (.int 1))))
  (dSeq (dBset 0 3 (dFn (d_law_mix) (dConsA (dV (dOp pyAdd (dBget 0 3) (dVarO 2))) dNilA)))
  (dBset 0 2 (dIf (dTst pyGe (dVarO 2) (dOp pyPow (dC (.int 10)) (dC (.int 18)))) (dVar 2) (dFn (d_law_mix) (dConsA (dV (dOp pyAdd (dFn (d_law_mix) (dConsA (dVarV 2) dNilA)) (dBget 0 1))) dNilA)))))))) (dSeq (dBset 0 3 (dFn (d_law_mix) (dConsA (dV (dOp pyAdd (dBget 0 3) (dC (.int 1)))) dNilA)))
  (dBset 0 2 (dBget 0 3)))) dNext)
  (dSeq (dAsg 3 (dOp pyMod (dCl pyInt (dCons (dBget 0 2) dNil)) (dVarO 1)))
  (dSeq (dBset 0 2 (dOp pyDiv (dBget 0 2) (dVarO 1)))
  (dRet (dVar 3)))))
noncomputable def d_law_take : FD := dFun 2 2 b_law_take
theorem ok_law_take {P : Program} {w : World} {K : Frg} {mg : Str → Option Value} {base : Heap} {f : Addr} {fd : FuncData} (T : Tx mg) (F : Fun K "_law_take" "_law_take" s_law_take f fd) (D_law_mix : Def P w K mg base 1 "_law_mix" (d_law_mix)) : FnOk P w K mg base CX0 2 f fd ["tape", "many"] (spD K d_law_take) :=
  def_ok F sc_law_take rfl rfl fun cdv A outer s H E C hr => by
    have nd := sc_law_take.nd
    exact (ss_cons (s_if (by exact (t_cmp op_lt r_lt (nomark _) (o_of (e_bget 0 2)) (o_var 1))) (ss_one (s_if (by exact (t_cmp op_lt r_lt (nomark _) (o_of (e_bget 0 1)) (o_of (e_lenC T.g_len (v_cells 0))))) (ss_cons (s_set 2 nd (by exact (e_getC (v_cells 0) (e_bget 0 1))))
  (ss_cons (s_set 2 nd (by exact (e_if (t_cmp op_ge r_ge (nomark _) (o_var 2) (o_of e_int)) (e_op op_mulA r_mul (o_of e_int) (o_var 2)) (e_op op_sub r_sub (o_of (e_op op_mulA r_mul (o_of (e_neg e_int)) (o_var 2))) (o_of e_int)))))
  (ss_cons (s_bset 0 1 (by exact (e_op op_addA r_add (o_of (e_bget 0 1)) (o_of e_int))))
  (ss_cons (s_bset 0 3 (by exact (e_fn D_law_mix (hr.mono (by decide)) (by exact (a_cons (v_of (e_op op_addA r_add (o_of (e_bget 0 3)) (o_var 2))) a_nil)))))
  (ss_one (s_bset 0 2 (by exact (e_if (t_cmp op_ge r_ge (nomark _) (o_var 2) (o_of (e_op op_pow r_pow (o_of e_int) (o_of e_int)))) (e_var 2) (e_fn D_law_mix (hr.mono (by decide)) (by exact (a_cons (v_of (e_op op_addA r_add (o_of (e_fn D_law_mix (hr.mono (by decide)) (by exact (a_cons (v_var 2) a_nil)))) (o_of (e_bget 0 1)))) a_nil))))))))))) (ss_cons (s_bset 0 3 (by exact (e_fn D_law_mix (hr.mono (by decide)) (by exact (a_cons (v_of (e_op op_addA r_add (o_of (e_bget 0 3)) (o_of e_int))) a_nil)))))
  (ss_one (s_bset 0 2 (by exact (e_bget 0 3))))))) ss_nil)
  (ss_cons (s_set 3 nd (by exact (e_op op_mod r_mod (o_of (e_clT call_int1 r_int T.g_int PyProof.Rows.boot_int (by exact (q_cons (o_of (e_bget 0 2)) q_nil)))) (o_var 1))))
  (ss_cons (s_bset 0 2 (by exact (e_op op_fdivW r_div (o_of (e_bget 0 2)) (o_var 1))))
  (ss_one (s_ret (by exact (e_var 3)))))))
/-! ## _law_whole -/
abbrev s_law_whole : Stmt := topS 17
abbrev N_law_whole : List Str := ["value", "low", "high"]
theorem sc_law_whole : FnScope N_law_whole ["value", "low", "high"] (defScope s_law_whole) := ⟨rfl, rfl, rfl, by decide +kernel, rfl, by decide +kernel, by decide +kernel⟩
noncomputable def b_law_whole : DS := (dRet (dAndV (dIsi "int" (dVarO 0)) (dAndV (dNotV (dIsi "bool" (dVarO 0))) (dChnB pyLe pyLe (dVarO 1) (dVarO 0) (dVarO 2)))))
noncomputable def d_law_whole : FD := dFun 3 0 b_law_whole
theorem ok_law_whole {P : Program} {w : World} {K : Frg} {mg : Str → Option Value} {base : Heap} {f : Addr} {fd : FuncData} (T : Tx mg) (F : Fun K "_law_whole" "_law_whole" s_law_whole f fd)  : FnOk P w K mg base CX0 1 f fd ["value", "low", "high"] (spD K d_law_whole) :=
  def_ok F sc_law_whole rfl rfl fun cdv A outer s H E C hr => by
    have nd := sc_law_whole.nd
    exact (ss_one (s_ret (by exact (e_and (by exact (e_isi (t := "int") (by decide) T.g_isinstance T.g_int PyProof.Rows.boot_int (o_var 0))) (by exact (e_and (by exact (e_not (e_isi (t := "bool") (by decide) T.g_isinstance T.g_bool PyProof.Rows.boot_bool (o_var 0)))) (by exact (e_one (by exact (e_chn op_le r_le op_le r_le (o_var 1) (o_var 0) (o_var 2)))))))))))
/-! ## _law_is_row -/
abbrev s_law_is_row : Stmt := topS 19
abbrev N_law_is_row : List Str := ["many", "value", "i"]
theorem sc_law_is_row : FnScope N_law_is_row ["many", "value"] (defScope s_law_is_row) := ⟨rfl, rfl, rfl, by decide +kernel, rfl, by decide +kernel, by decide +kernel⟩
noncomputable def b_law_is_row : DS := (dRet (dAndV (dIsi "tuple" (dVarO 1)) (dAndV (dCl pyAll (dCons (dF (dCmp (dSeq' (dVarO 1)) (gN 2) dYes (dFn (d_law_whole) (dConsA (dVarV 2) (dConsA (dV (dC (.int 0))) (dConsA (dV (dOp pySub (dVarO 0) (dC (.int 1)))) dNilA)))) [2])) dNil)) (dOpB pyEq (dF (dClL pyList (dCons (dVarO 1) dNil))) (dF (dSrtSet (dVarO 1)))))))
noncomputable def d_law_is_row : FD := dFun 2 1 b_law_is_row
theorem ok_law_is_row {P : Program} {w : World} {K : Frg} {mg : Str → Option Value} {base : Heap} {f : Addr} {fd : FuncData} (T : Tx mg) (F : Fun K "_law_is_row" "_law_is_row" s_law_is_row f fd) (D_law_whole : Def P w K mg base 1 "_law_whole" (d_law_whole)) : FnOk P w K mg base CX0 2 f fd ["many", "value"] (spD K d_law_is_row) :=
  def_ok F sc_law_is_row rfl rfl fun cdv A outer s H E C hr => by
    have nd := sc_law_is_row.nd
    exact (ss_one (s_ret (by exact (e_and (by exact (e_isi (t := "tuple") (by decide) T.g_isinstance T.g_tuple PyProof.Rows.boot_tuple (o_var 1))) (by exact (e_and (by exact (e_clB (cr_all rfl) r_all T.g_all (by decide +kernel) (by exact (q_cons (o_of (f_of (l_lc rfl nd (by exact (i_seqo (o_var 1))) (blkOk_by (own := [("i", 2)]) (N := N_law_is_row) (sc := defScope s_law_is_row) (by decide +kernel)) (fun _ _ _ _ _ => (by exact (g_name 2 nd))) (fun _ _ _ _ _ => (by exact ts_nil)) (fun _ _ _ _ _ => (by exact (e_fn D_law_whole (hr.mono (by decide)) (by exact (a_cons (v_var 2) (a_cons (v_of e_int) (a_cons (v_of (e_op op_sub r_sub (o_var 0) (o_of e_int))) a_nil)))))))))) q_nil)))) (by exact (e_one (by exact (e_cmp (op_eqD hr.units) r_eq (nomark _) (o_of (f_of (l_clT call_list_of r_list T.g_list PyProof.Rows.boot_list (by exact (q_cons (o_var 1) q_nil))))) (o_of (f_of (l_srtSet T.g_sorted T.g_set (o_var 1))))))))))))))
/-! ## _law_is_laying -/
abbrev s_law_is_laying : Stmt := topS 21
abbrev N_law_is_laying : List Str := ["w", "widths", "value"]
theorem sc_law_is_laying : FnScope N_law_is_laying ["w", "widths", "value"] (defScope s_law_is_laying) := ⟨rfl, rfl, rfl, by decide +kernel, rfl, by decide +kernel, by decide +kernel⟩
noncomputable def b_law_is_laying : DS := (dSeq (dIfS (dOrT (dNotT (dTru (dFn (d_law_is_row) (dConsA (dV (dCl pyLen (dCons (dVarO 1) dNil))) (dConsA (dVarV 2) dNilA))))) (dTst pyNe (dOpB pyEq (dVarO 2) (dTup dNil)) (dOpB pyEq (dVarO 1) (dTup dNil)))) (dRet (dC (.bool false))) dNext)
  (dRet (dOrV (dOpB pyEq (dVarO 2) (dTup dNil)) (dAndV (dOpB pyEq (dOp pyIx (dVarO 2) (dC (.int 0))) (dC (.int 0))) (dOpB pyLe (dFn (d_law_widest) (dConsA (dVarV 1) (dConsA (dVarV 2) dNilA))) (dVarO 0))))))
noncomputable def d_law_is_laying : FD := dFun 3 0 b_law_is_laying
theorem ok_law_is_laying {P : Program} {w : World} {K : Frg} {mg : Str → Option Value} {base : Heap} {f : Addr} {fd : FuncData} (T : Tx mg) (F : Fun K "_law_is_laying" "_law_is_laying" s_law_is_laying f fd) (D_law_is_row : Def P w K mg base 2 "_law_is_row" (d_law_is_row)) (D_law_widest : Def P w K mg base 1 "_law_widest" (d_law_widest)) : FnOk P w K mg base CX0 3 f fd ["w", "widths", "value"] (spD K d_law_is_laying) :=
  def_ok F sc_law_is_laying rfl rfl fun cdv A outer s H E C hr => by
    have nd := sc_law_is_laying.nd
    exact (ss_cons (s_if (by exact ((w_or (t_not (t_tru (o_of (e_fn D_law_is_row (hr.mono (by decide)) (by exact (a_cons (v_of (e_clB call_len r_len T.g_len PySem.boot_len (by exact (q_cons (o_var 1) q_nil)))) (a_cons (v_var 2) a_nil))))))) (w_or1 (t_cmp (op_neD hr.units) r_ne (nomark _) (o_of (e_cmp (op_eqD hr.units) r_eq (nomark _) (o_var 2) (o_of (e_tup (by exact d_nil))))) (o_of (e_cmp (op_eqD hr.units) r_eq (nomark _) (o_var 1) (o_of (e_tup (by exact d_nil)))))))).pt)) (ss_one (s_ret (by exact e_bl))) ss_nil)
  (ss_one (s_ret (by exact (e_or (by exact (e_cmp (op_eqD hr.units) r_eq (nomark _) (o_var 2) (o_of (e_tup (by exact d_nil))))) (by exact (e_one (by exact (e_and (by exact (e_cmp (op_eqD hr.units) r_eq (nomark _) (o_of (e_ix (o_var 2) (o_of e_int))) (o_of e_int))) (by exact (e_one (by exact (e_cmp op_le r_le (nomark _) (o_of (e_fn D_law_widest (hr.mono (by decide)) (by exact (a_cons (v_var 1) (a_cons (v_var 2) a_nil))))) (o_var 0))))))))))))))
/-! ## _law_are_stops -/
abbrev s_law_are_stops : Stmt := topS 22
abbrev N_law_are_stops : List Str := ["w", "widths", "value", "k"]
theorem sc_law_are_stops : FnScope N_law_are_stops ["w", "widths", "value"] (defScope s_law_are_stops) := ⟨rfl, rfl, rfl, by decide +kernel, rfl, by decide +kernel, by decide +kernel⟩
noncomputable def b_law_are_stops : DS := (dRet (dAndV (dFn (d_law_is_row) (dConsA (dV (dCl pyLen (dCons (dVarO 1) dNil))) (dConsA (dVarV 2) dNilA))) (dCl pyAll (dCons (dF (dCmp (dRng1 (dOp pySub (dCl pyLen (dCons (dVarO 2) dNil)) (dC (.int 1)))) (gN 3) dYes (dOpB pyGt (dCl pySumA (dCons (dSl pySl (dVarO 1) (dPart (dOp pyIx (dVarO 2) (dVarO 3))) (dPart (dOp pyAdd (dOp pyIx (dVarO 2) (dOp pyAdd (dVarO 3) (dC (.int 1)))) (dC (.int 1))))) dNil)) (dVarO 0)) [3])) dNil))))
noncomputable def d_law_are_stops : FD := dFun 3 1 b_law_are_stops
theorem ok_law_are_stops {P : Program} {w : World} {K : Frg} {mg : Str → Option Value} {base : Heap} {f : Addr} {fd : FuncData} (T : Tx mg) (F : Fun K "_law_are_stops" "_law_are_stops" s_law_are_stops f fd) (D_law_is_row : Def P w K mg base 2 "_law_is_row" (d_law_is_row)) : FnOk P w K mg base CX0 3 f fd ["w", "widths", "value"] (spD K d_law_are_stops) :=
  def_ok F sc_law_are_stops rfl rfl fun cdv A outer s H E C hr => by
    have nd := sc_law_are_stops.nd
    exact (ss_one (s_ret (by exact (e_and (by exact (e_fn D_law_is_row (hr.mono (by decide)) (by exact (a_cons (v_of (e_clB call_len r_len T.g_len PySem.boot_len (by exact (q_cons (o_var 1) q_nil)))) (a_cons (v_var 2) a_nil))))) (by exact (e_one (by exact (e_clB (cr_all rfl) r_all T.g_all (by decide +kernel) (by exact (q_cons (o_of (f_of (l_lc rfl nd (by exact (io_of (i_rng1 T.g_range (o_of (e_op op_sub r_sub (o_of (e_clB call_len r_len T.g_len PySem.boot_len (by exact (q_cons (o_var 2) q_nil)))) (o_of e_int)))))) (blkOk_by (own := [("k", 3)]) (N := N_law_are_stops) (sc := defScope s_law_are_stops) (by decide +kernel)) (fun _ _ _ _ _ => (by exact (g_name 3 nd))) (fun _ _ _ _ _ => (by exact ts_nil)) (fun _ _ _ _ _ => (by exact (e_cmp op_gt r_gt (nomark _) (o_of (e_clB (cr_sumA rfl) r_sumA T.g_sum (by decide +kernel) (by exact (q_cons (o_of (e_sl (o_var 1) (p_some (e_ix (o_var 2) (o_var 3))) (p_some (e_op op_addA r_add (o_of (e_ix (o_var 2) (o_of (e_op op_addA r_add (o_var 3) (o_of e_int))))) (o_of e_int))))) q_nil)))) (o_var 0))))))) q_nil))))))))))
/-! ## _law_same -/
abbrev s_law_same : Stmt := topS 16
abbrev N_law_same : List Str := ["a", "b", "k"]
theorem sc_law_same : FnScope N_law_same ["a", "b"] (defScope s_law_same) := ⟨rfl, rfl, rfl, by decide +kernel, rfl, by decide +kernel, by decide +kernel⟩
noncomputable def b_law_same (r : FD) : DS := (dSeq (dIfS (dOrT (dAndT (dTru (dIsi "tuple" (dVarO 0))) (dTru (dIsi "tuple" (dVarO 1)))) (dAndT (dTru (dIsi "list" (dVarO 0))) (dTru (dIsi "list" (dVarO 1))))) (dRet (dAndV (dOpB pyEq (dCl pyLen (dCons (dVarO 0) dNil)) (dCl pyLen (dCons (dVarO 1) dNil))) (dCl pyAll (dCons (dF (dCmp (dRng1 (dCl pyLen (dCons (dVarO 0) dNil))) (gN 2) dYes (dFn (r) (dConsA (dV (dOp pyIx (dVarO 0) (dVarO 2))) (dConsA (dV (dOp pyIx (dVarO 1) (dVarO 2))) dNilA))) [2])) dNil)))) dNext)
  (dSeq (dIfS (dOrT (dTru (dIsi "bool" (dVarO 0))) (dTru (dIsi "bool" (dVarO 1)))) (dRet (dAndV (dIsi "bool" (dVarO 0)) (dAndV (dIsi "bool" (dVarO 1)) (dOpB pyEq (dVarO 0) (dVarO 1))))) dNext)
  (dSeq (dIfS (dOrT (dAndT (dTru (dIsi "int" (dVarO 0))) (dTru (dIsi "int" (dVarO 1)))) (dAndT (dTru (dIsi "str" (dVarO 0))) (dTru (dIsi "str" (dVarO 1))))) (dRet (dOpB pyEq (dVarO 0) (dVarO 1))) dNext)
  (dRet (dAndV (dOpB pyIs (dVarO 0) (dC .none)) (dOpB pyIs (dVarO 1) (dC .none)))))))
noncomputable def d_law_same : Nat → FD
  | 0 => fun _ _ => none
  | k + 1 => dFun 2 1 (b_law_same (d_law_same k))
theorem ok_law_same {P : Program} {w : World} {K : Frg} {mg : Str → Option Value} {base : Heap} {f : Addr} {fd : FuncData} (T : Tx mg) (F : Fun K "_law_same" "_law_same" s_law_same f fd) (gm : mg "_law_same" = some (.ref f)) (bd : Binds K fd ["a", "b"] [])  : ∀ kk : Nat, FnOk P w K mg base CX0 (0 + kk) f fd ["a", "b"] (spD K (d_law_same kk))
  | 0 => fn_none
  | kk + 1 => def_ok F sc_law_same rfl rfl fun cdv A outer s H E C hr => by
    have nd := sc_law_same.nd
    have hr : Room (0 + kk) (A.deeper (envOfC "_law_same" (defScope s_law_same) s.heap.objs.size f cdv)) := hr
    have D_law_same : Def P w K mg base (0 + kk) "_law_same" (d_law_same kk) := ⟨f, fd, ["a", "b"], ok_law_same T F gm bd  kk, gm, F.kp, bd⟩
    exact (ss_cons (s_if (by exact ((w_or ((w_and (t_tru (o_of (e_isi (t := "tuple") (by decide) T.g_isinstance T.g_tuple PyProof.Rows.boot_tuple (o_var 0)))) (w_and1 (t_tru (o_of (e_isi (t := "tuple") (by decide) T.g_isinstance T.g_tuple PyProof.Rows.boot_tuple (o_var 1)))))).pt) (w_or1 ((w_and (t_tru (o_of (e_isi (t := "list") (by decide) T.g_isinstance T.g_list PyProof.Rows.boot_list (o_var 0)))) (w_and1 (t_tru (o_of (e_isi (t := "list") (by decide) T.g_isinstance T.g_list PyProof.Rows.boot_list (o_var 1)))))).pt))).pt)) (ss_one (s_ret (by exact (e_and (by exact (e_cmp (op_eqD hr.units) r_eq (nomark _) (o_of (e_clB call_len r_len T.g_len PySem.boot_len (by exact (q_cons (o_var 0) q_nil)))) (o_of (e_clB call_len r_len T.g_len PySem.boot_len (by exact (q_cons (o_var 1) q_nil)))))) (by exact (e_one (by exact (e_clB (cr_all rfl) r_all T.g_all (by decide +kernel) (by exact (q_cons (o_of (f_of (l_lc rfl nd (by exact (io_of (i_rng1 T.g_range (o_of (e_clB call_len r_len T.g_len PySem.boot_len (by exact (q_cons (o_var 0) q_nil))))))) (blkOk_by (own := [("k", 2)]) (N := N_law_same) (sc := defScope s_law_same) (by decide +kernel)) (fun _ _ _ _ _ => (by exact (g_name 2 nd))) (fun _ _ _ _ _ => (by exact ts_nil)) (fun _ _ _ _ _ => (by exact (e_fn D_law_same (hr.mono (by omega)) (by exact (a_cons (v_of (e_ix (o_var 0) (o_var 2))) (a_cons (v_of (e_ix (o_var 1) (o_var 2))) a_nil))))))))) q_nil)))))))))) ss_nil)
  (ss_cons (s_if (by exact ((w_or (t_tru (o_of (e_isi (t := "bool") (by decide) T.g_isinstance T.g_bool PyProof.Rows.boot_bool (o_var 0)))) (w_or1 (t_tru (o_of (e_isi (t := "bool") (by decide) T.g_isinstance T.g_bool PyProof.Rows.boot_bool (o_var 1)))))).pt)) (ss_one (s_ret (by exact (e_and (by exact (e_isi (t := "bool") (by decide) T.g_isinstance T.g_bool PyProof.Rows.boot_bool (o_var 0))) (by exact (e_and (by exact (e_isi (t := "bool") (by decide) T.g_isinstance T.g_bool PyProof.Rows.boot_bool (o_var 1))) (by exact (e_one (by exact (e_cmp (op_eqD hr.units) r_eq (nomark _) (o_var 0) (o_var 1))))))))))) ss_nil)
  (ss_cons (s_if (by exact ((w_or ((w_and (t_tru (o_of (e_isi (t := "int") (by decide) T.g_isinstance T.g_int PyProof.Rows.boot_int (o_var 0)))) (w_and1 (t_tru (o_of (e_isi (t := "int") (by decide) T.g_isinstance T.g_int PyProof.Rows.boot_int (o_var 1)))))).pt) (w_or1 ((w_and (t_tru (o_of (e_isi (t := "str") (by decide) T.g_isinstance T.g_str PyProof.Rows.boot_str (o_var 0)))) (w_and1 (t_tru (o_of (e_isi (t := "str") (by decide) T.g_isinstance T.g_str PyProof.Rows.boot_str (o_var 1)))))).pt))).pt)) (ss_one (s_ret (by exact (e_cmp (op_eqD hr.units) r_eq (nomark _) (o_var 0) (o_var 1))))) ss_nil)
  (ss_one (s_ret (by exact (e_and (by exact (e_cmp op_isA r_is (nomark _) (o_var 0) (o_of e_non))) (by exact (e_one (by exact (e_cmp op_isA r_is (nomark _) (o_var 1) (o_of e_non))))))))))))
/-! ## _law_spoilt -/
abbrev s_law_spoilt : Stmt := topS 18
abbrev N_law_spoilt : List Str := ["tape", "value", "at", "rows"]
theorem sc_law_spoilt : FnScope N_law_spoilt ["tape", "value"] (defScope s_law_spoilt) := ⟨rfl, rfl, rfl, by decide +kernel, rfl, by decide +kernel, by decide +kernel⟩
noncomputable def b_law_spoilt (r : FD) : DS := (dSeq (dIfS (dAndT (dTru (dIsi "tuple" (dVarO 1))) (dAndT (dTst pyGt (dCl pyLen (dCons (dVarO 1) dNil)) (dC (.int 0))) (dTst pyGt (dFn (d_law_take) (dConsA (dVarV 0) (dConsA (dV (dC (.int 4))) dNilA))) (dC (.int 0))))) (dSeq (dAsg 2 (dFn (d_law_take) (dConsA (dVarV 0) (dConsA (dV (dCl pyLen (dCons (dVarO 1) dNil))) dNilA))))
  (dSeq (dIfS (dTst pyEq (dFn (d_law_take) (dConsA (dVarV 0) (dConsA (dV (dC (.int 8))) dNilA))) (dC (.int 0))) (dRet (dOp pyAdd (dSl pySl (dVarO 1) dNoP (dPart (dVar 2))) (dSl pySl (dVarO 1) (dPart (dOp pyAdd (dVarO 2) (dC (.int 1)))) dNoP))) dNext)
  (dRet (dOp pyAdd (dOp pyAdd (dSl pySl (dVarO 1) dNoP (dPart (dVar 2))) (dTup (dCons (dFn (r) (dConsA (dVarV 0) (dConsA (dV (dOp pyIx (dVarO 1) (dVarO 2))) dNilA))) dNil))) (dSl pySl (dVarO 1) (dPart (dOp pyAdd (dVarO 2) (dC (.int 1)))) dNoP))))) dNext)
  (dSeq (dAsg 3 (dF (dLst (dCons (dC .none) (dCons (dTup dNil) (dCons (dC (.int 0)) (dCons (dC (.int 1)) (dCons (dC (.bool true)) (dCons (dC (.bool false)) (dCons (dC (.str (PySem.Str.ofString "a"))) (dCons (dNeg (dC (.int 1))) (dCons (dTup (dCons (dC (.int 0)) dNil)) (dCons (dTup (dCons (dTup (dCons (dC (.int 0)) (dCons (dC (.int 0)) dNil))) dNil)) dNil)))))))))))))
  (dSeq (dIfS (dTru (dIsi "int" (dVarO 1))) (dAsg 3 (dOp pyAdd (dVarO 3) (dF (dLst (dCons (dOp pyAdd (dVarO 1) (dC (.int 1))) (dCons (dOp pySub (dVarO 1) (dC (.int 1))) (dCons (dOpB pyEq (dVarO 1) (dC (.int 1))) (dCons (dOp pyAdd (dVarO 1) (dC (.int 1))) dNil)))))))) dNext)
  (dSeq (dIfS (dTru (dIsi "tuple" (dVarO 1))) (dAsg 3 (dOp pyAdd (dVarO 3) (dF (dLst (dCons (dSl pySl (dVarO 1) dNoP (dPart (dNeg (dC (.int 1))))) (dCons (dOp pyAdd (dVarO 1) (dSl pySl (dVarO 1) (dPart (dNeg (dC (.int 1)))) dNoP)) (dCons (dRev (dVarO 1)) (dCons (dOp pyAdd (dVarO 1) (dTup (dCons (dTup (dCons (dC (.int 0)) (dCons (dC (.int 0)) dNil))) dNil))) (dCons (dTup (dCons (dVar 1) dNil)) (dCons (dSl pySl (dVarO 1) (dPart (dC (.int 1))) dNoP) dNil)))))))))) dNext)
  (dRet (dOp pyIx (dVarO 3) (dFn (d_law_take) (dConsA (dVarV 0) (dConsA (dV (dCl pyLen (dCons (dVarO 3) dNil))) dNilA)))))))))
noncomputable def d_law_spoilt : Nat → FD
  | 0 => fun _ _ => none
  | k + 1 => dFun 2 2 (b_law_spoilt (d_law_spoilt k))
theorem ok_law_spoilt {P : Program} {w : World} {K : Frg} {mg : Str → Option Value} {base : Heap} {f : Addr} {fd : FuncData} (T : Tx mg) (F : Fun K "_law_spoilt" "_law_spoilt" s_law_spoilt f fd) (gm : mg "_law_spoilt" = some (.ref f)) (bd : Binds K fd ["tape", "value"] []) (D_law_take : Def P w K mg base 2 "_law_take" (d_law_take)) : ∀ kk : Nat, FnOk P w K mg base CX0 (2 + kk) f fd ["tape", "value"] (spD K (d_law_spoilt kk))
  | 0 => fn_none
  | kk + 1 => def_ok F sc_law_spoilt rfl rfl fun cdv A outer s H E C hr => by
    have nd := sc_law_spoilt.nd
    have hr : Room (2 + kk) (A.deeper (envOfC "_law_spoilt" (defScope s_law_spoilt) s.heap.objs.size f cdv)) := hr
    have D_law_spoilt : Def P w K mg base (2 + kk) "_law_spoilt" (d_law_spoilt kk) := ⟨f, fd, ["tape", "value"], ok_law_spoilt T F gm bd D_law_take kk, gm, F.kp, bd⟩
    exact (ss_cons (s_if (by exact ((w_and (t_tru (o_of (e_isi (t := "tuple") (by decide) T.g_isinstance T.g_tuple PyProof.Rows.boot_tuple (o_var 1)))) (w_and (t_cmp op_gt r_gt (nomark _) (o_of (e_clB call_len r_len T.g_len PySem.boot_len (by exact (q_cons (o_var 1) q_nil)))) (o_of e_int)) (w_and1 (t_cmp op_gt r_gt (nomark _) (o_of (e_fn D_law_take (hr.mono (by omega)) (by exact (a_cons (v_var 0) (a_cons (v_of e_int) a_nil))))) (o_of e_int))))).pt)) (ss_cons (s_set 2 nd (by exact (e_fn D_law_take (hr.mono (by omega)) (by exact (a_cons (v_var 0) (a_cons (v_of (e_clB call_len r_len T.g_len PySem.boot_len (by exact (q_cons (o_var 1) q_nil)))) a_nil))))))
  (ss_cons (s_if (by exact (t_cmp (op_eqD hr.units) r_eq (nomark _) (o_of (e_fn D_law_take (hr.mono (by omega)) (by exact (a_cons (v_var 0) (a_cons (v_of e_int) a_nil))))) (o_of e_int))) (ss_one (s_ret (by exact (e_op op_addA r_add (o_of (e_sl (o_var 1) p_none (p_some (e_var 2)))) (o_of (e_sl (o_var 1) (p_some (e_op op_addA r_add (o_var 2) (o_of e_int))) p_none)))))) ss_nil)
  (ss_one (s_ret (by exact (e_op op_addA r_add (o_of (e_op op_addA r_add (o_of (e_sl (o_var 1) p_none (p_some (e_var 2)))) (o_of (e_tup (by exact (d_cons (e_fn D_law_spoilt (hr.mono (by omega)) (by exact (a_cons (v_var 0) (a_cons (v_of (e_ix (o_var 1) (o_var 2))) a_nil)))) d_nil)))))) (o_of (e_sl (o_var 1) (p_some (e_op op_addA r_add (o_var 2) (o_of e_int))) p_none)))))))) ss_nil)
  (ss_cons (s_set 3 nd (by exact (f_of (l_lst (by exact (d_cons e_non (d_cons (e_tup (by exact d_nil)) (d_cons e_int (d_cons e_int (d_cons e_bl (d_cons e_bl (d_cons e_str (d_cons (e_neg e_int) (d_cons (e_tup (by exact (d_cons e_int d_nil))) (d_cons (e_tup (by exact (d_cons (e_tup (by exact (d_cons e_int (d_cons e_int d_nil)))) d_nil))) d_nil)))))))))))))))
  (ss_cons (s_if (by exact (t_tru (o_of (e_isi (t := "int") (by decide) T.g_isinstance T.g_int PyProof.Rows.boot_int (o_var 1))))) (ss_one (s_set 3 nd (by exact (e_op op_addA r_add (o_var 3) (o_of (f_of (l_lst (by exact (d_cons (e_op op_addA r_add (o_var 1) (o_of e_int)) (d_cons (e_op op_sub r_sub (o_var 1) (o_of e_int)) (d_cons (e_cmp (op_eqD hr.units) r_eq (nomark _) (o_var 1) (o_of e_int)) (d_cons (e_op op_addA r_add (o_var 1) (o_of e_int)) d_nil)))))))))))) ss_nil)
  (ss_cons (s_if (by exact (t_tru (o_of (e_isi (t := "tuple") (by decide) T.g_isinstance T.g_tuple PyProof.Rows.boot_tuple (o_var 1))))) (ss_one (s_set 3 nd (by exact (e_op op_addA r_add (o_var 3) (o_of (f_of (l_lst (by exact (d_cons (e_sl (o_var 1) p_none (p_some (e_neg e_int))) (d_cons (e_op op_addA r_add (o_var 1) (o_of (e_sl (o_var 1) (p_some (e_neg e_int)) p_none))) (d_cons (e_rev (o_var 1)) (d_cons (e_op op_addA r_add (o_var 1) (o_of (e_tup (by exact (d_cons (e_tup (by exact (d_cons e_int (d_cons e_int d_nil)))) d_nil))))) (d_cons (e_tup (by exact (d_cons (e_var 1) d_nil))) (d_cons (e_sl (o_var 1) (p_some e_int) p_none) d_nil)))))))))))))) ss_nil)
  (ss_one (s_ret (by exact (e_ix (o_var 3) (o_of (e_fn D_law_take (hr.mono (by omega)) (by exact (a_cons (v_var 0) (a_cons (v_of (e_clB call_len r_len T.g_len PySem.boot_len (by exact (q_cons (o_var 3) q_nil)))) a_nil)))))))))))))
/-! ## is_ascending -/
abbrev s_is_ascending : Stmt := topS 2
abbrev N_is_ascending : List Str := ["rows", "k"]
theorem sc_is_ascending : FnScope N_is_ascending ["rows"] (defScope s_is_ascending) := ⟨rfl, rfl, rfl, by decide +kernel, rfl, by decide +kernel, by decide +kernel⟩
noncomputable def b_is_ascending : DS := (dRet (dCl pyAll (dCons (dF (dCmp (dRng1 (dOp pySub (dCl pyLen (dCons (dVarO 0) dNil)) (dC (.int 1)))) (gN 1) dYes (dOpB pyLt (dOp pyIx (dVarO 0) (dVarO 1)) (dOp pyIx (dVarO 0) (dOp pyAdd (dVarO 1) (dC (.int 1))))) [1])) dNil)))
noncomputable def d_is_ascending : FD := dFun 1 1 b_is_ascending
theorem ok_is_ascending {P : Program} {w : World} {K : Frg} {mg : Str → Option Value} {base : Heap} {f : Addr} {fd : FuncData} (T : Tx mg) (F : Fun K "is_ascending" "is_ascending" s_is_ascending f fd)  : FnOk P w K mg base CX0 1 f fd ["rows"] (spD K d_is_ascending) :=
  def_ok F sc_is_ascending rfl rfl fun cdv A outer s H E C hr => by
    have nd := sc_is_ascending.nd
    exact (ss_one (s_ret (by exact (e_clB (cr_all rfl) r_all T.g_all (by decide +kernel) (by exact (q_cons (o_of (f_of (l_lc rfl nd (by exact (io_of (i_rng1 T.g_range (o_of (e_op op_sub r_sub (o_of (e_clB call_len r_len T.g_len PySem.boot_len (by exact (q_cons (o_var 0) q_nil)))) (o_of e_int)))))) (blkOk_by (own := [("k", 1)]) (N := N_is_ascending) (sc := defScope s_is_ascending) (by decide +kernel)) (fun _ _ _ _ _ => (by exact (g_name 1 nd))) (fun _ _ _ _ _ => (by exact ts_nil)) (fun _ _ _ _ _ => (by exact (e_cmp op_lt r_lt (nomark _) (o_of (e_ix (o_var 0) (o_var 1))) (o_of (e_ix (o_var 0) (o_of (e_op op_addA r_add (o_var 1) (o_of e_int))))))))))) q_nil))))))
/-! ## is_number -/
abbrev s_is_number : Stmt := topS 1
abbrev N_is_number : List Str := ["value", "least", "most"]
theorem sc_is_number : FnScope N_is_number ["value", "least", "most"] (defScope s_is_number) := ⟨rfl, rfl, rfl, by decide +kernel, rfl, by decide +kernel, by decide +kernel⟩
noncomputable def b_is_number : DS := (dRet (dAndV (dIsi "int" (dVarO 0)) (dAndV (dNotV (dIsi "bool" (dVarO 0))) (dChnB pyLe pyLe (dVarO 1) (dVarO 0) (dVarO 2)))))
noncomputable def d_is_number : FD := dFun 3 0 b_is_number
theorem ok_is_number {P : Program} {w : World} {K : Frg} {mg : Str → Option Value} {base : Heap} {f : Addr} {fd : FuncData} (T : Tx mg) (F : Fun K "is_number" "is_number" s_is_number f fd)  : FnOk P w K mg base CX0 1 f fd ["value", "least", "most"] (spD K d_is_number) :=
  def_ok F sc_is_number rfl rfl fun cdv A outer s H E C hr => by
    have nd := sc_is_number.nd
    exact (ss_one (s_ret (by exact (e_and (by exact (e_isi (t := "int") (by decide) T.g_isinstance T.g_int PyProof.Rows.boot_int (o_var 0))) (by exact (e_and (by exact (e_not (e_isi (t := "bool") (by decide) T.g_isinstance T.g_bool PyProof.Rows.boot_bool (o_var 0)))) (by exact (e_one (by exact (e_chn op_le r_le op_le r_le (o_var 1) (o_var 0) (o_var 2)))))))))))
/-! ## is_index_row -/
abbrev s_is_index_row : Stmt := topS 4
abbrev N_is_index_row : List Str := ["many", "value", "i"]
theorem sc_is_index_row : FnScope N_is_index_row ["many", "value"] (defScope s_is_index_row) := ⟨rfl, rfl, rfl, by decide +kernel, rfl, by decide +kernel, by decide +kernel⟩
noncomputable def b_is_index_row : DS := (dRet (dAndV (dIsi "tuple" (dVarO 1)) (dAndV (dCl pyAll (dCons (dF (dCmp (dSeq' (dVarO 1)) (gN 2) dYes (dFn (d_is_number) (dConsA (dVarV 2) (dConsA (dV (dC (.int 0))) (dConsA (dV (dOp pySub (dVarO 0) (dC (.int 1)))) dNilA)))) [2])) dNil)) (dFn (d_is_ascending) (dConsA (dVarV 1) dNilA)))))
noncomputable def d_is_index_row : FD := dFun 2 1 b_is_index_row
theorem ok_is_index_row {P : Program} {w : World} {K : Frg} {mg : Str → Option Value} {base : Heap} {f : Addr} {fd : FuncData} (T : Tx mg) (F : Fun K "is_index_row" "is_index_row" s_is_index_row f fd) (D_is_ascending : Def P w K mg base 1 "is_ascending" (d_is_ascending)) (D_is_number : Def P w K mg base 1 "is_number" (d_is_number)) : FnOk P w K mg base CX0 2 f fd ["many", "value"] (spD K d_is_index_row) :=
  def_ok F sc_is_index_row rfl rfl fun cdv A outer s H E C hr => by
    have nd := sc_is_index_row.nd
    exact (ss_one (s_ret (by exact (e_and (by exact (e_isi (t := "tuple") (by decide) T.g_isinstance T.g_tuple PyProof.Rows.boot_tuple (o_var 1))) (by exact (e_and (by exact (e_clB (cr_all rfl) r_all T.g_all (by decide +kernel) (by exact (q_cons (o_of (f_of (l_lc rfl nd (by exact (i_seqo (o_var 1))) (blkOk_by (own := [("i", 2)]) (N := N_is_index_row) (sc := defScope s_is_index_row) (by decide +kernel)) (fun _ _ _ _ _ => (by exact (g_name 2 nd))) (fun _ _ _ _ _ => (by exact ts_nil)) (fun _ _ _ _ _ => (by exact (e_fn D_is_number (hr.mono (by decide)) (by exact (a_cons (v_var 2) (a_cons (v_of e_int) (a_cons (v_of (e_op op_sub r_sub (o_var 0) (o_of e_int))) a_nil)))))))))) q_nil)))) (by exact (e_one (by exact (e_fn D_is_ascending (hr.mono (by decide)) (by exact (a_cons (v_var 1) a_nil))))))))))))
/-! ## rows_by -/
abbrev s_rows_by : Stmt := topS 5
abbrev N_rows_by : List Str := ["widths", "laying", "ends", "a", "b"]
theorem sc_rows_by : FnScope N_rows_by ["widths", "laying"] (defScope s_rows_by) := ⟨rfl, rfl, rfl, by decide +kernel, rfl, by decide +kernel, by decide +kernel⟩
noncomputable def b_rows_by : DS := (dSeq (dAsg 2 (dOp pyAdd (dF (dClL pyList (dCons (dSl pySl (dVarO 1) (dPart (dC (.int 1))) dNoP) dNil))) (dF (dLst (dCons (dCl pyLen (dCons (dVarO 0) dNil)) dNil)))))
  (dRet (dF (dCmp (dZip (dVarO 1) (dVarO 2)) (gT (gCons' (gN 3) (gCons' (gN 4) gNil'))) dYes (dCl pySumA (dCons (dSl pySl (dVarO 0) (dPart (dVar 3)) (dPart (dVar 4))) dNil)) [3, 4]))))
noncomputable def d_rows_by : FD := dFun 2 3 b_rows_by
theorem ok_rows_by {P : Program} {w : World} {K : Frg} {mg : Str → Option Value} {base : Heap} {f : Addr} {fd : FuncData} (T : Tx mg) (F : Fun K "rows_by" "rows_by" s_rows_by f fd)  : FnOk P w K mg base CX0 1 f fd ["widths", "laying"] (spD K d_rows_by) :=
  def_ok F sc_rows_by rfl rfl fun cdv A outer s H E C hr => by
    have nd := sc_rows_by.nd
    exact (ss_cons (s_set 2 nd (by exact (e_op op_addA r_add (o_of (f_of (l_clT call_list_of r_list T.g_list PyProof.Rows.boot_list (by exact (q_cons (o_of (e_sl (o_var 1) (p_some e_int) p_none)) q_nil))))) (o_of (f_of (l_lst (by exact (d_cons (e_clB call_len r_len T.g_len PySem.boot_len (by exact (q_cons (o_var 0) q_nil))) d_nil))))))))
  (ss_one (s_ret (by exact (f_of (l_lc rfl nd (by exact (i_zipo T.g_zip (o_var 1) (o_var 2))) (blkOk_by (own := [("a", 3), ("b", 4)]) (N := N_rows_by) (sc := defScope s_rows_by) (by decide +kernel)) (fun _ _ _ _ _ => (by exact (g_tup rfl (gs_cons (g_name 3 nd) (gs_cons (g_name 4 nd) gs_nil)) (glen_cons (glen_cons glen_nil))))) (fun _ _ _ _ _ => (by exact ts_nil)) (fun _ _ _ _ _ => (by exact (e_clB (cr_sumA rfl) r_sumA T.g_sum (by decide +kernel) (by exact (q_cons (o_of (e_sl (o_var 0) (p_some (e_var 3)) (p_some (e_var 4)))) q_nil)))))))))))
/-! ## is_laying -/
abbrev s_is_laying : Stmt := topS 6
abbrev N_is_laying : List Str := ["w", "widths", "value"]
theorem sc_is_laying : FnScope N_is_laying ["w", "widths", "value"] (defScope s_is_laying) := ⟨rfl, rfl, rfl, by decide +kernel, rfl, by decide +kernel, by decide +kernel⟩
noncomputable def b_is_laying : DS := (dSeq (dIfS (dNotT (dTru (dFn (d_is_index_row) (dConsA (dV (dCl pyLen (dCons (dVarO 1) dNil))) (dConsA (dVarV 2) dNilA))))) (dRet (dC (.bool false))) dNext)
  (dSeq (dIfS (dTst pyEq (dVarO 1) (dTup dNil)) (dRet (dOpB pyEq (dVarO 2) (dTup dNil))) dNext)
  (dRet (dAndV (dOpB pyNe (dVarO 2) (dTup dNil)) (dAndV (dOpB pyEq (dOp pyIx (dVarO 2) (dC (.int 0))) (dC (.int 0))) (dOpB pyLe (dCl pyMax1 (dCons (dFn (d_rows_by) (dConsA (dVarV 1) (dConsA (dVarV 2) dNilA))) dNil)) (dVarO 0)))))))
noncomputable def d_is_laying : FD := dFun 3 0 b_is_laying
theorem ok_is_laying {P : Program} {w : World} {K : Frg} {mg : Str → Option Value} {base : Heap} {f : Addr} {fd : FuncData} (T : Tx mg) (F : Fun K "is_laying" "is_laying" s_is_laying f fd) (D_is_index_row : Def P w K mg base 2 "is_index_row" (d_is_index_row)) (D_rows_by : Def P w K mg base 1 "rows_by" (d_rows_by)) : FnOk P w K mg base CX0 3 f fd ["w", "widths", "value"] (spD K d_is_laying) :=
  def_ok F sc_is_laying rfl rfl fun cdv A outer s H E C hr => by
    have nd := sc_is_laying.nd
    exact (ss_cons (s_if (by exact (t_not (t_tru (o_of (e_fn D_is_index_row (hr.mono (by decide)) (by exact (a_cons (v_of (e_clB call_len r_len T.g_len PySem.boot_len (by exact (q_cons (o_var 1) q_nil)))) (a_cons (v_var 2) a_nil)))))))) (ss_one (s_ret (by exact e_bl))) ss_nil)
  (ss_cons (s_if (by exact (t_cmp (op_eqD hr.units) r_eq (nomark _) (o_var 1) (o_of (e_tup (by exact d_nil))))) (ss_one (s_ret (by exact (e_cmp (op_eqD hr.units) r_eq (nomark _) (o_var 2) (o_of (e_tup (by exact d_nil))))))) ss_nil)
  (ss_one (s_ret (by exact (e_and (by exact (e_cmp (op_neD hr.units) r_ne (nomark _) (o_var 2) (o_of (e_tup (by exact d_nil))))) (by exact (e_and (by exact (e_cmp (op_eqD hr.units) r_eq (nomark _) (o_of (e_ix (o_var 2) (o_of e_int))) (o_of e_int))) (by exact (e_one (by exact (e_cmp op_le r_le (nomark _) (o_of (e_clB (cr_max1 rfl (u65 hr)) r_m1 T.g_max (by decide +kernel) (by exact (q_cons (o_of (e_fn D_rows_by (hr.mono (by decide)) (by exact (a_cons (v_var 1) (a_cons (v_var 2) a_nil))))) q_nil)))) (o_var 0)))))))))))))
/-! ## are_stops -/
abbrev s_are_stops : Stmt := topS 7
abbrev N_are_stops : List Str := ["w", "widths", "value", "k"]
theorem sc_are_stops : FnScope N_are_stops ["w", "widths", "value"] (defScope s_are_stops) := ⟨rfl, rfl, rfl, by decide +kernel, rfl, by decide +kernel, by decide +kernel⟩
noncomputable def b_are_stops : DS := (dSeq (dIfS (dNotT (dTru (dFn (d_is_index_row) (dConsA (dV (dCl pyLen (dCons (dVarO 1) dNil))) (dConsA (dVarV 2) dNilA))))) (dRet (dC (.bool false))) dNext)
  (dRet (dCl pyAll (dCons (dF (dCmp (dRng1 (dOp pySub (dCl pyLen (dCons (dVarO 2) dNil)) (dC (.int 1)))) (gN 3) dYes (dOpB pyGt (dCl pySumA (dCons (dSl pySl (dVarO 1) (dPart (dOp pyIx (dVarO 2) (dVarO 3))) (dPart (dOp pyAdd (dOp pyIx (dVarO 2) (dOp pyAdd (dVarO 3) (dC (.int 1)))) (dC (.int 1))))) dNil)) (dVarO 0)) [3])) dNil))))
noncomputable def d_are_stops : FD := dFun 3 1 b_are_stops
theorem ok_are_stops {P : Program} {w : World} {K : Frg} {mg : Str → Option Value} {base : Heap} {f : Addr} {fd : FuncData} (T : Tx mg) (F : Fun K "are_stops" "are_stops" s_are_stops f fd) (D_is_index_row : Def P w K mg base 2 "is_index_row" (d_is_index_row)) : FnOk P w K mg base CX0 3 f fd ["w", "widths", "value"] (spD K d_are_stops) :=
  def_ok F sc_are_stops rfl rfl fun cdv A outer s H E C hr => by
    have nd := sc_are_stops.nd
    exact (ss_cons (s_if (by exact (t_not (t_tru (o_of (e_fn D_is_index_row (hr.mono (by decide)) (by exact (a_cons (v_of (e_clB call_len r_len T.g_len PySem.boot_len (by exact (q_cons (o_var 1) q_nil)))) (a_cons (v_var 2) a_nil)))))))) (ss_one (s_ret (by exact e_bl))) ss_nil)
  (ss_one (s_ret (by exact (e_clB (cr_all rfl) r_all T.g_all (by decide +kernel) (by exact (q_cons (o_of (f_of (l_lc rfl nd (by exact (io_of (i_rng1 T.g_range (o_of (e_op op_sub r_sub (o_of (e_clB call_len r_len T.g_len PySem.boot_len (by exact (q_cons (o_var 2) q_nil)))) (o_of e_int)))))) (blkOk_by (own := [("k", 3)]) (N := N_are_stops) (sc := defScope s_are_stops) (by decide +kernel)) (fun _ _ _ _ _ => (by exact (g_name 3 nd))) (fun _ _ _ _ _ => (by exact ts_nil)) (fun _ _ _ _ _ => (by exact (e_cmp op_gt r_gt (nomark _) (o_of (e_clB (cr_sumA rfl) r_sumA T.g_sum (by decide +kernel) (by exact (q_cons (o_of (e_sl (o_var 1) (p_some (e_ix (o_var 2) (o_var 3))) (p_some (e_op op_addA r_add (o_of (e_ix (o_var 2) (o_of (e_op op_addA r_add (o_var 3) (o_of e_int))))) (o_of e_int))))) q_nil)))) (o_var 0))))))) q_nil)))))))
/-! ## law -/
abbrev s_law : Stmt := topS 24
abbrev N_law : List Str := ["script", "tape", "turn", "w", "i", "widths", "rows", "good", "laying", "stops_here", "due", "value", "fine", "stop", "many", "some", "narrow", "first", "told", "wide", "row", "k"]
theorem sc_law : FnScope N_law ["script"] (defScope s_law) := ⟨rfl, rfl, rfl, by decide +kernel, rfl, by decide +kernel, by decide +kernel⟩
noncomputable def law_L1 : DS := (dSeq (dAsgO 15 (dCmp (dSeq' (dVarO 6)) (gN 20) (dTst pyEq (dCl pyLen (dCons (dVarO 20) dNil)) (dVarO 14)) (dVar 20) [20]))
  (dFz 15 (dSeq (dAsg 16 (dCl pyMin1 (dCons (dF (dCmp (dSeq' (dVarO 15)) (gN 20) dYes (dFn (d_law_widest) (dConsA (dVarV 5) (dConsA (dVarV 20) dNilA))) [20])) dNil)))
  (dSeq (dAsg 17 (dOp pyIx (dF (dClL pySortedA (dCons (dF (dCmp (dSeq' (dVarO 15)) (gN 20) (dTst pyEq (dFn (d_law_widest) (dConsA (dVarV 5) (dConsA (dVarV 20) dNilA))) (dVarO 16)) (dVar 20) [20])) dNil))) (dC (.int 0))))
  (dIfS (dOrT (dNotT (dTru (dFn (d_law_same 8) (dConsA (dV (dFn (d_even_trays) (dConsA (dVarV 3) (dConsA (dVarV 5) (dConsA (dVarV 14) dNilA))))) (dConsA (dVarV 17) dNilA))))) (dAndT (dTst pyNe (dVarO 5) (dTup dNil)) (dOrT (dTst pyGt (dCl pyLen (dCons (dFn (d_law_filled) (dConsA (dVarV 16) (dConsA (dVarV 5) dNilA))) dNil)) (dVarO 14)) (dAndT (dTst pyGt (dVarO 16) (dCl pyMax1 (dCons (dVarO 5) dNil))) (dTst pyLe (dCl pyLen (dCons (dFn (d_law_filled) (dConsA (dV (dOp pySub (dVarO 16) (dC (.int 1)))) (dConsA (dVarV 5) dNilA))) dNil)) (dVarO 14)))))) (dRet (dC (.bool false))) dNext)))))
noncomputable def law_L2 : DS := (dSeq (dPar 12 13 (dFn (d_law_is_laying) (dConsA (dVarV 3) (dConsA (dVarV 5) (dConsA (dVarV 11) dNilA)))) (dFn (d_law_are_stops) (dConsA (dVarV 3) (dConsA (dVarV 5) (dConsA (dVarV 11) dNilA)))))
  (dSeq (dIfS (dNotT (dTru (dFn (d_law_same 8) (dConsA (dV (dTup (dCons (dFn (d_is_laying) (dConsA (dVarV 3) (dConsA (dVarV 5) (dConsA (dVarV 11) dNilA)))) (dCons (dFn (d_are_stops) (dConsA (dVarV 3) (dConsA (dVarV 5) (dConsA (dVarV 11) dNilA)))) dNil)))) (dConsA (dV (dTup (dCons (dVar 12) (dCons (dVar 13) dNil)))) dNilA))))) (dRet (dC (.bool false))) dNext)
  (dIfS (dOrT (dAndT (dTru (dVarO 12)) (dTst pyLt (dCl pyLen (dCons (dVarO 11) dNil)) (dCl pyLen (dCons (dVarO 10) dNil)))) (dAndT (dTru (dVarO 13)) (dTst pyGt (dCl pyLen (dCons (dVarO 11) dNil)) (dCl pyLen (dCons (dVarO 10) dNil))))) (dRet (dC (.bool false))) dNext)))
noncomputable def law_L3 : DS := (dAsg 6 (dOp pyAdd (dVarO 6) (dF (dCmp (dSeq' (dVarO 6)) (gN 20) dYes (dOp pyAdd (dVarO 20) (dTup (dCons (dVar 4) dNil))) [20]))))
noncomputable def law_L4 : DS := (dSeq (dAsg 3 (dOp pyAdd (dC (.int 1)) (dFn (d_law_take) (dConsA (dVarV 1) (dConsA (dV (dC (.int 10))) dNilA)))))
  (dSeq (dAsg 5 (dCl pyTuple (dCons (dF (dCmp (dRng1 (dFn (d_law_take) (dConsA (dVarV 1) (dConsA (dV (dC (.int 8))) dNilA)))) (gN 4) dYes (dOp pyAdd (dC (.int 1)) (dFn (d_law_take) (dConsA (dVarV 1) (dConsA (dVarV 3) dNilA)))) [4])) dNil)))
  (dSeq (dAsg 6 (dIf (dTst pyEq (dVarO 5) (dTup dNil)) (dF (dLst (dCons (dTup dNil) dNil))) (dF (dLst (dCons (dTup (dCons (dC (.int 0)) dNil)) dNil)))))
  (dSeq (dFor (dRng2 (dC (.int 1)) (dCl pyLen (dCons (dVarO 5) dNil))) (gN 4) law_L3)
  (dSeq (dAsgO 7 (dCmp (dSeq' (dVarO 6)) (gN 20) (dTst pyLe (dFn (d_law_widest) (dConsA (dVarV 5) (dConsA (dVarV 20) dNilA))) (dVarO 3)) (dVar 20) [20]))
  (dFz 7 (dSeq (dAsgG (gT (gCons' (gN 8) (gCons' (gN 9) gNil'))) (dFn (d_fewest_trays) (dConsA (dVarV 3) (dConsA (dVarV 5) dNilA))))
  (dSeq (dAsg 10 (dFn (d_law_filled) (dConsA (dVarV 3) (dConsA (dVarV 5) dNilA))))
  (dSeq (dIfS (dOrT (dNotT (dTru (dFn (d_law_same 8) (dConsA (dV (dTup (dCons (dVar 8) (dCons (dVar 9) dNil)))) (dConsA (dV (dTup (dCons (dVar 10) (dCons (dVar 10) dNil)))) dNilA))))) (dOrT (dTst pyNe (dCl pyLen (dCons (dVarO 10) dNil)) (dCl pyMin1 (dCons (dF (dCmp (dSeq' (dVarO 7)) (gN 20) dYes (dCl pyLen (dCons (dVarO 20) dNil)) [20])) dNil))) (dNotT (dTru (dFn (d_law_are_stops) (dConsA (dVarV 3) (dConsA (dVarV 5) (dConsA (dVarV 10) dNilA)))))))) (dRet (dC (.bool false))) dNext)
  (dSeq (dFor (dSeq' (dOp pyAdd (dF (dLst (dCons (dVar 10) (dCons (dRev (dVarO 10)) (dCons (dSl pySl (dVarO 10) (dPart (dC (.int 1))) dNoP) (dCons (dTupRg (dRg1 (dCl pyLen (dCons (dVarO 5) dNil)))) (dCons (dTup (dCons (dC (.int 0)) dNil)) (dCons (dTup (dCons (dC (.int 0)) (dCons (dCl pyLen (dCons (dVarO 5) dNil)) dNil))) (dCons (dTup dNil) (dCons (dC .none) (dCons (dTup (dCons (dC (.bool true)) dNil)) dNil))))))))))) (dF (dCmp (dRng1 (dC (.int 5))) (gN 21) dYes (dFn (d_law_spoilt 20) (dConsA (dVarV 1) (dConsA (dVarV 10) dNilA))) [21])))) (gN 11) law_L2)
  (dFor (dRng2 (dCl pyLen (dCons (dVarO 10) dNil)) (dOp pyAdd (dCl pyLen (dCons (dVarO 5) dNil)) (dC (.int 1)))) (gN 14) law_L1)))))))))))
noncomputable def b_law : DS := (dSeq (dAsgV 1 (dFnV d_law_tape (dConsA (dVarV 0) dNilA)))
  (dSeq (dFor (dRng1 (dC (.int 3))) (gN 2) law_L4)
  (dSeq (dAsg 3 (dOp pyAdd (dC (.int 500)) (dFn (d_law_take) (dConsA (dVarV 1) (dConsA (dV (dC (.int 501))) dNilA)))))
  (dSeq (dAsg 5 (dCl pyTuple (dCons (dF (dCmp (dRng1 (dOp pyAdd (dC (.int 1)) (dFn (d_law_take) (dConsA (dVarV 1) (dConsA (dV (dC (.int 60))) dNilA))))) (gN 4) dYes (dOp pyAdd (dC (.int 1)) (dFn (d_law_take) (dConsA (dVarV 1) (dConsA (dV (dOp pyIx (dF (dLst (dCons (dVar 3) (dCons (dC (.int 60)) dNil)))) (dFn (d_law_take) (dConsA (dVarV 1) (dConsA (dV (dC (.int 2))) dNilA))))) dNilA)))) [4])) dNil)))
  (dSeq (dAsgG (gT (gCons' (gN 8) (gCons' (gN 9) gNil'))) (dFn (d_fewest_trays) (dConsA (dVarV 3) (dConsA (dVarV 5) dNilA))))
  (dSeq (dIfS (dOrT (dNotT (dTru (dFn (d_law_is_laying) (dConsA (dVarV 3) (dConsA (dVarV 5) (dConsA (dVarV 8) dNilA)))))) (dOrT (dNotT (dTru (dFn (d_law_are_stops) (dConsA (dVarV 3) (dConsA (dVarV 5) (dConsA (dVarV 9) dNilA)))))) (dTst pyNe (dCl pyLen (dCons (dVarO 8) dNil)) (dCl pyLen (dCons (dVarO 9) dNil))))) (dRet (dC (.bool false))) dNext)
  (dSeq (dAsg 14 (dOp pyAdd (dCl pyLen (dCons (dVarO 8) dNil)) (dFn (d_law_take) (dConsA (dVarV 1) (dConsA (dV (dOp pyAdd (dOp pySub (dCl pyLen (dCons (dVarO 5) dNil)) (dCl pyLen (dCons (dVarO 8) dNil))) (dC (.int 1)))) dNilA)))))
  (dSeq (dAsg 18 (dFn (d_even_trays) (dConsA (dVarV 3) (dConsA (dVarV 5) (dConsA (dVarV 14) dNilA)))))
  (dSeq (dAsg 19 (dFn (d_law_widest) (dConsA (dVarV 5) (dConsA (dVarV 18) dNilA))))
  (dSeq (dIfS (dOrT (dNotT (dTru (dFn (d_law_is_laying) (dConsA (dVarV 3) (dConsA (dVarV 5) (dConsA (dVarV 18) dNilA)))))) (dOrT (dTst pyNe (dCl pyLen (dCons (dVarO 18) dNil)) (dVarO 14)) (dTst pyGt (dCl pyLen (dCons (dFn (d_law_filled) (dConsA (dVarV 19) (dConsA (dVarV 5) dNilA))) dNil)) (dVarO 14)))) (dRet (dC (.bool false))) dNext)
  (dRet (dOrV (dOpB pyEq (dVarO 19) (dCl pyMax1 (dCons (dVarO 5) dNil))) (dOpB pyGt (dCl pyLen (dCons (dFn (d_law_filled) (dConsA (dV (dOp pySub (dVarO 19) (dC (.int 1)))) (dConsA (dVarV 5) dNilA))) dNil)) (dVarO 14))))))))))))))
noncomputable def d_law : FD := dFun 1 21 b_law
theorem ok_law {P : Program} {w : World} {K : Frg} {mg : Str → Option Value} {base : Heap} {f : Addr} {fd : FuncData} (T : Tx mg) (F : Fun K "law" "law" s_law f fd) (D_law_tape : Def P w K mg base 1 "_law_tape" (d_law_tape)) (D_fewest_trays : Def P w K mg base 2 "fewest_trays" (d_fewest_trays)) (D_even_trays : Def P w K mg base 3 "even_trays" (d_even_trays)) (D_law_widest : Def P w K mg base 1 "_law_widest" (d_law_widest)) (D_law_filled : Def P w K mg base 1 "_law_filled" (d_law_filled)) (D_law_take : Def P w K mg base 2 "_law_take" (d_law_take)) (D_law_is_laying : Def P w K mg base 3 "_law_is_laying" (d_law_is_laying)) (D_law_are_stops : Def P w K mg base 3 "_law_are_stops" (d_law_are_stops)) (D_law_same : Def P w K mg base 8 "_law_same" (d_law_same 8)) (D_law_spoilt : Def P w K mg base 22 "_law_spoilt" (d_law_spoilt 20)) (D_is_laying : Def P w K mg base 3 "is_laying" (d_is_laying)) (D_are_stops : Def P w K mg base 3 "are_stops" (d_are_stops)) : FnOk P w K mg base CX0 23 f fd ["script"] (spD K d_law) :=
  def_ok F sc_law rfl rfl fun cdv A outer s H E C hr => by
    have nd := sc_law.nd
    exact (ss_cons (s_setV 1 nd (v_fn D_law_tape (hr.mono (by decide)) (by exact (a_cons (v_var 0) a_nil))))
  (ss_cons (s_for PassesOwn.never rfl (by exact (i_rng1 T.g_range (o_of e_int))) (by exact (g_name 2 nd)) (ss_cons (s_set 3 nd (by exact (e_op op_addA r_add (o_of e_int) (o_of (e_fn D_law_take (hr.mono (by decide)) (by exact (a_cons (v_var 1) (a_cons (v_of e_int) a_nil))))))))
  (ss_cons (s_set 5 nd (by exact (e_clT call_tuple_of r_tuple T.g_tuple PyProof.Rows.boot_tuple (by exact (q_cons (o_of (f_of (l_lc rfl nd (by exact (io_of (i_rng1 T.g_range (o_of (e_fn D_law_take (hr.mono (by decide)) (by exact (a_cons (v_var 1) (a_cons (v_of e_int) a_nil)))))))) (blkOk_by (own := [("i", 4)]) (N := N_law) (sc := defScope s_law) (by decide +kernel)) (fun _ _ _ _ _ => (by exact (g_name 4 nd))) (fun _ _ _ _ _ => (by exact ts_nil)) (fun _ _ _ _ _ => (by exact (e_op op_addA r_add (o_of e_int) (o_of (e_fn D_law_take (hr.mono (by decide)) (by exact (a_cons (v_var 1) (a_cons (v_var 3) a_nil))))))))))) q_nil)))))
  (ss_cons (s_set 6 nd (by exact (e_if (t_cmp (op_eqD hr.units) r_eq (nomark _) (o_var 5) (o_of (e_tup (by exact d_nil)))) (f_of (l_lst (by exact (d_cons (e_tup (by exact d_nil)) d_nil)))) (f_of (l_lst (by exact (d_cons (e_tup (by exact (d_cons e_int d_nil))) d_nil)))))))
  (ss_cons (s_for PassesOwn.never rfl (by exact (i_rng2 T.g_range (o_of e_int) (o_of (e_clB call_len r_len T.g_len PySem.boot_len (by exact (q_cons (o_var 5) q_nil)))))) (by exact (g_name 4 nd)) (ss_one (s_set 6 nd (by exact (e_op op_addA r_add (o_var 6) (o_of (f_of (l_lc rfl nd (by exact (i_seqo (o_var 6))) (blkOk_by (own := [("row", 20)]) (N := N_law) (sc := defScope s_law) (by decide +kernel)) (fun _ _ _ _ _ => (by exact (g_name 20 nd))) (fun _ _ _ _ _ => (by exact ts_nil)) (fun _ _ _ _ _ => (by exact (e_op op_addA r_add (o_var 20) (o_of (e_tup (by exact (d_cons (e_var 4) d_nil)))))))))))))))
  (ss_cons (s_setLc 7 rfl nd (sw_true rfl rfl rfl (by decide +kernel)) (by exact (i_seqo (o_var 6))) (blkOk_by (own := [("row", 20)]) (N := N_law) (sc := defScope s_law) (by decide +kernel)) (fun _ _ _ _ _ => (by exact (g_name 20 nd))) (fun _ _ _ _ _ => (by exact (ts_one (t_cmp op_le r_le (nomark _) (o_of (e_fn D_law_widest (hr.mono (by decide)) (by exact (a_cons (v_var 5) (a_cons (v_var 20) a_nil))))) (o_var 3))))) (fun _ _ _ _ _ => (by exact (e_var 20))))
  (ss_fz 7 (ss_cons (s_asgG (by exact (e_fn D_fewest_trays (hr.mono (by decide)) (by exact (a_cons (v_var 3) (a_cons (v_var 5) a_nil))))) (by exact (g_tup rfl (gs_cons (g_name 8 nd) (gs_cons (g_name 9 nd) gs_nil)) (glen_cons (glen_cons glen_nil)))))
  (ss_cons (s_set 10 nd (by exact (e_fn D_law_filled (hr.mono (by decide)) (by exact (a_cons (v_var 3) (a_cons (v_var 5) a_nil))))))
  (ss_cons (s_if (by exact ((w_or (t_not (t_tru (o_of (e_fn D_law_same (hr.mono (by decide)) (by exact (a_cons (v_of (e_tup (by exact (d_cons (e_var 8) (d_cons (e_var 9) d_nil))))) (a_cons (v_of (e_tup (by exact (d_cons (e_var 10) (d_cons (e_var 10) d_nil))))) a_nil))))))) (w_or (t_cmp (op_neD hr.units) r_ne (nomark _) (o_of (e_clB call_len r_len T.g_len PySem.boot_len (by exact (q_cons (o_var 10) q_nil)))) (o_of (e_clB (cr_min1 rfl (u65 hr)) r_m1 T.g_min (by decide +kernel) (by exact (q_cons (o_of (f_of (l_lc rfl nd (by exact (i_seqo (o_var 7))) (blkOk_by (own := [("row", 20)]) (N := N_law) (sc := defScope s_law) (by decide +kernel)) (fun _ _ _ _ _ => (by exact (g_name 20 nd))) (fun _ _ _ _ _ => (by exact ts_nil)) (fun _ _ _ _ _ => (by exact (e_clB call_len r_len T.g_len PySem.boot_len (by exact (q_cons (o_var 20) q_nil)))))))) q_nil))))) (w_or1 (t_not (t_tru (o_of (e_fn D_law_are_stops (hr.mono (by decide)) (by exact (a_cons (v_var 3) (a_cons (v_var 5) (a_cons (v_var 10) a_nil))))))))))).pt)) (ss_one (s_ret (by exact e_bl))) ss_nil)
  (ss_cons (s_for PassesOwn.never rfl (by exact (i_seq (e_op op_addA r_add (o_of (f_of (l_lst (by exact (d_cons (e_var 10) (d_cons (e_rev (o_var 10)) (d_cons (e_sl (o_var 10) (p_some e_int) p_none) (d_cons (e_tupRg T.g_tuple ok_rg1 (rg_1 T.g_range (o_of (e_clB call_len r_len T.g_len PySem.boot_len (by exact (q_cons (o_var 5) q_nil)))))) (d_cons (e_tup (by exact (d_cons e_int d_nil))) (d_cons (e_tup (by exact (d_cons e_int (d_cons (e_clB call_len r_len T.g_len PySem.boot_len (by exact (q_cons (o_var 5) q_nil))) d_nil)))) (d_cons (e_tup (by exact d_nil)) (d_cons e_non (d_cons (e_tup (by exact (d_cons e_bl d_nil))) d_nil))))))))))))) (o_of (f_of (l_lc rfl nd (by exact (io_of (i_rng1 T.g_range (o_of e_int)))) (blkOk_by (own := [("k", 21)]) (N := N_law) (sc := defScope s_law) (by decide +kernel)) (fun _ _ _ _ _ => (by exact (g_name 21 nd))) (fun _ _ _ _ _ => (by exact ts_nil)) (fun _ _ _ _ _ => (by exact (e_fn D_law_spoilt (hr.mono (by decide)) (by exact (a_cons (v_var 1) (a_cons (v_var 10) a_nil)))))))))))) (by exact (g_name 11 nd)) (ss_cons (s_par 12 13 rfl nd (by decide) (by exact (e_fn D_law_is_laying (hr.mono (by decide)) (by exact (a_cons (v_var 3) (a_cons (v_var 5) (a_cons (v_var 11) a_nil)))))) (by exact (e_fn D_law_are_stops (hr.mono (by decide)) (by exact (a_cons (v_var 3) (a_cons (v_var 5) (a_cons (v_var 11) a_nil)))))))
  (ss_cons (s_if (by exact (t_not (t_tru (o_of (e_fn D_law_same (hr.mono (by decide)) (by exact (a_cons (v_of (e_tup (by exact (d_cons (e_fn D_is_laying (hr.mono (by decide)) (by exact (a_cons (v_var 3) (a_cons (v_var 5) (a_cons (v_var 11) a_nil))))) (d_cons (e_fn D_are_stops (hr.mono (by decide)) (by exact (a_cons (v_var 3) (a_cons (v_var 5) (a_cons (v_var 11) a_nil))))) d_nil))))) (a_cons (v_of (e_tup (by exact (d_cons (e_var 12) (d_cons (e_var 13) d_nil))))) a_nil)))))))) (ss_one (s_ret (by exact e_bl))) ss_nil)
  (ss_one (s_if (by exact ((w_or ((w_and (t_tru (o_var 12)) (w_and1 (t_cmp op_lt r_lt (nomark _) (o_of (e_clB call_len r_len T.g_len PySem.boot_len (by exact (q_cons (o_var 11) q_nil)))) (o_of (e_clB call_len r_len T.g_len PySem.boot_len (by exact (q_cons (o_var 10) q_nil))))))).pt) (w_or1 ((w_and (t_tru (o_var 13)) (w_and1 (t_cmp op_gt r_gt (nomark _) (o_of (e_clB call_len r_len T.g_len PySem.boot_len (by exact (q_cons (o_var 11) q_nil)))) (o_of (e_clB call_len r_len T.g_len PySem.boot_len (by exact (q_cons (o_var 10) q_nil))))))).pt))).pt)) (ss_one (s_ret (by exact e_bl))) ss_nil)))))
  (ss_one (s_for PassesOwn.never rfl (by exact (i_rng2 T.g_range (o_of (e_clB call_len r_len T.g_len PySem.boot_len (by exact (q_cons (o_var 10) q_nil)))) (o_of (e_op op_addA r_add (o_of (e_clB call_len r_len T.g_len PySem.boot_len (by exact (q_cons (o_var 5) q_nil)))) (o_of e_int))))) (by exact (g_name 14 nd)) (ss_cons (s_setLc 15 rfl nd (sw_true rfl rfl rfl (by decide +kernel)) (by exact (i_seqo (o_var 6))) (blkOk_by (own := [("row", 20)]) (N := N_law) (sc := defScope s_law) (by decide +kernel)) (fun _ _ _ _ _ => (by exact (g_name 20 nd))) (fun _ _ _ _ _ => (by exact (ts_one (t_cmp (op_eqD hr.units) r_eq (nomark _) (o_of (e_clB call_len r_len T.g_len PySem.boot_len (by exact (q_cons (o_var 20) q_nil)))) (o_var 14))))) (fun _ _ _ _ _ => (by exact (e_var 20))))
  (ss_fz 15 (ss_cons (s_set 16 nd (by exact (e_clB (cr_min1 rfl (u65 hr)) r_m1 T.g_min (by decide +kernel) (by exact (q_cons (o_of (f_of (l_lc rfl nd (by exact (i_seqo (o_var 15))) (blkOk_by (own := [("row", 20)]) (N := N_law) (sc := defScope s_law) (by decide +kernel)) (fun _ _ _ _ _ => (by exact (g_name 20 nd))) (fun _ _ _ _ _ => (by exact ts_nil)) (fun _ _ _ _ _ => (by exact (e_fn D_law_widest (hr.mono (by decide)) (by exact (a_cons (v_var 5) (a_cons (v_var 20) a_nil))))))))) q_nil)))))
  (ss_cons (s_set 17 nd (by exact (e_ix (o_of (f_of (l_clB (cr_sortA (u65 hr)) r_sortA T.g_sorted PyProof.Rows.boot_sorted (by exact (q_cons (o_of (f_of (l_lc rfl nd (by exact (i_seqo (o_var 15))) (blkOk_by (own := [("row", 20)]) (N := N_law) (sc := defScope s_law) (by decide +kernel)) (fun _ _ _ _ _ => (by exact (g_name 20 nd))) (fun _ _ _ _ _ => (by exact (ts_one (t_cmp (op_eqD hr.units) r_eq (nomark _) (o_of (e_fn D_law_widest (hr.mono (by decide)) (by exact (a_cons (v_var 5) (a_cons (v_var 20) a_nil))))) (o_var 16))))) (fun _ _ _ _ _ => (by exact (e_var 20)))))) q_nil))))) (o_of e_int))))
  (ss_one (s_if (by exact ((w_or (t_not (t_tru (o_of (e_fn D_law_same (hr.mono (by decide)) (by exact (a_cons (v_of (e_fn D_even_trays (hr.mono (by decide)) (by exact (a_cons (v_var 3) (a_cons (v_var 5) (a_cons (v_var 14) a_nil)))))) (a_cons (v_var 17) a_nil))))))) (w_or1 ((w_and (t_cmp (op_neD hr.units) r_ne (nomark _) (o_var 5) (o_of (e_tup (by exact d_nil)))) (w_and1 ((w_or (t_cmp op_gt r_gt (nomark _) (o_of (e_clB call_len r_len T.g_len PySem.boot_len (by exact (q_cons (o_of (e_fn D_law_filled (hr.mono (by decide)) (by exact (a_cons (v_var 16) (a_cons (v_var 5) a_nil))))) q_nil)))) (o_var 14)) (w_or1 ((w_and (t_cmp op_gt r_gt (nomark _) (o_var 16) (o_of (e_clB (cr_max1 rfl (u65 hr)) r_m1 T.g_max (by decide +kernel) (by exact (q_cons (o_var 5) q_nil))))) (w_and1 (t_cmp op_le r_le (nomark _) (o_of (e_clB call_len r_len T.g_len PySem.boot_len (by exact (q_cons (o_of (e_fn D_law_filled (hr.mono (by decide)) (by exact (a_cons (v_of (e_op op_sub r_sub (o_var 16) (o_of e_int))) (a_cons (v_var 5) a_nil))))) q_nil)))) (o_var 14)))).pt))).pt))).pt))).pt)) (ss_one (s_ret (by exact e_bl))) ss_nil)))))))))))))))))))
  (ss_cons (s_set 3 nd (by exact (e_op op_addA r_add (o_of e_int) (o_of (e_fn D_law_take (hr.mono (by decide)) (by exact (a_cons (v_var 1) (a_cons (v_of e_int) a_nil))))))))
  (ss_cons (s_set 5 nd (by exact (e_clT call_tuple_of r_tuple T.g_tuple PyProof.Rows.boot_tuple (by exact (q_cons (o_of (f_of (l_lc rfl nd (by exact (io_of (i_rng1 T.g_range (o_of (e_op op_addA r_add (o_of e_int) (o_of (e_fn D_law_take (hr.mono (by decide)) (by exact (a_cons (v_var 1) (a_cons (v_of e_int) a_nil)))))))))) (blkOk_by (own := [("i", 4)]) (N := N_law) (sc := defScope s_law) (by decide +kernel)) (fun _ _ _ _ _ => (by exact (g_name 4 nd))) (fun _ _ _ _ _ => (by exact ts_nil)) (fun _ _ _ _ _ => (by exact (e_op op_addA r_add (o_of e_int) (o_of (e_fn D_law_take (hr.mono (by decide)) (by exact (a_cons (v_var 1) (a_cons (v_of (e_ix (o_of (f_of (l_lst (by exact (d_cons (e_var 3) (d_cons e_int d_nil)))))) (o_of (e_fn D_law_take (hr.mono (by decide)) (by exact (a_cons (v_var 1) (a_cons (v_of e_int) a_nil))))))) a_nil))))))))))) q_nil)))))
  (ss_cons (s_asgG (by exact (e_fn D_fewest_trays (hr.mono (by decide)) (by exact (a_cons (v_var 3) (a_cons (v_var 5) a_nil))))) (by exact (g_tup rfl (gs_cons (g_name 8 nd) (gs_cons (g_name 9 nd) gs_nil)) (glen_cons (glen_cons glen_nil)))))
  (ss_cons (s_if (by exact ((w_or (t_not (t_tru (o_of (e_fn D_law_is_laying (hr.mono (by decide)) (by exact (a_cons (v_var 3) (a_cons (v_var 5) (a_cons (v_var 8) a_nil)))))))) (w_or (t_not (t_tru (o_of (e_fn D_law_are_stops (hr.mono (by decide)) (by exact (a_cons (v_var 3) (a_cons (v_var 5) (a_cons (v_var 9) a_nil)))))))) (w_or1 (t_cmp (op_neD hr.units) r_ne (nomark _) (o_of (e_clB call_len r_len T.g_len PySem.boot_len (by exact (q_cons (o_var 8) q_nil)))) (o_of (e_clB call_len r_len T.g_len PySem.boot_len (by exact (q_cons (o_var 9) q_nil)))))))).pt)) (ss_one (s_ret (by exact e_bl))) ss_nil)
  (ss_cons (s_set 14 nd (by exact (e_op op_addA r_add (o_of (e_clB call_len r_len T.g_len PySem.boot_len (by exact (q_cons (o_var 8) q_nil)))) (o_of (e_fn D_law_take (hr.mono (by decide)) (by exact (a_cons (v_var 1) (a_cons (v_of (e_op op_addA r_add (o_of (e_op op_sub r_sub (o_of (e_clB call_len r_len T.g_len PySem.boot_len (by exact (q_cons (o_var 5) q_nil)))) (o_of (e_clB call_len r_len T.g_len PySem.boot_len (by exact (q_cons (o_var 8) q_nil)))))) (o_of e_int))) a_nil))))))))
  (ss_cons (s_set 18 nd (by exact (e_fn D_even_trays (hr.mono (by decide)) (by exact (a_cons (v_var 3) (a_cons (v_var 5) (a_cons (v_var 14) a_nil)))))))
  (ss_cons (s_set 19 nd (by exact (e_fn D_law_widest (hr.mono (by decide)) (by exact (a_cons (v_var 5) (a_cons (v_var 18) a_nil))))))
  (ss_cons (s_if (by exact ((w_or (t_not (t_tru (o_of (e_fn D_law_is_laying (hr.mono (by decide)) (by exact (a_cons (v_var 3) (a_cons (v_var 5) (a_cons (v_var 18) a_nil)))))))) (w_or (t_cmp (op_neD hr.units) r_ne (nomark _) (o_of (e_clB call_len r_len T.g_len PySem.boot_len (by exact (q_cons (o_var 18) q_nil)))) (o_var 14)) (w_or1 (t_cmp op_gt r_gt (nomark _) (o_of (e_clB call_len r_len T.g_len PySem.boot_len (by exact (q_cons (o_of (e_fn D_law_filled (hr.mono (by decide)) (by exact (a_cons (v_var 19) (a_cons (v_var 5) a_nil))))) q_nil)))) (o_var 14))))).pt)) (ss_one (s_ret (by exact e_bl))) ss_nil)
  (ss_one (s_ret (by exact (e_or (by exact (e_cmp (op_eqD hr.units) r_eq (nomark _) (o_var 19) (o_of (e_clB (cr_max1 rfl (u65 hr)) r_m1 T.g_max (by decide +kernel) (by exact (q_cons (o_var 5) q_nil)))))) (by exact (e_one (by exact (e_cmp op_gt r_gt (nomark _) (o_of (e_clB call_len r_len T.g_len PySem.boot_len (by exact (q_cons (o_of (e_fn D_law_filled (hr.mono (by decide)) (by exact (a_cons (v_of (e_op op_sub r_sub (o_var 19) (o_of e_int))) (a_cons (v_var 5) a_nil))))) q_nil)))) (o_var 14)))))))))))))))))))
end Dn

set_option Elab.async false
set_option linter.all false
set_option autoImplicit false
set_option maxRecDepth 100000
set_option maxHeartbeats 1000000
namespace Dn
open PySem
section
variable {da db dc : DE} {la lb : DL} {sl : Sl} {B B1 : Bx} {x y z : PyData} {xs ys : List PyData} {f g : PyData → PyData → Option Bool} {i j : Nat}
def kChn4 (g : PyData → PyData → Option Bool) (y : PyData) : OE → Option (Bool × Bx)
  | some (z, B) => (g y z).map fun t => (t, B)
  | none => none
def kChn3 (g : PyData → PyData → Option Bool) (y : PyData) (dc : DE) (sl : Sl) (B : Bx) : Option Bool → Option (Bool × Bx)
  | some true => kChn4 g y (dc sl B)
  | some false => some (false, B)
  | none => none
def kChn2 (f g : PyData → PyData → Option Bool) (x : PyData) (dc : DE) (sl : Sl) : OE → Option (Bool × Bx)
  | some (y, B) => kChn3 g y dc sl B (f x y)
  | none => none
def kChn1 (f g : PyData → PyData → Option Bool) (db dc : DE) (sl : Sl) : OE → Option (Bool × Bx)
  | some (x, B) => kChn2 f g x dc sl (db sl B)
  | none => none
theorem k_chn : dChn f g da db dc sl B = kChn1 f g db dc sl (da sl B) := by
  unfold dChn kChn1
  cases da sl B with
  | none => rfl
  | some p =>
    obtain ⟨x, B1⟩ := p
    show (db sl B1).bind _ = kChn2 f g x dc sl (db sl B1)
    unfold kChn2
    cases db sl B1 with
    | none => rfl
    | some q =>
      obtain ⟨y, B2⟩ := q
      show (f x y).bind _ = kChn3 g y dc sl B2 (f x y)
      unfold kChn3
      cases f x y with
      | none => rfl
      | some t =>
        cases t with
        | false => rfl
        | true =>
          show (dc sl B2).bind _ = kChn4 g y (dc sl B2)
          unfold kChn4
          cases dc sl B2 with
          | none => rfl
          | some r => rfl
theorem k_chn1 : kChn1 f g db dc sl (some (x, B)) = kChn2 f g x dc sl (db sl B) := id rfl
theorem k_chn2 : kChn2 f g x dc sl (some (y, B)) = kChn3 g y dc sl B (f x y) := id rfl
theorem k_chn3t : kChn3 g y dc sl B (some true) = kChn4 g y (dc sl B) := id rfl
theorem k_chn3f : kChn3 g y dc sl B (some false) = some (false, B) := id rfl
def kTFo (B : Bx) : Option Bool → Option (Bool × Bx)
  | some t => some (t, B)
  | none => none
theorem k_chn4 : kChn4 g y (some (z, B)) = kTFo B (g y z) := by
  show (g y z).map _ = kTFo B (g y z)
  cases g y z <;> rfl
theorem k_tfo {b : Bool} : kTFo B (some b) = some (b, B) := id rfl
def kChB : Option (Bool × Bx) → OE
  | some (t, B) => some (.bool t, B)
  | none => none
theorem k_chnB : dChnB f g da db dc sl B = kChB (dChn f g da db dc sl B) := by
  unfold dChnB kChB
  cases dChn f g da db dc sl B <;> rfl
theorem k_chB {b : Bool} : kChB (some (b, B)) = some (.bool b, B) := id rfl
def kRev : OE → OE
  | some (.tuple xs, B) => some (.tuple xs.reverse, B)
  | _ => none
theorem k_rev : dRev da sl B = kRev (da sl B) := by
  unfold dRev kRev
  cases da sl B with
  | none => rfl
  | some p => obtain ⟨x, B1⟩ := p; cases x <;> rfl
theorem k_rev1 : kRev (some (.tuple xs, B)) = some (.tuple xs.reverse, B) := id rfl
def kRevL : OE → Option (List PyData × Bx)
  | some (.list xs, B) => some (xs.reverse, B)
  | _ => none
theorem k_revL : dRevL da sl B = kRevL (da sl B) := by
  unfold dRevL kRevL
  cases da sl B with
  | none => rfl
  | some p => obtain ⟨x, B1⟩ := p; cases x <;> rfl
theorem k_revL1 : kRevL (some (.list xs, B)) = some (xs.reverse, B) := id rfl
def kRg1 : OE → Option ((Int × Int) × Bx)
  | some (.int n, B) => if rgOk 0 n = true then some ((0, n), B) else none
  | _ => none
theorem k_rg1 : dRg1 da sl B = kRg1 (da sl B) := by
  unfold dRg1 kRg1
  cases da sl B with
  | none => rfl
  | some p => obtain ⟨x, B1⟩ := p; cases x <;> rfl
theorem k_rg1' {n : Int} (h : rgOk 0 n = true) : kRg1 (some (.int n, B)) = some ((0, n), B) := if_pos h
def kTupRg : Option ((Int × Int) × Bx) → OE
  | some ((a, b), B) => some (.tuple (rgD a b), B)
  | none => none
theorem k_tupRg {r : Sl → Bx → Option ((Int × Int) × Bx)} : dTupRg r sl B = kTupRg (r sl B) := by
  unfold dTupRg kTupRg
  cases r sl B <;> rfl
theorem k_tupRg1 {a b : Int} : kTupRg (some ((a, b), B)) = some (.tuple (rgD a b), B) := id rfl
def kLstRg : Option ((Int × Int) × Bx) → Option (List PyData × Bx)
  | some ((a, b), B) => some (rgD a b, B)
  | none => none
theorem k_lstRg {r : Sl → Bx → Option ((Int × Int) × Bx)} : dLstRg r sl B = kLstRg (r sl B) := by
  unfold dLstRg kLstRg
  cases r sl B <;> rfl
theorem k_lstRg1 {a b : Int} : kLstRg (some ((a, b), B)) = some (rgD a b, B) := id rfl
def kSrt : OE → Option (List PyData × Bx)
  | some (.tuple xs, B) => (intsOf xs).bind fun ns => if ns.length < 64 then some ((sdI ns).map PyData.int, B) else none
  | _ => none
theorem k_srt : dSrtSet da sl B = kSrt (da sl B) := by
  unfold dSrtSet kSrt
  cases da sl B with
  | none => rfl
  | some p => obtain ⟨x, B1⟩ := p; cases x <;> rfl
theorem k_srt1 {ns : List Int} (h : ns.length < 64) : kSrt (some (.tuple (ns.map PyData.int), B)) = some ((sdI ns).map PyData.int, B) := by
  show (intsOf (ns.map PyData.int)).bind _ = _
  rw [intsOf_map]
  exact if_pos h
def kPLE (i j : Nat) (db : DE) (sl : Sl) : Option (List PyData × Bx) → Option Out
  | some (xs, B) => match db sl B with
    | some (y, B2) => some (.nx ((sl.set i (some (.own xs))).set j (some (.dat y))) B2)
    | none => none
  | none => none
theorem k_parLE : dParLE i j la db sl B = kPLE i j db sl (la sl B) := by
  unfold dParLE kPLE
  cases la sl B with
  | none => rfl
  | some p =>
    obtain ⟨x, B1⟩ := p
    show (db sl B1).map _ = (match db sl B1 with | some (y, B2) => _ | none => _)
    cases db sl B1 with
    | none => rfl
    | some q => rfl
def kPLE2 (i j : Nat) (sl : Sl) (xs : List PyData) : OE → Option Out
  | some (y, B2) => some (.nx ((sl.set i (some (.own xs))).set j (some (.dat y))) B2)
  | none => none
theorem k_parLE1 : kPLE i j db sl (some (xs, B)) = kPLE2 i j sl xs (db sl B) := by
  unfold kPLE2
  show (match db sl B with | some (y, B2) => _ | none => _) = _
  cases db sl B <;> rfl
theorem k_parLE2 : kPLE2 i j sl xs (some (y, B)) = some (.nx ((sl.set i (some (.own xs))).set j (some (.dat y))) B) := id rfl
end
section
variable {da : DE} {sl : Sl} {B : Bx}
def kAugA (f : Int → Int → Int) (i : Nat) (da : DE) (sl : Sl) (B : Bx) : Option (Option Sv) → Option Out
  | some (some (.dat (.int a))) => kAug f i sl a (da sl B)
  | _ => none
theorem k_augA {f : Int → Int → Int} {i : Nat} : dAug f i da sl B = kAugA f i da sl B (sl[i]?) := by
  cases h : sl[i]? with
  | none => unfold dAug; rw [h]; rfl
  | some u =>
    cases u with
    | none => unfold dAug; rw [h]; rfl
    | some v =>
      cases v with
      | dat d =>
        cases d with
        | int a => exact k_aug h
        | _ => unfold dAug; rw [h]; rfl
      | _ => unfold dAug; rw [h]; rfl
theorem k_augA1 {f : Int → Int → Int} {i : Nat} {a : Int} : kAugA f i da sl B (some (some (.dat (.int a)))) = kAug f i sl a (da sl B) := id rfl
end
/-! the tape: place, number, seed -/
section
variable {cs : List Int} {c p x y n : Int} {on : Bool} {sl : Sl}
theorem t_bg1 : dBget 0 1 (some .box :: sl) ⟨cs, [p, x, y], on⟩ = some (.int p, ⟨cs, [p, x, y], on⟩) := id rfl
theorem t_bg2 : dBget 0 2 (some .box :: sl) ⟨cs, [p, x, y], on⟩ = some (.int x, ⟨cs, [p, x, y], on⟩) := id rfl
theorem t_bg3 : dBget 0 3 (some .box :: sl) ⟨cs, [p, x, y], on⟩ = some (.int y, ⟨cs, [p, x, y], on⟩) := id rfl
theorem t_bs1 : kBset 0 1 (some .box :: sl) (some (.int n, ⟨cs, [p, x, y], on⟩)) = some (.nx (some .box :: sl) ⟨cs, [n, x, y], on⟩) := id rfl
theorem t_bs2 : kBset 0 2 (some .box :: sl) (some (.int n, ⟨cs, [p, x, y], on⟩)) = some (.nx (some .box :: sl) ⟨cs, [p, n, y], on⟩) := id rfl
theorem t_bs3 : kBset 0 3 (some .box :: sl) (some (.int n, ⟨cs, [p, x, y], on⟩)) = some (.nx (some .box :: sl) ⟨cs, [p, x, n], on⟩) := id rfl
theorem t_bc : dBcells 0 (some .box :: sl) ⟨cs, [p, x, y], on⟩ = some (.cells, ⟨cs, [p, x, y], on⟩) := id rfl
end
def TI (B : Bx) : Prop := ∃ cs p x y, B = ⟨cs, [p, x, y], true⟩ ∧ 0 ≤ p ∧ 0 ≤ x ∧ 0 ≤ y
end Dn

set_option Elab.async false
set_option linter.all false
set_option autoImplicit false
set_option maxRecDepth 100000
set_option maxHeartbeats 4000000
namespace Dn
/-! ## trays: plain laws -/
namespace Tr
def P (ws : List Nat) (i : Nat) : Nat := (ws.take i).sum
theorem P_zero (ws : List Nat) : P ws 0 = 0 := rfl
theorem P_succ (ws : List Nat) (i : Nat) (h : i < ws.length) : P ws (i + 1) = P ws i + ws.getD i 0 := by
  unfold P
  rw [List.take_succ, List.getElem?_eq_getElem h, List.sum_append, List.getD_eq_getElem?_getD, List.getElem?_eq_getElem h]
  rfl
theorem P_step (ws : List Nat) (i : Nat) : P ws i ≤ P ws (i + 1) := by
  rcases Nat.lt_or_ge i ws.length with h | h
  · rw [P_succ ws i h]; omega
  · unfold P
    rw [List.take_of_length_le h, List.take_of_length_le (by omega)]
    exact Nat.le_refl _
theorem P_mono (ws : List Nat) {i j : Nat} (h : i ≤ j) : P ws i ≤ P ws j := by
  induction j with
  | zero =>
    have : i = 0 := by omega
    rw [this]; exact Nat.le_refl _
  | succ j ih =>
    rcases Nat.lt_or_ge j i with z | z
    · have : i = j + 1 := by omega
      rw [this]; exact Nat.le_refl _
    · exact Nat.le_trans (ih z) (P_step ws j)
theorem snoc_lt {d : List Nat} {a k : Nat} (h : k < d.length) : (d ++ [a]).getD k 0 = d.getD k 0 := by
  rw [List.getD_eq_getElem?_getD, List.getD_eq_getElem?_getD, List.getElem?_append_left h]
theorem snoc_eq {d : List Nat} {a : Nat} : (d ++ [a]).getD d.length 0 = a := by
  rw [List.getD_eq_getElem?_getD, List.getElem?_append_right (Nat.le_refl _), Nat.sub_self]
  rfl
/-- trays that fit, from 0 on -/
structure Lay (w : Nat) (ws : List Nat) (n : Nat) (d : List Nat) : Prop where
  ne : 0 < n → 0 < d.length
  z : 0 < d.length → d.getD 0 0 = 0
  up : ∀ k, k + 1 < d.length → d.getD k 0 < d.getD (k + 1) 0
  lt : ∀ k, k < d.length → d.getD k 0 < n
  fit : ∀ k, k + 1 < d.length → P ws (d.getD (k + 1) 0) ≤ P ws (d.getD k 0) + w
  last : 0 < d.length → P ws n ≤ P ws (d.getD (d.length - 1) 0) + w
/-- each is told to be too much for the tray of the one before -/
structure Stops (w : Nat) (ws : List Nat) (n : Nat) (d : List Nat) : Prop where
  up : ∀ k, k + 1 < d.length → d.getD k 0 < d.getD (k + 1) 0
  lt : ∀ k, k < d.length → d.getD k 0 < n
  stop : ∀ k, k + 1 < d.length → P ws (d.getD k 0) + w < P ws (d.getD (k + 1) 0 + 1)
theorem stops_le_lay {w n : Nat} {ws d r : List Nat} (hs : Stops w ws n d) (hl : Lay w ws n r) : d.length ≤ r.length := by
  have key : ∀ j, j < d.length → j < r.length ∧ r.getD j 0 ≤ d.getD j 0 := by
    intro j
    induction j with
    | zero =>
      intro h
      have h0 := hs.lt 0 h
      have hr := hl.ne (by omega)
      rw [hl.z hr]
      exact ⟨hr, Nat.zero_le _⟩
    | succ j ih =>
      intro h
      obtain ⟨h1, h2⟩ := ih (by omega)
      have st := hs.stop j h
      have m1 := P_mono ws h2
      have lt := hs.lt (j + 1) h
      have hlen : j + 1 < r.length := by
        rcases Nat.lt_or_ge (j + 1) r.length with z | z
        · exact z
        · have e : r.length - 1 = j := by omega
          have la := hl.last (by omega)
          rw [e] at la
          have m2 := P_mono ws (show d.getD (j + 1) 0 + 1 ≤ n by omega)
          omega
      refine ⟨hlen, ?_⟩
      have ft := hl.fit j hlen
      rcases Nat.lt_or_ge (d.getD (j + 1) 0) (r.getD (j + 1) 0) with z | z
      · have m2 := P_mono ws (show d.getD (j + 1) 0 + 1 ≤ r.getD (j + 1) 0 by omega)
        omega
      · exact z
  rcases Nat.lt_or_ge r.length d.length with z | z
  · have := (key r.length z).1
    omega
  · exact z
/-- filling in order: found, left behind i things -/
def fs (w : Int) (ws : List Nat) : Nat → List Nat × Int
  | 0 => ([], 0)
  | i + 1 => if (fs w ws i).1 = [] ∨ (fs w ws i).2 < (ws.getD i 0 : Nat) then ((fs w ws i).1 ++ [i], w - (ws.getD i 0 : Nat)) else ((fs w ws i).1, (fs w ws i).2 - (ws.getD i 0 : Nat))
def filled (w : Int) (ws : List Nat) : List Nat := (fs w ws ws.length).1
theorem fs_inv {w : Nat} {ws : List Nat} (hw : ∀ x ∈ ws, x ≤ w) : ∀ i, i ≤ ws.length → Lay w ws i (fs w ws i).1 ∧ Stops w ws i (fs w ws i).1 ∧ (0 < i → (fs w ws i).2 + P ws i = w + P ws ((fs w ws i).1.getD ((fs w ws i).1.length - 1) 0)) := by
  intro i
  induction i with
  | zero =>
    intro _
    refine ⟨⟨by omega, ?_, ?_, ?_, ?_, ?_⟩, ⟨?_, ?_, ?_⟩, by omega⟩ <;> intro <;> simp_all [fs]
  | succ i ih =>
    intro hi
    obtain ⟨hl, hs, hq⟩ := ih (by omega)
    have hx : ws.getD i 0 ≤ w := by
      rw [List.getD_eq_getElem?_getD, List.getElem?_eq_getElem (by omega)]
      exact hw _ (List.getElem_mem _)
    have hP := P_succ ws i (by omega)
    unfold fs
    generalize ws.getD i 0 = x at *
    generalize he : fs (w : Int) ws i = fl at *
    obtain ⟨d, l⟩ := fl
    simp only at hl hs hq ⊢
    by_cases hd : d = []
    · subst hd
      have hi0 : i = 0 := by
        rcases Nat.eq_zero_or_pos i with z | z
        · exact z
        · exact absurd (hl.ne z) (by simp)
      subst hi0
      rw [if_pos (.inl rfl)]
      simp only [List.nil_append]
      rw [P_zero] at hP
      refine ⟨⟨fun _ => by simp, fun _ => rfl, fun k hk => ?_, fun k hk => ?_, fun k hk => ?_, fun _ => ?_⟩, ⟨fun k hk => ?_, fun k hk => ?_, fun k hk => ?_⟩, fun _ => ?_⟩
      · simp at hk
      · simp at hk; subst hk; simp
      · simp at hk
      · show P ws (0 + 1) ≤ P ws 0 + w
        rw [P_zero]; omega
      · simp at hk
      · simp at hk; subst hk; simp
      · simp at hk
      · show (w : Int) - x + P ws (0 + 1) = w + P ws 0
        rw [P_zero]; omega
    · have hlen : 0 < d.length := List.length_pos_iff.mpr hd
      have hi1 : 0 < i := by
        have := hl.lt 0 hlen
        omega
      have hq := hq hi1
      have la := hl.last hlen
      by_cases hc : l < x
      · rw [if_pos (.inr hc)]
        simp only
        have hstop : P ws (d.getD (d.length - 1) 0) + w < P ws (i + 1) := by omega
        have pair : ∀ k, k + 1 < (d ++ [i]).length → (k + 1 < d.length ∧ (d ++ [i]).getD k 0 = d.getD k 0 ∧ (d ++ [i]).getD (k + 1) 0 = d.getD (k + 1) 0) ∨ (k + 1 = d.length ∧ (d ++ [i]).getD k 0 = d.getD (d.length - 1) 0 ∧ (d ++ [i]).getD (k + 1) 0 = i) := by
          intro k hk
          rw [List.length_append, List.length_singleton] at hk
          rcases Nat.lt_or_ge (k + 1) d.length with z | z
          · exact .inl ⟨z, snoc_lt (by omega), snoc_lt z⟩
          · have e : k + 1 = d.length := by omega
            refine .inr ⟨e, ?_, ?_⟩
            · rw [snoc_lt (by omega)]; congr 1; omega
            · rw [e]; exact snoc_eq
        have each : ∀ k, k < (d ++ [i]).length → (k < d.length ∧ (d ++ [i]).getD k 0 = d.getD k 0) ∨ (d ++ [i]).getD k 0 = i := by
          intro k hk
          rw [List.length_append, List.length_singleton] at hk
          rcases Nat.lt_or_ge k d.length with z | z
          · exact .inl ⟨z, snoc_lt z⟩
          · have e : k = d.length := by omega
            exact .inr (by rw [e]; exact snoc_eq)
        have el : (d ++ [i]).getD ((d ++ [i]).length - 1) 0 = i := by
          rw [List.length_append, List.length_singleton, Nat.add_sub_cancel]; exact snoc_eq
        have up : ∀ k, k + 1 < (d ++ [i]).length → (d ++ [i]).getD k 0 < (d ++ [i]).getD (k + 1) 0 := fun k hk => by
          rcases pair k hk with ⟨h1, h2, h3⟩ | ⟨h1, h2, h3⟩
          · rw [h2, h3]; exact hl.up k h1
          · rw [h2, h3]; exact hl.lt _ (by omega)
        have lt : ∀ k, k < (d ++ [i]).length → (d ++ [i]).getD k 0 < i + 1 := fun k hk => by
          rcases each k hk with ⟨h1, h2⟩ | h2
          · rw [h2]; have := hl.lt k h1; omega
          · rw [h2]; omega
        refine ⟨⟨fun _ => by simp, fun _ => ?_, up, lt, fun k hk => ?_, fun _ => ?_⟩, ⟨up, lt, fun k hk => ?_⟩, fun _ => ?_⟩
        · rw [snoc_lt hlen]; exact hl.z hlen
        · rcases pair k hk with ⟨h1, h2, h3⟩ | ⟨h1, h2, h3⟩
          · rw [h2, h3]; exact hl.fit k h1
          · rw [h2, h3]; exact la
        · rw [el]; omega
        · rcases pair k hk with ⟨h1, h2, h3⟩ | ⟨h1, h2, h3⟩
          · rw [h2, h3]; exact hs.stop k h1
          · rw [h2, h3]; exact hstop
        · rw [el]; omega
      · rw [if_neg (by rintro (z | z); exact hd z; exact hc z)]
        simp only
        refine ⟨⟨fun _ => hlen, hl.z, hl.up, fun k hk => ?_, hl.fit, fun _ => ?_⟩, ⟨hs.up, fun k hk => ?_, hs.stop⟩, fun _ => ?_⟩
        · have := hl.lt k hk; omega
        · omega
        · have := hs.lt k hk; omega
        · omega
theorem filled_lay {w : Nat} {ws : List Nat} (hw : ∀ x ∈ ws, x ≤ w) : Lay w ws ws.length (filled w ws) := (fs_inv hw ws.length (Nat.le_refl _)).1
theorem filled_stops {w : Nat} {ws : List Nat} (hw : ∀ x ∈ ws, x ≤ w) : Stops w ws ws.length (filled w ws) := (fs_inv hw ws.length (Nat.le_refl _)).2.1
end Tr
end Dn

-- dk2
set_option Elab.async false
set_option linter.all false
set_option autoImplicit false
set_option maxRecDepth 100000
set_option maxHeartbeats 4000000
set_option exponentiation.threshold 100000
namespace Dn
open PySem
def mixV (n : Int) : Int := (((n * 6364136223846793005 + 1442695040888963407) % 18446744073709551616) * ((n * 6364136223846793005 + 1442695040888963407) % 18446744073709551616) / 4294967296 + ((n * 6364136223846793005 + 1442695040888963407) % 18446744073709551616) * 69621) % 18446744073709551557
theorem em_nn (a : Int) {b : Int} (h : 0 < b) : 0 ≤ a % b ∧ a % b < b := ⟨Int.emod_nonneg a (by omega), Int.emod_lt_of_pos a h⟩
theorem mixV_nn (n : Int) : 0 ≤ mixV n := (em_nn _ (by decide)).1
theorem log_lit : (4294967296 : Int).natAbs.log2 < 9000 := by decide
theorem sp_mix (n : Int) (B : Bx) : d_law_mix [.dat (.int n)] B = some (.dat (.int (mixV n)), B) := by
  have h1 := em_nn (n * 6364136223846793005 + 1442695040888963407) (b := 18446744073709551616) (by decide)
  unfold mixV
  generalize e1 : (n * 6364136223846793005 + 1442695040888963407) % 18446744073709551616 = m at *
  simp only [k_dC, k_var_ap, k_varO_ap, k_varV_ap, k_op, k_op1, k_op2, k_fin, k_tst, k_t1, k_t2, k_tF, k_opB, k_B, k_neg, k_neg1, k_andT, k_orT, k_notT, k_and1, k_and0, k_or1, k_or0, k_not1, k_tru, k_tru1, k_andV, k_orV, k_notV, k_andV1, k_andV0, k_orV1, k_orV0, k_notV1, k_if, k_if1, k_if0, k_ifD, k_nil, k_cons, k_cons1, k_cons2, k_nilA, k_consA, k_consA1, k_consA2, k_V, k_V1, k_F, k_F1, k_tup, k_tup1, k_lst, k_lst1, k_cl, k_cl1, k_clL, k_clL1, k_finL, k_isi, k_isi1, k_fn, k_fn1, k_dat, k_fnV, k_fnV1, k_seqI, k_seqI1, k_seqI2, k_rng1, k_rng1', k_rng2, k_rng2a, k_rng2b, k_enum, k_enum1, k_zip, k_zip1, k_zip2, k_P, k_P1, k_noP, k_sl, k_sl1, k_sl2, k_sl3, k_cmp, k_cmp1, k_yes, k_seq, k_seq1, k_seq2, k_seq3, k_seq4, k_next, k_brk, k_cont, k_retN, k_asg, k_asg1, k_asgV, k_asgV1, k_asgV2, k_asgV3, k_asgO, k_asgO1, k_asgG, k_asgG1, k_nx, k_gN, k_gT, k_gC, k_g1, k_g0, k_par, k_par1, k_par2, k_drop, k_drop1, k_ret, k_ret1, k_retV, k_retV1, k_ifS, k_ifS1, k_ifS0, k_ifSD, k_fz_ap, k_app, k_app1, k_for, k_for1, k_aug1, k_fun1, k_fun2, k_idx, k_idx1, k_idx2, k_lenC, k_lenC1, k_popC, k_bset, k_getC, k_getC1, k_getC2, k_at0, k_at1, k_at2, k_bg1, k_bg2, k_bs1, k_bs2, k_bc, k_pop1, k_chn, k_chn1, k_chn2, k_chn3t, k_chn3f, k_chn4, k_tfo, k_chnB, k_chB, k_rev, k_rev1, k_revL, k_revL1, k_rg1, k_rg1', k_tupRg, k_tupRg1, k_lstRg, k_lstRg1, k_srt, k_srt1, k_parLE, k_parLE1, k_parLE2, k_augA, k_augA1, sz0, sz1, sz2, sz3, sz4, sz5, sz6, k_fun, eqI, neI, addI, subI, ltI, leI, gtI, geI, truD, isTy, tyName, pyLen, pyAbs, pyMin2, pyMax2, pyInt, pyTuple, pyList, pyIx, pyIs, pyIsNot, isNon, nown, wipeD, Option.map_some, List.getElem?_cons_zero, List.getElem?_cons_succ, List.set_cons_zero, List.set_cons_succ, List.map_cons, List.map_nil, List.cons_append, List.nil_append, List.length_cons, List.length_nil, List.all_cons, List.all_nil, List.replicate_succ, List.replicate_zero, Bool.and_true, Bool.true_and, Bool.and_self, Bool.not_true, Bool.not_false, and_self, and_true, true_and, if_true, if_false, reduceIte, reduceCtorEq, decide_true, decide_false, Bool.false_eq_true, Nat.reduceAdd, Nat.reduceEqDiff, d_law_mix, b_law_mix, mulI (mulOk_r (j := 6364136223846793005) (by decide) (by decide)), mulI (mulOk_r (j := 69621) (by decide) (by decide)), modI (j := 18446744073709551616) (by decide), modI (j := 18446744073709551557) (by decide), e1, mulI (mulOk_l (i := m) (j := m) (by omega) (by omega)), divI (j := 4294967296) (by decide) log_lit]
theorem sp_take (many : Int) (B : Bx) (hb : TI B) (h0 : 0 < many) (h1 : many < 1000000) : ∃ r B', TI B' ∧ 0 ≤ r ∧ r < many ∧ d_law_take [.box, .dat (.int many)] B = some (.dat (.int r), B') := by
  obtain ⟨cs, p, x, y, rfl, hp, hx, hy⟩ := hb
  have hl : many.natAbs.log2 < 9000 := Nat.lt_trans (log2_small (n := many.natAbs) (k := 20) (by omega) (by decide)) (by decide)
  by_cases hlt : x < many
  · have hq : (x < many) = True := eq_true hlt
    by_cases hc : p < cs.length
    · have hq2 : (p < (cs.length : Int)) = True := eq_true hc
      obtain ⟨n, rfl⟩ := Int.eq_ofNat_of_zero_le hp
      have hn : n < cs.length := by omega
      have ha := at_nat hn
      generalize cs[n] = c at ha
      have hpow : pyPow (.int 10) (.int 18) = some (.int 1000000000000000000) := by rfl
      have fin : ∀ (cell : Int), 0 ≤ cell → (∀ z : Int, True) → ∃ x2 : Int, 0 ≤ x2 ∧ (if 1000000000000000000 ≤ cell then cell else mixV (mixV cell + ((n : Int) + 1))) = x2 := fun cell h _ => by
        refine ⟨_, ?_, rfl⟩
        split
        · exact h
        · exact mixV_nn _
      by_cases hcc : 0 ≤ c
      · obtain ⟨x2, hx2, ex⟩ := fin (2 * c) (by omega) (fun _ => trivial)
        refine ⟨x2 % many, _, ⟨cs, (n : Int) + 1, x2 / many, mixV (y + 2 * c), rfl, by omega, Int.ediv_nonneg hx2 (by omega), mixV_nn _⟩, (em_nn x2 h0).1, (em_nn x2 h0).2, ?_⟩
        have hq3 : (0 ≤ c) = True := eq_true hcc
        by_cases hbig : 1000000000000000000 ≤ 2 * c
        · rw [if_pos hbig] at ex
          subst ex
          have hq4 := eq_true hbig
          simp only [k_dC, k_var_ap, k_varO_ap, k_varV_ap, k_op, k_op1, k_op2, k_fin, k_tst, k_t1, k_t2, k_tF, k_opB, k_B, k_neg, k_neg1, k_andT, k_orT, k_notT, k_and1, k_and0, k_or1, k_or0, k_not1, k_tru, k_tru1, k_andV, k_orV, k_notV, k_andV1, k_andV0, k_orV1, k_orV0, k_notV1, k_if, k_if1, k_if0, k_ifD, k_nil, k_cons, k_cons1, k_cons2, k_nilA, k_consA, k_consA1, k_consA2, k_V, k_V1, k_F, k_F1, k_tup, k_tup1, k_lst, k_lst1, k_cl, k_cl1, k_clL, k_clL1, k_finL, k_isi, k_isi1, k_fn, k_fn1, k_dat, k_fnV, k_fnV1, k_seqI, k_seqI1, k_seqI2, k_rng1, k_rng1', k_rng2, k_rng2a, k_rng2b, k_enum, k_enum1, k_zip, k_zip1, k_zip2, k_P, k_P1, k_noP, k_sl, k_sl1, k_sl2, k_sl3, k_cmp, k_cmp1, k_yes, k_seq, k_seq1, k_seq2, k_seq3, k_seq4, k_next, k_brk, k_cont, k_retN, k_asg, k_asg1, k_asgV, k_asgV1, k_asgV2, k_asgV3, k_asgO, k_asgO1, k_asgG, k_asgG1, k_nx, k_gN, k_gT, k_gC, k_g1, k_g0, k_par, k_par1, k_par2, k_drop, k_drop1, k_ret, k_ret1, k_retV, k_retV1, k_ifS, k_ifS1, k_ifS0, k_ifSD, k_fz_ap, k_app, k_app1, k_for, k_for1, k_aug1, k_fun1, k_fun2, k_idx, k_idx1, k_idx2, k_lenC, k_lenC1, k_popC, k_bset, k_getC, k_getC1, k_getC2, k_at0, k_at1, k_at2, k_bg1, k_bg2, k_bs1, k_bs2, k_bc, k_pop1, k_chn, k_chn1, k_chn2, k_chn3t, k_chn3f, k_chn4, k_tfo, k_chnB, k_chB, k_rev, k_rev1, k_revL, k_revL1, k_rg1, k_rg1', k_tupRg, k_tupRg1, k_lstRg, k_lstRg1, k_srt, k_srt1, k_parLE, k_parLE1, k_parLE2, k_augA, k_augA1, sz0, sz1, sz2, sz3, sz4, sz5, sz6, k_fun, eqI, neI, addI, subI, ltI, leI, gtI, geI, truD, isTy, tyName, pyLen, pyAbs, pyMin2, pyMax2, pyInt, pyTuple, pyList, pyIx, pyIs, pyIsNot, isNon, nown, wipeD, Option.map_some, List.getElem?_cons_zero, List.getElem?_cons_succ, List.set_cons_zero, List.set_cons_succ, List.map_cons, List.map_nil, List.cons_append, List.nil_append, List.length_cons, List.length_nil, List.all_cons, List.all_nil, List.replicate_succ, List.replicate_zero, Bool.and_true, Bool.true_and, Bool.and_self, Bool.not_true, Bool.not_false, and_self, and_true, true_and, if_true, if_false, reduceIte, reduceCtorEq, decide_true, decide_false, Bool.false_eq_true, Nat.reduceAdd, Nat.reduceEqDiff, d_law_take, b_law_take, hq, hq2, t_bg1, t_bg2, t_bg3, t_bs1, t_bs2, t_bs3, t_bc, ha, hq3, hq4, mulI (mulOk_l (i := 2) (by decide) (by decide)), sp_mix, hpow, modI h0, divI h0 hl]
        · rw [if_neg hbig] at ex
          have hq4 := eq_false hbig
          simp only [k_dC, k_var_ap, k_varO_ap, k_varV_ap, k_op, k_op1, k_op2, k_fin, k_tst, k_t1, k_t2, k_tF, k_opB, k_B, k_neg, k_neg1, k_andT, k_orT, k_notT, k_and1, k_and0, k_or1, k_or0, k_not1, k_tru, k_tru1, k_andV, k_orV, k_notV, k_andV1, k_andV0, k_orV1, k_orV0, k_notV1, k_if, k_if1, k_if0, k_ifD, k_nil, k_cons, k_cons1, k_cons2, k_nilA, k_consA, k_consA1, k_consA2, k_V, k_V1, k_F, k_F1, k_tup, k_tup1, k_lst, k_lst1, k_cl, k_cl1, k_clL, k_clL1, k_finL, k_isi, k_isi1, k_fn, k_fn1, k_dat, k_fnV, k_fnV1, k_seqI, k_seqI1, k_seqI2, k_rng1, k_rng1', k_rng2, k_rng2a, k_rng2b, k_enum, k_enum1, k_zip, k_zip1, k_zip2, k_P, k_P1, k_noP, k_sl, k_sl1, k_sl2, k_sl3, k_cmp, k_cmp1, k_yes, k_seq, k_seq1, k_seq2, k_seq3, k_seq4, k_next, k_brk, k_cont, k_retN, k_asg, k_asg1, k_asgV, k_asgV1, k_asgV2, k_asgV3, k_asgO, k_asgO1, k_asgG, k_asgG1, k_nx, k_gN, k_gT, k_gC, k_g1, k_g0, k_par, k_par1, k_par2, k_drop, k_drop1, k_ret, k_ret1, k_retV, k_retV1, k_ifS, k_ifS1, k_ifS0, k_ifSD, k_fz_ap, k_app, k_app1, k_for, k_for1, k_aug1, k_fun1, k_fun2, k_idx, k_idx1, k_idx2, k_lenC, k_lenC1, k_popC, k_bset, k_getC, k_getC1, k_getC2, k_at0, k_at1, k_at2, k_bg1, k_bg2, k_bs1, k_bs2, k_bc, k_pop1, k_chn, k_chn1, k_chn2, k_chn3t, k_chn3f, k_chn4, k_tfo, k_chnB, k_chB, k_rev, k_rev1, k_revL, k_revL1, k_rg1, k_rg1', k_tupRg, k_tupRg1, k_lstRg, k_lstRg1, k_srt, k_srt1, k_parLE, k_parLE1, k_parLE2, k_augA, k_augA1, sz0, sz1, sz2, sz3, sz4, sz5, sz6, k_fun, eqI, neI, addI, subI, ltI, leI, gtI, geI, truD, isTy, tyName, pyLen, pyAbs, pyMin2, pyMax2, pyInt, pyTuple, pyList, pyIx, pyIs, pyIsNot, isNon, nown, wipeD, Option.map_some, List.getElem?_cons_zero, List.getElem?_cons_succ, List.set_cons_zero, List.set_cons_succ, List.map_cons, List.map_nil, List.cons_append, List.nil_append, List.length_cons, List.length_nil, List.all_cons, List.all_nil, List.replicate_succ, List.replicate_zero, Bool.and_true, Bool.true_and, Bool.and_self, Bool.not_true, Bool.not_false, and_self, and_true, true_and, if_true, if_false, reduceIte, reduceCtorEq, decide_true, decide_false, Bool.false_eq_true, Nat.reduceAdd, Nat.reduceEqDiff, d_law_take, b_law_take, hq, hq2, t_bg1, t_bg2, t_bg3, t_bs1, t_bs2, t_bs3, t_bc, ha, hq3, hq4, mulI (mulOk_l (i := 2) (by decide) (by decide)), sp_mix, hpow, ex, modI h0, divI h0 hl]
      · obtain ⟨x2, hx2, ex⟩ := fin (-2 * c - 1) (by omega) (fun _ => trivial)
        refine ⟨x2 % many, _, ⟨cs, (n : Int) + 1, x2 / many, mixV (y + (-2 * c - 1)), rfl, by omega, Int.ediv_nonneg hx2 (by omega), mixV_nn _⟩, (em_nn x2 h0).1, (em_nn x2 h0).2, ?_⟩
        have hq3 : (0 ≤ c) = False := eq_false hcc
        by_cases hbig : 1000000000000000000 ≤ -2 * c - 1
        · rw [if_pos hbig] at ex
          subst ex
          have hq4 := eq_true hbig
          simp only [k_dC, k_var_ap, k_varO_ap, k_varV_ap, k_op, k_op1, k_op2, k_fin, k_tst, k_t1, k_t2, k_tF, k_opB, k_B, k_neg, k_neg1, k_andT, k_orT, k_notT, k_and1, k_and0, k_or1, k_or0, k_not1, k_tru, k_tru1, k_andV, k_orV, k_notV, k_andV1, k_andV0, k_orV1, k_orV0, k_notV1, k_if, k_if1, k_if0, k_ifD, k_nil, k_cons, k_cons1, k_cons2, k_nilA, k_consA, k_consA1, k_consA2, k_V, k_V1, k_F, k_F1, k_tup, k_tup1, k_lst, k_lst1, k_cl, k_cl1, k_clL, k_clL1, k_finL, k_isi, k_isi1, k_fn, k_fn1, k_dat, k_fnV, k_fnV1, k_seqI, k_seqI1, k_seqI2, k_rng1, k_rng1', k_rng2, k_rng2a, k_rng2b, k_enum, k_enum1, k_zip, k_zip1, k_zip2, k_P, k_P1, k_noP, k_sl, k_sl1, k_sl2, k_sl3, k_cmp, k_cmp1, k_yes, k_seq, k_seq1, k_seq2, k_seq3, k_seq4, k_next, k_brk, k_cont, k_retN, k_asg, k_asg1, k_asgV, k_asgV1, k_asgV2, k_asgV3, k_asgO, k_asgO1, k_asgG, k_asgG1, k_nx, k_gN, k_gT, k_gC, k_g1, k_g0, k_par, k_par1, k_par2, k_drop, k_drop1, k_ret, k_ret1, k_retV, k_retV1, k_ifS, k_ifS1, k_ifS0, k_ifSD, k_fz_ap, k_app, k_app1, k_for, k_for1, k_aug1, k_fun1, k_fun2, k_idx, k_idx1, k_idx2, k_lenC, k_lenC1, k_popC, k_bset, k_getC, k_getC1, k_getC2, k_at0, k_at1, k_at2, k_bg1, k_bg2, k_bs1, k_bs2, k_bc, k_pop1, k_chn, k_chn1, k_chn2, k_chn3t, k_chn3f, k_chn4, k_tfo, k_chnB, k_chB, k_rev, k_rev1, k_revL, k_revL1, k_rg1, k_rg1', k_tupRg, k_tupRg1, k_lstRg, k_lstRg1, k_srt, k_srt1, k_parLE, k_parLE1, k_parLE2, k_augA, k_augA1, sz0, sz1, sz2, sz3, sz4, sz5, sz6, k_fun, eqI, neI, addI, subI, ltI, leI, gtI, geI, truD, isTy, tyName, pyLen, pyAbs, pyMin2, pyMax2, pyInt, pyTuple, pyList, pyIx, pyIs, pyIsNot, isNon, nown, wipeD, Option.map_some, List.getElem?_cons_zero, List.getElem?_cons_succ, List.set_cons_zero, List.set_cons_succ, List.map_cons, List.map_nil, List.cons_append, List.nil_append, List.length_cons, List.length_nil, List.all_cons, List.all_nil, List.replicate_succ, List.replicate_zero, Bool.and_true, Bool.true_and, Bool.and_self, Bool.not_true, Bool.not_false, and_self, and_true, true_and, if_true, if_false, reduceIte, reduceCtorEq, decide_true, decide_false, Bool.false_eq_true, Nat.reduceAdd, Nat.reduceEqDiff, d_law_take, b_law_take, hq, hq2, t_bg1, t_bg2, t_bg3, t_bs1, t_bs2, t_bs3, t_bc, ha, hq3, hq4, mulI (mulOk_l (i := -2) (by decide) (by decide)), sp_mix, hpow, modI h0, divI h0 hl]
        · rw [if_neg hbig] at ex
          have hq4 := eq_false hbig
          simp only [k_dC, k_var_ap, k_varO_ap, k_varV_ap, k_op, k_op1, k_op2, k_fin, k_tst, k_t1, k_t2, k_tF, k_opB, k_B, k_neg, k_neg1, k_andT, k_orT, k_notT, k_and1, k_and0, k_or1, k_or0, k_not1, k_tru, k_tru1, k_andV, k_orV, k_notV, k_andV1, k_andV0, k_orV1, k_orV0, k_notV1, k_if, k_if1, k_if0, k_ifD, k_nil, k_cons, k_cons1, k_cons2, k_nilA, k_consA, k_consA1, k_consA2, k_V, k_V1, k_F, k_F1, k_tup, k_tup1, k_lst, k_lst1, k_cl, k_cl1, k_clL, k_clL1, k_finL, k_isi, k_isi1, k_fn, k_fn1, k_dat, k_fnV, k_fnV1, k_seqI, k_seqI1, k_seqI2, k_rng1, k_rng1', k_rng2, k_rng2a, k_rng2b, k_enum, k_enum1, k_zip, k_zip1, k_zip2, k_P, k_P1, k_noP, k_sl, k_sl1, k_sl2, k_sl3, k_cmp, k_cmp1, k_yes, k_seq, k_seq1, k_seq2, k_seq3, k_seq4, k_next, k_brk, k_cont, k_retN, k_asg, k_asg1, k_asgV, k_asgV1, k_asgV2, k_asgV3, k_asgO, k_asgO1, k_asgG, k_asgG1, k_nx, k_gN, k_gT, k_gC, k_g1, k_g0, k_par, k_par1, k_par2, k_drop, k_drop1, k_ret, k_ret1, k_retV, k_retV1, k_ifS, k_ifS1, k_ifS0, k_ifSD, k_fz_ap, k_app, k_app1, k_for, k_for1, k_aug1, k_fun1, k_fun2, k_idx, k_idx1, k_idx2, k_lenC, k_lenC1, k_popC, k_bset, k_getC, k_getC1, k_getC2, k_at0, k_at1, k_at2, k_bg1, k_bg2, k_bs1, k_bs2, k_bc, k_pop1, k_chn, k_chn1, k_chn2, k_chn3t, k_chn3f, k_chn4, k_tfo, k_chnB, k_chB, k_rev, k_rev1, k_revL, k_revL1, k_rg1, k_rg1', k_tupRg, k_tupRg1, k_lstRg, k_lstRg1, k_srt, k_srt1, k_parLE, k_parLE1, k_parLE2, k_augA, k_augA1, sz0, sz1, sz2, sz3, sz4, sz5, sz6, k_fun, eqI, neI, addI, subI, ltI, leI, gtI, geI, truD, isTy, tyName, pyLen, pyAbs, pyMin2, pyMax2, pyInt, pyTuple, pyList, pyIx, pyIs, pyIsNot, isNon, nown, wipeD, Option.map_some, List.getElem?_cons_zero, List.getElem?_cons_succ, List.set_cons_zero, List.set_cons_succ, List.map_cons, List.map_nil, List.cons_append, List.nil_append, List.length_cons, List.length_nil, List.all_cons, List.all_nil, List.replicate_succ, List.replicate_zero, Bool.and_true, Bool.true_and, Bool.and_self, Bool.not_true, Bool.not_false, and_self, and_true, true_and, if_true, if_false, reduceIte, reduceCtorEq, decide_true, decide_false, Bool.false_eq_true, Nat.reduceAdd, Nat.reduceEqDiff, d_law_take, b_law_take, hq, hq2, t_bg1, t_bg2, t_bg3, t_bs1, t_bs2, t_bs3, t_bc, ha, hq3, hq4, mulI (mulOk_l (i := -2) (by decide) (by decide)), sp_mix, hpow, ex, modI h0, divI h0 hl]
    · have hq2 : (p < (cs.length : Int)) = False := eq_false hc
      refine ⟨mixV (y + 1) % many, _, ⟨cs, p, mixV (y + 1) / many, mixV (y + 1), rfl, hp, Int.ediv_nonneg (mixV_nn _) (by omega), mixV_nn _⟩, (em_nn _ h0).1, (em_nn _ h0).2, ?_⟩
      simp only [k_dC, k_var_ap, k_varO_ap, k_varV_ap, k_op, k_op1, k_op2, k_fin, k_tst, k_t1, k_t2, k_tF, k_opB, k_B, k_neg, k_neg1, k_andT, k_orT, k_notT, k_and1, k_and0, k_or1, k_or0, k_not1, k_tru, k_tru1, k_andV, k_orV, k_notV, k_andV1, k_andV0, k_orV1, k_orV0, k_notV1, k_if, k_if1, k_if0, k_ifD, k_nil, k_cons, k_cons1, k_cons2, k_nilA, k_consA, k_consA1, k_consA2, k_V, k_V1, k_F, k_F1, k_tup, k_tup1, k_lst, k_lst1, k_cl, k_cl1, k_clL, k_clL1, k_finL, k_isi, k_isi1, k_fn, k_fn1, k_dat, k_fnV, k_fnV1, k_seqI, k_seqI1, k_seqI2, k_rng1, k_rng1', k_rng2, k_rng2a, k_rng2b, k_enum, k_enum1, k_zip, k_zip1, k_zip2, k_P, k_P1, k_noP, k_sl, k_sl1, k_sl2, k_sl3, k_cmp, k_cmp1, k_yes, k_seq, k_seq1, k_seq2, k_seq3, k_seq4, k_next, k_brk, k_cont, k_retN, k_asg, k_asg1, k_asgV, k_asgV1, k_asgV2, k_asgV3, k_asgO, k_asgO1, k_asgG, k_asgG1, k_nx, k_gN, k_gT, k_gC, k_g1, k_g0, k_par, k_par1, k_par2, k_drop, k_drop1, k_ret, k_ret1, k_retV, k_retV1, k_ifS, k_ifS1, k_ifS0, k_ifSD, k_fz_ap, k_app, k_app1, k_for, k_for1, k_aug1, k_fun1, k_fun2, k_idx, k_idx1, k_idx2, k_lenC, k_lenC1, k_popC, k_bset, k_getC, k_getC1, k_getC2, k_at0, k_at1, k_at2, k_bg1, k_bg2, k_bs1, k_bs2, k_bc, k_pop1, k_chn, k_chn1, k_chn2, k_chn3t, k_chn3f, k_chn4, k_tfo, k_chnB, k_chB, k_rev, k_rev1, k_revL, k_revL1, k_rg1, k_rg1', k_tupRg, k_tupRg1, k_lstRg, k_lstRg1, k_srt, k_srt1, k_parLE, k_parLE1, k_parLE2, k_augA, k_augA1, sz0, sz1, sz2, sz3, sz4, sz5, sz6, k_fun, eqI, neI, addI, subI, ltI, leI, gtI, geI, truD, isTy, tyName, pyLen, pyAbs, pyMin2, pyMax2, pyInt, pyTuple, pyList, pyIx, pyIs, pyIsNot, isNon, nown, wipeD, Option.map_some, List.getElem?_cons_zero, List.getElem?_cons_succ, List.set_cons_zero, List.set_cons_succ, List.map_cons, List.map_nil, List.cons_append, List.nil_append, List.length_cons, List.length_nil, List.all_cons, List.all_nil, List.replicate_succ, List.replicate_zero, Bool.and_true, Bool.true_and, Bool.and_self, Bool.not_true, Bool.not_false, and_self, and_true, true_and, if_true, if_false, reduceIte, reduceCtorEq, decide_true, decide_false, Bool.false_eq_true, Nat.reduceAdd, Nat.reduceEqDiff, d_law_take, b_law_take, hq, hq2, t_bg1, t_bg2, t_bg3, t_bs1, t_bs2, t_bs3, t_bc, sp_mix, modI h0, divI h0 hl]
  · refine ⟨x % many, _, ⟨cs, p, x / many, y, rfl, hp, Int.ediv_nonneg hx (by omega), hy⟩, (em_nn x h0).1, (em_nn x h0).2, ?_⟩
    have hq : (x < many) = False := eq_false hlt
    simp only [k_dC, k_var_ap, k_varO_ap, k_varV_ap, k_op, k_op1, k_op2, k_fin, k_tst, k_t1, k_t2, k_tF, k_opB, k_B, k_neg, k_neg1, k_andT, k_orT, k_notT, k_and1, k_and0, k_or1, k_or0, k_not1, k_tru, k_tru1, k_andV, k_orV, k_notV, k_andV1, k_andV0, k_orV1, k_orV0, k_notV1, k_if, k_if1, k_if0, k_ifD, k_nil, k_cons, k_cons1, k_cons2, k_nilA, k_consA, k_consA1, k_consA2, k_V, k_V1, k_F, k_F1, k_tup, k_tup1, k_lst, k_lst1, k_cl, k_cl1, k_clL, k_clL1, k_finL, k_isi, k_isi1, k_fn, k_fn1, k_dat, k_fnV, k_fnV1, k_seqI, k_seqI1, k_seqI2, k_rng1, k_rng1', k_rng2, k_rng2a, k_rng2b, k_enum, k_enum1, k_zip, k_zip1, k_zip2, k_P, k_P1, k_noP, k_sl, k_sl1, k_sl2, k_sl3, k_cmp, k_cmp1, k_yes, k_seq, k_seq1, k_seq2, k_seq3, k_seq4, k_next, k_brk, k_cont, k_retN, k_asg, k_asg1, k_asgV, k_asgV1, k_asgV2, k_asgV3, k_asgO, k_asgO1, k_asgG, k_asgG1, k_nx, k_gN, k_gT, k_gC, k_g1, k_g0, k_par, k_par1, k_par2, k_drop, k_drop1, k_ret, k_ret1, k_retV, k_retV1, k_ifS, k_ifS1, k_ifS0, k_ifSD, k_fz_ap, k_app, k_app1, k_for, k_for1, k_aug1, k_fun1, k_fun2, k_idx, k_idx1, k_idx2, k_lenC, k_lenC1, k_popC, k_bset, k_getC, k_getC1, k_getC2, k_at0, k_at1, k_at2, k_bg1, k_bg2, k_bs1, k_bs2, k_bc, k_pop1, k_chn, k_chn1, k_chn2, k_chn3t, k_chn3f, k_chn4, k_tfo, k_chnB, k_chB, k_rev, k_rev1, k_revL, k_revL1, k_rg1, k_rg1', k_tupRg, k_tupRg1, k_lstRg, k_lstRg1, k_srt, k_srt1, k_parLE, k_parLE1, k_parLE2, k_augA, k_augA1, sz0, sz1, sz2, sz3, sz4, sz5, sz6, k_fun, eqI, neI, addI, subI, ltI, leI, gtI, geI, truD, isTy, tyName, pyLen, pyAbs, pyMin2, pyMax2, pyInt, pyTuple, pyList, pyIx, pyIs, pyIsNot, isNon, nown, wipeD, Option.map_some, List.getElem?_cons_zero, List.getElem?_cons_succ, List.set_cons_zero, List.set_cons_succ, List.map_cons, List.map_nil, List.cons_append, List.nil_append, List.length_cons, List.length_nil, List.all_cons, List.all_nil, List.replicate_succ, List.replicate_zero, Bool.and_true, Bool.true_and, Bool.and_self, Bool.not_true, Bool.not_false, and_self, and_true, true_and, if_true, if_false, reduceIte, reduceCtorEq, decide_true, decide_false, Bool.false_eq_true, Nat.reduceAdd, Nat.reduceEqDiff, d_law_take, b_law_take, hq, t_bg1, t_bg2, t_bg3, t_bs1, t_bs2, t_bs3, t_bc, modI h0, divI h0 hl]
theorem sp_tape (ns : List Int) : ∃ B', TI B' ∧ d_law_tape [.scr ns] ⟨[], [], false⟩ = some (.box, B') := by
  refine ⟨_, ⟨ns.take 80, 0, 0, 1 + (ns.length : Int), rfl, by omega, by omega, by omega⟩, ?_⟩
  rfl
end Dn

-- dk2
set_option Elab.async false
set_option linter.all false
set_option autoImplicit false
set_option maxRecDepth 100000
set_option maxHeartbeats 4000000
set_option exponentiation.threshold 100000
namespace Dn
open PySem Tr
def nD (xs : List Nat) : List PyData := xs.map fun (x : Nat) => PyData.int (x : Int)
theorem nD_len (xs : List Nat) : (nD xs).length = xs.length := by simp [nD]
theorem nD_get {xs : List Nat} {i : Nat} {y : PyData} (h : (nD xs)[i]? = some y) : i < xs.length ∧ y = .int (xs.getD i 0 : Nat) := by
  unfold nD at h
  rw [List.getElem?_map] at h
  rcases Nat.lt_or_ge i xs.length with z | z
  · rw [List.getElem?_eq_getElem z] at h
    cases h
    rw [List.getD_eq_getElem?_getD, List.getElem?_eq_getElem z]
    exact ⟨z, rfl⟩
  · rw [List.getElem?_eq_none z] at h; cases h
theorem nD_at {xs : List Nat} {i : Nat} (h : i < xs.length) : (nD xs)[i]? = some (.int (xs.getD i 0 : Nat)) := by
  unfold nD
  rw [List.getElem?_map, List.getD_eq_getElem?_getD, List.getElem?_eq_getElem h]
  rfl
theorem nD_snoc (xs : List Nat) (a : Nat) : nD xs ++ [.int (a : Int)] = nD (xs ++ [a]) := by simp [nD]
theorem ixT {ys : List PyData} {i : Nat} {y : PyData} (h : ys[i]? = some y) : pyIx (.tuple ys) (.int i) = some y := by
  show L2.atI ys (i : Int) = some y
  exact L2.atI_nat h
theorem nD_emp (xs : List Nat) : (nD xs).isEmpty = xs.isEmpty := by cases xs <;> rfl
theorem fs_len (w : Int) (ws : List Nat) : ∀ i, (fs w ws i).1.length ≤ i
  | 0 => Nat.le_refl 0
  | i + 1 => by
    have := fs_len w ws i
    unfold fs
    split
    · rw [List.length_append]; simp; omega
    · simp only; omega
def fS (w : Int) (ws : List Nat) (i : Nat) (a b : Option Sv) : Sl := [some (.dat (.int w)), some (.dat (.tuple (nD ws))), some (.own (nD (fs w ws i).1)), some (.dat (.int (fs w ws i).2)), a, b]
theorem sp_filled (w : Int) (ws : List Nat) (hn : ws.length < 1000) (B : Bx) : d_filled_trays [.dat (.int w), .dat (.tuple (nD ws))] B = some (.dat (.tuple (nD (filled w ws))), B) := by
  obtain ⟨s2, B2, e, h⟩ := forGo_inv (tg := gT (gCons' (gN 4) (gCons' (gN 5) gNil'))) (body := filled_trays_L1) (enumD 0 (nD ws)) (fun i sl B' => B' = B ∧ ∃ a b, sl = fS w ws i a b) (fun i x sl B' hx hp => by
    obtain ⟨y, hy, rfl⟩ := enumD_get _ _ _ _ hx
    obtain ⟨hi, rfl⟩ := nD_get hy
    obtain ⟨rfl, a, b, rfl⟩ := hp
    rw [Nat.zero_add]
    refine ⟨_, fS w ws (i + 1) (some (.dat (.int i))) (some (.dat (.int (ws.getD i 0 : Nat)))), B', rfl, .inl ?_, rfl, _, _, rfl⟩
    have hl := fs_len w ws i
    have hsz : ((nD (fs w ws i).1).length < sizeLine) = True := eq_true (by rw [nD_len]; exact szlt (by omega))
    unfold fS
    by_cases hc : (fs w ws i).1 = [] ∨ (fs w ws i).2 < (ws.getD i 0 : Nat)
    · have q1 : fs w ws (i + 1) = ((fs w ws i).1 ++ [i], w - (ws.getD i 0 : Nat)) := if_pos hc
      rw [q1]
      simp only
      generalize ws.getD i 0 = x at *
      generalize fs w ws i = fl at *
      obtain ⟨f, l⟩ := fl
      simp only at hc hsz ⊢
      by_cases hlt : l < (x : Int)
      · have q2 := eq_true hlt
        simp only [k_dC, k_var_ap, k_varO_ap, k_varV_ap, k_op, k_op1, k_op2, k_fin, k_tst, k_t1, k_t2, k_tF, k_opB, k_B, k_neg, k_neg1, k_andT, k_orT, k_notT, k_and1, k_and0, k_or1, k_or0, k_not1, k_tru, k_tru1, k_andV, k_orV, k_notV, k_andV1, k_andV0, k_orV1, k_orV0, k_notV1, k_if, k_if1, k_if0, k_ifD, k_nil, k_cons, k_cons1, k_cons2, k_nilA, k_consA, k_consA1, k_consA2, k_V, k_V1, k_F, k_F1, k_tup, k_tup1, k_lst, k_lst1, k_cl, k_cl1, k_clL, k_clL1, k_finL, k_isi, k_isi1, k_fn, k_fn1, k_dat, k_fnV, k_fnV1, k_seqI, k_seqI1, k_seqI2, k_rng1, k_rng1', k_rng2, k_rng2a, k_rng2b, k_enum, k_enum1, k_zip, k_zip1, k_zip2, k_P, k_P1, k_noP, k_sl, k_sl1, k_sl2, k_sl3, k_cmp, k_cmp1, k_yes, k_seq, k_seq1, k_seq2, k_seq3, k_seq4, k_next, k_brk, k_cont, k_retN, k_asg, k_asg1, k_asgV, k_asgV1, k_asgV2, k_asgV3, k_asgO, k_asgO1, k_asgG, k_asgG1, k_nx, k_gN, k_gT, k_gC, k_g1, k_g0, k_par, k_par1, k_par2, k_drop, k_drop1, k_ret, k_ret1, k_retV, k_retV1, k_ifS, k_ifS1, k_ifS0, k_ifSD, k_fz_ap, k_app, k_app1, k_for, k_for1, k_aug1, k_fun1, k_fun2, k_idx, k_idx1, k_idx2, k_lenC, k_lenC1, k_popC, k_bset, k_getC, k_getC1, k_getC2, k_at0, k_at1, k_at2, k_bg1, k_bg2, k_bs1, k_bs2, k_bc, k_pop1, k_chn, k_chn1, k_chn2, k_chn3t, k_chn3f, k_chn4, k_tfo, k_chnB, k_chB, k_rev, k_rev1, k_revL, k_revL1, k_rg1, k_rg1', k_tupRg, k_tupRg1, k_lstRg, k_lstRg1, k_srt, k_srt1, k_parLE, k_parLE1, k_parLE2, k_augA, k_augA1, sz0, sz1, sz2, sz3, sz4, sz5, sz6, k_fun, eqI, neI, addI, subI, ltI, leI, gtI, geI, truD, isTy, tyName, pyLen, pyAbs, pyMin2, pyMax2, pyInt, pyTuple, pyList, pyIx, pyIs, pyIsNot, isNon, nown, wipeD, Option.map_some, List.getElem?_cons_zero, List.getElem?_cons_succ, List.set_cons_zero, List.set_cons_succ, List.map_cons, List.map_nil, List.cons_append, List.nil_append, List.length_cons, List.length_nil, List.all_cons, List.all_nil, List.replicate_succ, List.replicate_zero, Bool.and_true, Bool.true_and, Bool.and_self, Bool.not_true, Bool.not_false, and_self, and_true, true_and, if_true, if_false, reduceIte, reduceCtorEq, decide_true, decide_false, Bool.false_eq_true, Nat.reduceAdd, Nat.reduceEqDiff, filled_trays_L1, q2, hsz, nD_snoc]
      · have q2 := eq_false hlt
        have hf : f = [] := by rcases hc with z | z; exact z; exact absurd z hlt
        subst hf
        have q3 : (nD []).isEmpty = true := rfl
        simp only [k_dC, k_var_ap, k_varO_ap, k_varV_ap, k_op, k_op1, k_op2, k_fin, k_tst, k_t1, k_t2, k_tF, k_opB, k_B, k_neg, k_neg1, k_andT, k_orT, k_notT, k_and1, k_and0, k_or1, k_or0, k_not1, k_tru, k_tru1, k_andV, k_orV, k_notV, k_andV1, k_andV0, k_orV1, k_orV0, k_notV1, k_if, k_if1, k_if0, k_ifD, k_nil, k_cons, k_cons1, k_cons2, k_nilA, k_consA, k_consA1, k_consA2, k_V, k_V1, k_F, k_F1, k_tup, k_tup1, k_lst, k_lst1, k_cl, k_cl1, k_clL, k_clL1, k_finL, k_isi, k_isi1, k_fn, k_fn1, k_dat, k_fnV, k_fnV1, k_seqI, k_seqI1, k_seqI2, k_rng1, k_rng1', k_rng2, k_rng2a, k_rng2b, k_enum, k_enum1, k_zip, k_zip1, k_zip2, k_P, k_P1, k_noP, k_sl, k_sl1, k_sl2, k_sl3, k_cmp, k_cmp1, k_yes, k_seq, k_seq1, k_seq2, k_seq3, k_seq4, k_next, k_brk, k_cont, k_retN, k_asg, k_asg1, k_asgV, k_asgV1, k_asgV2, k_asgV3, k_asgO, k_asgO1, k_asgG, k_asgG1, k_nx, k_gN, k_gT, k_gC, k_g1, k_g0, k_par, k_par1, k_par2, k_drop, k_drop1, k_ret, k_ret1, k_retV, k_retV1, k_ifS, k_ifS1, k_ifS0, k_ifSD, k_fz_ap, k_app, k_app1, k_for, k_for1, k_aug1, k_fun1, k_fun2, k_idx, k_idx1, k_idx2, k_lenC, k_lenC1, k_popC, k_bset, k_getC, k_getC1, k_getC2, k_at0, k_at1, k_at2, k_bg1, k_bg2, k_bs1, k_bs2, k_bc, k_pop1, k_chn, k_chn1, k_chn2, k_chn3t, k_chn3f, k_chn4, k_tfo, k_chnB, k_chB, k_rev, k_rev1, k_revL, k_revL1, k_rg1, k_rg1', k_tupRg, k_tupRg1, k_lstRg, k_lstRg1, k_srt, k_srt1, k_parLE, k_parLE1, k_parLE2, k_augA, k_augA1, sz0, sz1, sz2, sz3, sz4, sz5, sz6, k_fun, eqI, neI, addI, subI, ltI, leI, gtI, geI, truD, isTy, tyName, pyLen, pyAbs, pyMin2, pyMax2, pyInt, pyTuple, pyList, pyIx, pyIs, pyIsNot, isNon, nown, wipeD, Option.map_some, List.getElem?_cons_zero, List.getElem?_cons_succ, List.set_cons_zero, List.set_cons_succ, List.map_cons, List.map_nil, List.cons_append, List.nil_append, List.length_cons, List.length_nil, List.all_cons, List.all_nil, List.replicate_succ, List.replicate_zero, Bool.and_true, Bool.true_and, Bool.and_self, Bool.not_true, Bool.not_false, and_self, and_true, true_and, if_true, if_false, reduceIte, reduceCtorEq, decide_true, decide_false, Bool.false_eq_true, Nat.reduceAdd, Nat.reduceEqDiff, filled_trays_L1, q2, q3, hsz, nD_snoc]
    · have q1 : fs w ws (i + 1) = ((fs w ws i).1, (fs w ws i).2 - (ws.getD i 0 : Nat)) := if_neg hc
      rw [q1]
      simp only
      generalize ws.getD i 0 = x at *
      generalize fs w ws i = fl at *
      obtain ⟨f, l⟩ := fl
      simp only at hc hsz ⊢
      have q2 : (l < (x : Int)) = False := eq_false fun z => hc (.inr z)
      have hf : (nD f).isEmpty = false := by
        rw [nD_emp]
        cases f with
        | nil => exact absurd (.inl rfl) hc
        | cons _ _ => rfl
      simp only [k_dC, k_var_ap, k_varO_ap, k_varV_ap, k_op, k_op1, k_op2, k_fin, k_tst, k_t1, k_t2, k_tF, k_opB, k_B, k_neg, k_neg1, k_andT, k_orT, k_notT, k_and1, k_and0, k_or1, k_or0, k_not1, k_tru, k_tru1, k_andV, k_orV, k_notV, k_andV1, k_andV0, k_orV1, k_orV0, k_notV1, k_if, k_if1, k_if0, k_ifD, k_nil, k_cons, k_cons1, k_cons2, k_nilA, k_consA, k_consA1, k_consA2, k_V, k_V1, k_F, k_F1, k_tup, k_tup1, k_lst, k_lst1, k_cl, k_cl1, k_clL, k_clL1, k_finL, k_isi, k_isi1, k_fn, k_fn1, k_dat, k_fnV, k_fnV1, k_seqI, k_seqI1, k_seqI2, k_rng1, k_rng1', k_rng2, k_rng2a, k_rng2b, k_enum, k_enum1, k_zip, k_zip1, k_zip2, k_P, k_P1, k_noP, k_sl, k_sl1, k_sl2, k_sl3, k_cmp, k_cmp1, k_yes, k_seq, k_seq1, k_seq2, k_seq3, k_seq4, k_next, k_brk, k_cont, k_retN, k_asg, k_asg1, k_asgV, k_asgV1, k_asgV2, k_asgV3, k_asgO, k_asgO1, k_asgG, k_asgG1, k_nx, k_gN, k_gT, k_gC, k_g1, k_g0, k_par, k_par1, k_par2, k_drop, k_drop1, k_ret, k_ret1, k_retV, k_retV1, k_ifS, k_ifS1, k_ifS0, k_ifSD, k_fz_ap, k_app, k_app1, k_for, k_for1, k_aug1, k_fun1, k_fun2, k_idx, k_idx1, k_idx2, k_lenC, k_lenC1, k_popC, k_bset, k_getC, k_getC1, k_getC2, k_at0, k_at1, k_at2, k_bg1, k_bg2, k_bs1, k_bs2, k_bc, k_pop1, k_chn, k_chn1, k_chn2, k_chn3t, k_chn3f, k_chn4, k_tfo, k_chnB, k_chB, k_rev, k_rev1, k_revL, k_revL1, k_rg1, k_rg1', k_tupRg, k_tupRg1, k_lstRg, k_lstRg1, k_srt, k_srt1, k_parLE, k_parLE1, k_parLE2, k_augA, k_augA1, sz0, sz1, sz2, sz3, sz4, sz5, sz6, k_fun, eqI, neI, addI, subI, ltI, leI, gtI, geI, truD, isTy, tyName, pyLen, pyAbs, pyMin2, pyMax2, pyInt, pyTuple, pyList, pyIx, pyIs, pyIsNot, isNon, nown, wipeD, Option.map_some, List.getElem?_cons_zero, List.getElem?_cons_succ, List.set_cons_zero, List.set_cons_succ, List.map_cons, List.map_nil, List.cons_append, List.nil_append, List.length_cons, List.length_nil, List.all_cons, List.all_nil, List.replicate_succ, List.replicate_zero, Bool.and_true, Bool.true_and, Bool.and_self, Bool.not_true, Bool.not_false, and_self, and_true, true_and, if_true, if_false, reduceIte, reduceCtorEq, decide_true, decide_false, Bool.false_eq_true, Nat.reduceAdd, Nat.reduceEqDiff, filled_trays_L1, q2, hf])
    0 (fS w ws 0 none none) B (Nat.zero_le _) ⟨rfl, none, none, rfl⟩
  obtain ⟨rfl, a, b, rfl⟩ := h
  rw [enumD_length, nD_len, List.drop_zero] at e
  unfold fS at e
  rw [show (fs w ws 0) = ([], 0) from rfl] at e
  have hl := fs_len w ws ws.length
  have z : nD (([], (0 : Int)) : List Nat × Int).1 = [] := rfl
  rw [z] at e
  simp only at e
  simp only [k_dC, k_var_ap, k_varO_ap, k_varV_ap, k_op, k_op1, k_op2, k_fin, k_tst, k_t1, k_t2, k_tF, k_opB, k_B, k_neg, k_neg1, k_andT, k_orT, k_notT, k_and1, k_and0, k_or1, k_or0, k_not1, k_tru, k_tru1, k_andV, k_orV, k_notV, k_andV1, k_andV0, k_orV1, k_orV0, k_notV1, k_if, k_if1, k_if0, k_ifD, k_nil, k_cons, k_cons1, k_cons2, k_nilA, k_consA, k_consA1, k_consA2, k_V, k_V1, k_F, k_F1, k_tup, k_tup1, k_lst, k_lst1, k_cl, k_cl1, k_clL, k_clL1, k_finL, k_isi, k_isi1, k_fn, k_fn1, k_dat, k_fnV, k_fnV1, k_seqI, k_seqI1, k_seqI2, k_rng1, k_rng1', k_rng2, k_rng2a, k_rng2b, k_enum, k_enum1, k_zip, k_zip1, k_zip2, k_P, k_P1, k_noP, k_sl, k_sl1, k_sl2, k_sl3, k_cmp, k_cmp1, k_yes, k_seq, k_seq1, k_seq2, k_seq3, k_seq4, k_next, k_brk, k_cont, k_retN, k_asg, k_asg1, k_asgV, k_asgV1, k_asgV2, k_asgV3, k_asgO, k_asgO1, k_asgG, k_asgG1, k_nx, k_gN, k_gT, k_gC, k_g1, k_g0, k_par, k_par1, k_par2, k_drop, k_drop1, k_ret, k_ret1, k_retV, k_retV1, k_ifS, k_ifS1, k_ifS0, k_ifSD, k_fz_ap, k_app, k_app1, k_for, k_for1, k_aug1, k_fun1, k_fun2, k_idx, k_idx1, k_idx2, k_lenC, k_lenC1, k_popC, k_bset, k_getC, k_getC1, k_getC2, k_at0, k_at1, k_at2, k_bg1, k_bg2, k_bs1, k_bs2, k_bc, k_pop1, k_chn, k_chn1, k_chn2, k_chn3t, k_chn3f, k_chn4, k_tfo, k_chnB, k_chB, k_rev, k_rev1, k_revL, k_revL1, k_rg1, k_rg1', k_tupRg, k_tupRg1, k_lstRg, k_lstRg1, k_srt, k_srt1, k_parLE, k_parLE1, k_parLE2, k_augA, k_augA1, sz0, sz1, sz2, sz3, sz4, sz5, sz6, k_fun, eqI, neI, addI, subI, ltI, leI, gtI, geI, truD, isTy, tyName, pyLen, pyAbs, pyMin2, pyMax2, pyInt, pyTuple, pyList, pyIx, pyIs, pyIsNot, isNon, nown, wipeD, Option.map_some, List.getElem?_cons_zero, List.getElem?_cons_succ, List.set_cons_zero, List.set_cons_succ, List.map_cons, List.map_nil, List.cons_append, List.nil_append, List.length_cons, List.length_nil, List.all_cons, List.all_nil, List.replicate_succ, List.replicate_zero, Bool.and_true, Bool.true_and, Bool.and_self, Bool.not_true, Bool.not_false, and_self, and_true, true_and, if_true, if_false, reduceIte, reduceCtorEq, decide_true, decide_false, Bool.false_eq_true, Nat.reduceAdd, Nat.reduceEqDiff, d_filled_trays, b_filled_trays, e, filled]
theorem sp_fewest (w : Int) (ws : List Nat) (hn : ws.length < 1000) (B : Bx) : d_fewest_trays [.dat (.int w), .dat (.tuple (nD ws))] B = some (.dat (.tuple [.tuple (nD (filled w ws)), .tuple (nD (filled w ws))]), B) := by
  simp only [k_dC, k_var_ap, k_varO_ap, k_varV_ap, k_op, k_op1, k_op2, k_fin, k_tst, k_t1, k_t2, k_tF, k_opB, k_B, k_neg, k_neg1, k_andT, k_orT, k_notT, k_and1, k_and0, k_or1, k_or0, k_not1, k_tru, k_tru1, k_andV, k_orV, k_notV, k_andV1, k_andV0, k_orV1, k_orV0, k_notV1, k_if, k_if1, k_if0, k_ifD, k_nil, k_cons, k_cons1, k_cons2, k_nilA, k_consA, k_consA1, k_consA2, k_V, k_V1, k_F, k_F1, k_tup, k_tup1, k_lst, k_lst1, k_cl, k_cl1, k_clL, k_clL1, k_finL, k_isi, k_isi1, k_fn, k_fn1, k_dat, k_fnV, k_fnV1, k_seqI, k_seqI1, k_seqI2, k_rng1, k_rng1', k_rng2, k_rng2a, k_rng2b, k_enum, k_enum1, k_zip, k_zip1, k_zip2, k_P, k_P1, k_noP, k_sl, k_sl1, k_sl2, k_sl3, k_cmp, k_cmp1, k_yes, k_seq, k_seq1, k_seq2, k_seq3, k_seq4, k_next, k_brk, k_cont, k_retN, k_asg, k_asg1, k_asgV, k_asgV1, k_asgV2, k_asgV3, k_asgO, k_asgO1, k_asgG, k_asgG1, k_nx, k_gN, k_gT, k_gC, k_g1, k_g0, k_par, k_par1, k_par2, k_drop, k_drop1, k_ret, k_ret1, k_retV, k_retV1, k_ifS, k_ifS1, k_ifS0, k_ifSD, k_fz_ap, k_app, k_app1, k_for, k_for1, k_aug1, k_fun1, k_fun2, k_idx, k_idx1, k_idx2, k_lenC, k_lenC1, k_popC, k_bset, k_getC, k_getC1, k_getC2, k_at0, k_at1, k_at2, k_bg1, k_bg2, k_bs1, k_bs2, k_bc, k_pop1, k_chn, k_chn1, k_chn2, k_chn3t, k_chn3f, k_chn4, k_tfo, k_chnB, k_chB, k_rev, k_rev1, k_revL, k_revL1, k_rg1, k_rg1', k_tupRg, k_tupRg1, k_lstRg, k_lstRg1, k_srt, k_srt1, k_parLE, k_parLE1, k_parLE2, k_augA, k_augA1, sz0, sz1, sz2, sz3, sz4, sz5, sz6, k_fun, eqI, neI, addI, subI, ltI, leI, gtI, geI, truD, isTy, tyName, pyLen, pyAbs, pyMin2, pyMax2, pyInt, pyTuple, pyList, pyIx, pyIs, pyIsNot, isNon, nown, wipeD, Option.map_some, List.getElem?_cons_zero, List.getElem?_cons_succ, List.set_cons_zero, List.set_cons_succ, List.map_cons, List.map_nil, List.cons_append, List.nil_append, List.length_cons, List.length_nil, List.all_cons, List.all_nil, List.replicate_succ, List.replicate_zero, Bool.and_true, Bool.true_and, Bool.and_self, Bool.not_true, Bool.not_false, and_self, and_true, true_and, if_true, if_false, reduceIte, reduceCtorEq, decide_true, decide_false, Bool.false_eq_true, Nat.reduceAdd, Nat.reduceEqDiff, d_fewest_trays, b_fewest_trays, sp_filled w ws hn B]
theorem nD_lay (xs : List Nat) : ∀ x ∈ nD xs, x.canLay0 = true ∧ x.depth ≤ 60 := fun x hx => by
  obtain ⟨n, _, rfl⟩ := List.mem_map.mp hx
  exact ⟨rfl, Nat.zero_le _⟩
theorem canLayAll {xs : List PyData} (h : ∀ x ∈ xs, x.canLay0 = true) : PyData.canLayAll0 xs = true := by
  induction xs with
  | nil => rfl
  | cons x r ih =>
    unfold PyData.canLayAll0
    rw [h x List.mem_cons_self, ih fun y hy => h y (List.mem_cons_of_mem _ hy)]
    rfl
theorem depthAll {xs : List PyData} {n : Nat} (h : ∀ x ∈ xs, x.depth ≤ n) : PyData.depthAll xs ≤ n := by
  induction xs with
  | nil => exact Nat.zero_le _
  | cons x r ih =>
    unfold PyData.depthAll
    exact Nat.max_le.mpr ⟨h x List.mem_cons_self, ih fun y hy => h y (List.mem_cons_of_mem _ hy)⟩
theorem sh_list {xs : List PyData} (h : ∀ x ∈ xs, x.canLay0 = true ∧ x.depth ≤ 60) : SeqAt.shaped (.list xs) = true := by
  unfold SeqAt.shaped PyData.canLay0 PyData.depth
  rw [canLayAll fun x hx => (h x hx).1]
  have := depthAll fun x hx => (h x hx).2
  rw [decide_eq_true (by omega)]
  rfl
theorem sh_tup {xs : List PyData} (h : ∀ x ∈ xs, x.canLay0 = true ∧ x.depth ≤ 60) : SeqAt.shaped (.tuple xs) = true := by
  unfold SeqAt.shaped PyData.canLay0 PyData.depth
  rw [canLayAll fun x hx => (h x hx).1]
  have := depthAll fun x hx => (h x hx).2
  rw [decide_eq_true (by omega)]
  rfl
theorem eqv_all_nil (xs : List PyData) : PyData.eqvAll xs [] = xs.isEmpty := by
  cases xs <;> rfl
theorem eqLN {xs : List PyData} (h : ∀ x ∈ xs, x.canLay0 = true ∧ x.depth ≤ 60) : pyEq (.list xs) (.list []) = some xs.isEmpty := by
  unfold pyEq
  rw [if_pos ⟨sh_list h, sh_list (fun x hx => absurd hx List.not_mem_nil)⟩]
  unfold PyData.eqv
  rw [eqv_all_nil]
theorem eqTN {xs : List PyData} (h : ∀ x ∈ xs, x.canLay0 = true ∧ x.depth ≤ 60) : pyEq (.tuple xs) (.tuple []) = some xs.isEmpty := by
  unfold pyEq
  rw [if_pos ⟨sh_tup h, sh_tup (fun x hx => absurd hx List.not_mem_nil)⟩]
  unfold PyData.eqv
  rw [eqv_all_nil]
def lS (w : Int) (ws : List Nat) (i : Nat) (a : Option Sv) : Sl := [some (.dat (.int w)), some (.dat (.tuple (nD ws))), some (.own (nD (fs w ws i).1)), some (.dat (.int (fs w ws i).2)), a]
theorem sp_law_filled (w : Int) (ws : List Nat) (hn : ws.length < 1000) (B : Bx) : d_law_filled [.dat (.int w), .dat (.tuple (nD ws))] B = some (.dat (.tuple (nD (filled w ws))), B) := by
  obtain ⟨s2, B2, e, h⟩ := forGo_inv (tg := gN 4) (body := law_filled_L1) (rngD 0 ws.length) (fun i sl B' => B' = B ∧ ∃ a, sl = lS w ws i a) (fun i x sl B' hx hp => by
    obtain ⟨hi, rfl⟩ := rngD_get hx
    obtain ⟨rfl, a, rfl⟩ := hp
    rw [Int.zero_add]
    refine ⟨_, lS w ws (i + 1) (some (.dat (.int i))), B', rfl, .inl ?_, rfl, _, rfl⟩
    have hl := fs_len w ws i
    have hsz : ((nD (fs w ws i).1).length < sizeLine) = True := eq_true (by rw [nD_len]; exact szlt (by omega))
    have hix := ixT (nD_at hi)
    have hn1 := eqLN (nD_lay (fs w ws i).1)
    unfold lS
    by_cases hc : (fs w ws i).1 = [] ∨ (fs w ws i).2 < (ws.getD i 0 : Nat)
    · have q1 : fs w ws (i + 1) = ((fs w ws i).1 ++ [i], w - (ws.getD i 0 : Nat)) := if_pos hc
      rw [q1]
      simp only
      generalize ws.getD i 0 = x at *
      generalize fs w ws i = fl at *
      obtain ⟨f, l⟩ := fl
      simp only at hc hsz hn1 ⊢
      by_cases hf : f = []
      · subst hf
        have q3 : (nD []).isEmpty = true := rfl
        rw [q3] at hn1
        simp only [k_dC, k_var_ap, k_varO_ap, k_varV_ap, k_op, k_op1, k_op2, k_fin, k_tst, k_t1, k_t2, k_tF, k_opB, k_B, k_neg, k_neg1, k_andT, k_orT, k_notT, k_and1, k_and0, k_or1, k_or0, k_not1, k_tru, k_tru1, k_andV, k_orV, k_notV, k_andV1, k_andV0, k_orV1, k_orV0, k_notV1, k_if, k_if1, k_if0, k_ifD, k_nil, k_cons, k_cons1, k_cons2, k_nilA, k_consA, k_consA1, k_consA2, k_V, k_V1, k_F, k_F1, k_tup, k_tup1, k_lst, k_lst1, k_cl, k_cl1, k_clL, k_clL1, k_finL, k_isi, k_isi1, k_fn, k_fn1, k_dat, k_fnV, k_fnV1, k_seqI, k_seqI1, k_seqI2, k_rng1, k_rng1', k_rng2, k_rng2a, k_rng2b, k_enum, k_enum1, k_zip, k_zip1, k_zip2, k_P, k_P1, k_noP, k_sl, k_sl1, k_sl2, k_sl3, k_cmp, k_cmp1, k_yes, k_seq, k_seq1, k_seq2, k_seq3, k_seq4, k_next, k_brk, k_cont, k_retN, k_asg, k_asg1, k_asgV, k_asgV1, k_asgV2, k_asgV3, k_asgO, k_asgO1, k_asgG, k_asgG1, k_nx, k_gN, k_gT, k_gC, k_g1, k_g0, k_par, k_par1, k_par2, k_drop, k_drop1, k_ret, k_ret1, k_retV, k_retV1, k_ifS, k_ifS1, k_ifS0, k_ifSD, k_fz_ap, k_app, k_app1, k_for, k_for1, k_aug1, k_fun1, k_fun2, k_idx, k_idx1, k_idx2, k_lenC, k_lenC1, k_popC, k_bset, k_getC, k_getC1, k_getC2, k_bg1, k_bg2, k_bs1, k_bs2, k_bc, k_pop1, k_chn, k_chn1, k_chn2, k_chn3t, k_chn3f, k_chn4, k_tfo, k_chnB, k_chB, k_rev, k_rev1, k_revL, k_revL1, k_rg1, k_rg1', k_tupRg, k_tupRg1, k_lstRg, k_lstRg1, k_srt, k_srt1, k_parLE, k_parLE1, k_parLE2, k_augA, k_augA1, sz0, sz1, sz2, sz3, sz4, sz5, sz6, k_fun, eqI, neI, addI, subI, ltI, leI, gtI, geI, truD, isTy, tyName, pyLen, pyAbs, pyMin2, pyMax2, pyInt, pyTuple, pyList, pyIs, pyIsNot, isNon, nown, wipeD, Option.map_some, List.getElem?_cons_zero, List.getElem?_cons_succ, List.set_cons_zero, List.set_cons_succ, List.map_cons, List.map_nil, List.cons_append, List.nil_append, List.length_cons, List.length_nil, List.all_cons, List.all_nil, List.replicate_succ, List.replicate_zero, Bool.and_true, Bool.true_and, Bool.and_self, Bool.not_true, Bool.not_false, and_self, and_true, true_and, if_true, if_false, reduceIte, reduceCtorEq, decide_true, decide_false, Bool.false_eq_true, Nat.reduceAdd, Nat.reduceEqDiff, law_filled_L1, hix, hn1, sz0, hsz, nD_snoc]
      · have hlt : l < (x : Int) := by rcases hc with z | z; exact absurd z hf; exact z
        have q2 := eq_true hlt
        have q3 : (nD f).isEmpty = false := by
          rw [nD_emp]
          cases f with
          | nil => exact absurd rfl hf
          | cons _ _ => rfl
        rw [q3] at hn1
        simp only [k_dC, k_var_ap, k_varO_ap, k_varV_ap, k_op, k_op1, k_op2, k_fin, k_tst, k_t1, k_t2, k_tF, k_opB, k_B, k_neg, k_neg1, k_andT, k_orT, k_notT, k_and1, k_and0, k_or1, k_or0, k_not1, k_tru, k_tru1, k_andV, k_orV, k_notV, k_andV1, k_andV0, k_orV1, k_orV0, k_notV1, k_if, k_if1, k_if0, k_ifD, k_nil, k_cons, k_cons1, k_cons2, k_nilA, k_consA, k_consA1, k_consA2, k_V, k_V1, k_F, k_F1, k_tup, k_tup1, k_lst, k_lst1, k_cl, k_cl1, k_clL, k_clL1, k_finL, k_isi, k_isi1, k_fn, k_fn1, k_dat, k_fnV, k_fnV1, k_seqI, k_seqI1, k_seqI2, k_rng1, k_rng1', k_rng2, k_rng2a, k_rng2b, k_enum, k_enum1, k_zip, k_zip1, k_zip2, k_P, k_P1, k_noP, k_sl, k_sl1, k_sl2, k_sl3, k_cmp, k_cmp1, k_yes, k_seq, k_seq1, k_seq2, k_seq3, k_seq4, k_next, k_brk, k_cont, k_retN, k_asg, k_asg1, k_asgV, k_asgV1, k_asgV2, k_asgV3, k_asgO, k_asgO1, k_asgG, k_asgG1, k_nx, k_gN, k_gT, k_gC, k_g1, k_g0, k_par, k_par1, k_par2, k_drop, k_drop1, k_ret, k_ret1, k_retV, k_retV1, k_ifS, k_ifS1, k_ifS0, k_ifSD, k_fz_ap, k_app, k_app1, k_for, k_for1, k_aug1, k_fun1, k_fun2, k_idx, k_idx1, k_idx2, k_lenC, k_lenC1, k_popC, k_bset, k_getC, k_getC1, k_getC2, k_bg1, k_bg2, k_bs1, k_bs2, k_bc, k_pop1, k_chn, k_chn1, k_chn2, k_chn3t, k_chn3f, k_chn4, k_tfo, k_chnB, k_chB, k_rev, k_rev1, k_revL, k_revL1, k_rg1, k_rg1', k_tupRg, k_tupRg1, k_lstRg, k_lstRg1, k_srt, k_srt1, k_parLE, k_parLE1, k_parLE2, k_augA, k_augA1, sz0, sz1, sz2, sz3, sz4, sz5, sz6, k_fun, eqI, neI, addI, subI, ltI, leI, gtI, geI, truD, isTy, tyName, pyLen, pyAbs, pyMin2, pyMax2, pyInt, pyTuple, pyList, pyIs, pyIsNot, isNon, nown, wipeD, Option.map_some, List.getElem?_cons_zero, List.getElem?_cons_succ, List.set_cons_zero, List.set_cons_succ, List.map_cons, List.map_nil, List.cons_append, List.nil_append, List.length_cons, List.length_nil, List.all_cons, List.all_nil, List.replicate_succ, List.replicate_zero, Bool.and_true, Bool.true_and, Bool.and_self, Bool.not_true, Bool.not_false, and_self, and_true, true_and, if_true, if_false, reduceIte, reduceCtorEq, decide_true, decide_false, Bool.false_eq_true, Nat.reduceAdd, Nat.reduceEqDiff, law_filled_L1, hix, hn1, q2, sz0, hsz, nD_snoc]
    · have q1 : fs w ws (i + 1) = ((fs w ws i).1, (fs w ws i).2 - (ws.getD i 0 : Nat)) := if_neg hc
      rw [q1]
      simp only
      generalize ws.getD i 0 = x at *
      generalize fs w ws i = fl at *
      obtain ⟨f, l⟩ := fl
      simp only at hc hsz hn1 ⊢
      have q2 : (l < (x : Int)) = False := eq_false fun z => hc (.inr z)
      have q3 : (nD f).isEmpty = false := by
        rw [nD_emp]
        cases f with
        | nil => exact absurd (.inl rfl) hc
        | cons _ _ => rfl
      rw [q3] at hn1
      simp only [k_dC, k_var_ap, k_varO_ap, k_varV_ap, k_op, k_op1, k_op2, k_fin, k_tst, k_t1, k_t2, k_tF, k_opB, k_B, k_neg, k_neg1, k_andT, k_orT, k_notT, k_and1, k_and0, k_or1, k_or0, k_not1, k_tru, k_tru1, k_andV, k_orV, k_notV, k_andV1, k_andV0, k_orV1, k_orV0, k_notV1, k_if, k_if1, k_if0, k_ifD, k_nil, k_cons, k_cons1, k_cons2, k_nilA, k_consA, k_consA1, k_consA2, k_V, k_V1, k_F, k_F1, k_tup, k_tup1, k_lst, k_lst1, k_cl, k_cl1, k_clL, k_clL1, k_finL, k_isi, k_isi1, k_fn, k_fn1, k_dat, k_fnV, k_fnV1, k_seqI, k_seqI1, k_seqI2, k_rng1, k_rng1', k_rng2, k_rng2a, k_rng2b, k_enum, k_enum1, k_zip, k_zip1, k_zip2, k_P, k_P1, k_noP, k_sl, k_sl1, k_sl2, k_sl3, k_cmp, k_cmp1, k_yes, k_seq, k_seq1, k_seq2, k_seq3, k_seq4, k_next, k_brk, k_cont, k_retN, k_asg, k_asg1, k_asgV, k_asgV1, k_asgV2, k_asgV3, k_asgO, k_asgO1, k_asgG, k_asgG1, k_nx, k_gN, k_gT, k_gC, k_g1, k_g0, k_par, k_par1, k_par2, k_drop, k_drop1, k_ret, k_ret1, k_retV, k_retV1, k_ifS, k_ifS1, k_ifS0, k_ifSD, k_fz_ap, k_app, k_app1, k_for, k_for1, k_aug1, k_fun1, k_fun2, k_idx, k_idx1, k_idx2, k_lenC, k_lenC1, k_popC, k_bset, k_getC, k_getC1, k_getC2, k_bg1, k_bg2, k_bs1, k_bs2, k_bc, k_pop1, k_chn, k_chn1, k_chn2, k_chn3t, k_chn3f, k_chn4, k_tfo, k_chnB, k_chB, k_rev, k_rev1, k_revL, k_revL1, k_rg1, k_rg1', k_tupRg, k_tupRg1, k_lstRg, k_lstRg1, k_srt, k_srt1, k_parLE, k_parLE1, k_parLE2, k_augA, k_augA1, sz0, sz1, sz2, sz3, sz4, sz5, sz6, k_fun, eqI, neI, addI, subI, ltI, leI, gtI, geI, truD, isTy, tyName, pyLen, pyAbs, pyMin2, pyMax2, pyInt, pyTuple, pyList, pyIs, pyIsNot, isNon, nown, wipeD, Option.map_some, List.getElem?_cons_zero, List.getElem?_cons_succ, List.set_cons_zero, List.set_cons_succ, List.map_cons, List.map_nil, List.cons_append, List.nil_append, List.length_cons, List.length_nil, List.all_cons, List.all_nil, List.replicate_succ, List.replicate_zero, Bool.and_true, Bool.true_and, Bool.and_self, Bool.not_true, Bool.not_false, and_self, and_true, true_and, if_true, if_false, reduceIte, reduceCtorEq, decide_true, decide_false, Bool.false_eq_true, Nat.reduceAdd, Nat.reduceEqDiff, law_filled_L1, hix, hn1, q2, sz0])
    0 (lS w ws 0 none) B (Nat.zero_le _) ⟨rfl, none, rfl⟩
  obtain ⟨rfl, a, rfl⟩ := h
  rw [rngD_length, List.drop_zero] at e
  unfold lS at e
  rw [show (fs w ws 0) = ([], 0) from rfl] at e
  have z : nD (([], (0 : Int)) : List Nat × Int).1 = [] := rfl
  rw [z] at e
  simp only at e
  have r1 := rng_ok (n := ws.length) (by omega)
  simp only [k_dC, k_var_ap, k_varO_ap, k_varV_ap, k_op, k_op1, k_op2, k_fin, k_tst, k_t1, k_t2, k_tF, k_opB, k_B, k_neg, k_neg1, k_andT, k_orT, k_notT, k_and1, k_and0, k_or1, k_or0, k_not1, k_tru, k_tru1, k_andV, k_orV, k_notV, k_andV1, k_andV0, k_orV1, k_orV0, k_notV1, k_if, k_if1, k_if0, k_ifD, k_nil, k_cons, k_cons1, k_cons2, k_nilA, k_consA, k_consA1, k_consA2, k_V, k_V1, k_F, k_F1, k_tup, k_tup1, k_lst, k_lst1, k_cl, k_cl1, k_clL, k_clL1, k_finL, k_isi, k_isi1, k_fn, k_fn1, k_dat, k_fnV, k_fnV1, k_seqI, k_seqI1, k_seqI2, k_rng1, k_rng1', k_rng2, k_rng2a, k_rng2b, k_enum, k_enum1, k_zip, k_zip1, k_zip2, k_P, k_P1, k_noP, k_sl, k_sl1, k_sl2, k_sl3, k_cmp, k_cmp1, k_yes, k_seq, k_seq1, k_seq2, k_seq3, k_seq4, k_next, k_brk, k_cont, k_retN, k_asg, k_asg1, k_asgV, k_asgV1, k_asgV2, k_asgV3, k_asgO, k_asgO1, k_asgG, k_asgG1, k_nx, k_gN, k_gT, k_gC, k_g1, k_g0, k_par, k_par1, k_par2, k_drop, k_drop1, k_ret, k_ret1, k_retV, k_retV1, k_ifS, k_ifS1, k_ifS0, k_ifSD, k_fz_ap, k_app, k_app1, k_for, k_for1, k_aug1, k_fun1, k_fun2, k_idx, k_idx1, k_idx2, k_lenC, k_lenC1, k_popC, k_bset, k_getC, k_getC1, k_getC2, k_at0, k_at1, k_at2, k_bg1, k_bg2, k_bs1, k_bs2, k_bc, k_pop1, k_chn, k_chn1, k_chn2, k_chn3t, k_chn3f, k_chn4, k_tfo, k_chnB, k_chB, k_rev, k_rev1, k_revL, k_revL1, k_rg1, k_rg1', k_tupRg, k_tupRg1, k_lstRg, k_lstRg1, k_srt, k_srt1, k_parLE, k_parLE1, k_parLE2, k_augA, k_augA1, sz0, sz1, sz2, sz3, sz4, sz5, sz6, k_fun, eqI, neI, addI, subI, ltI, leI, gtI, geI, truD, isTy, tyName, pyLen, pyAbs, pyMin2, pyMax2, pyInt, pyTuple, pyList, pyIx, pyIs, pyIsNot, isNon, nown, wipeD, Option.map_some, List.getElem?_cons_zero, List.getElem?_cons_succ, List.set_cons_zero, List.set_cons_succ, List.map_cons, List.map_nil, List.cons_append, List.nil_append, List.length_cons, List.length_nil, List.all_cons, List.all_nil, List.replicate_succ, List.replicate_zero, Bool.and_true, Bool.true_and, Bool.and_self, Bool.not_true, Bool.not_false, and_self, and_true, true_and, if_true, if_false, reduceIte, reduceCtorEq, decide_true, decide_false, Bool.false_eq_true, Nat.reduceAdd, Nat.reduceEqDiff, d_law_filled, b_law_filled, nD_len, r1, Int.toNat_natCast, e, filled]
end Dn

-- dk2
set_option Elab.async false
set_option linter.all false
set_option autoImplicit false
set_option maxRecDepth 100000
set_option maxHeartbeats 4000000
set_option exponentiation.threshold 100000
namespace Dn
open PySem
/-! ### plain equality -/
mutual
def pln : PyData → Bool
  | .none | .bool _ | .int _ => true
  | .tuple xs => decide (xs.length < 1000) && plnAll xs
  | _ => false
def plnAll : List PyData → Bool
  | [] => true
  | x :: xs => pln x && plnAll xs
end
mutual
def dep : PyData → Nat
  | .tuple xs => depAll xs + 1
  | _ => 0
def depAll : List PyData → Nat
  | [] => 0
  | x :: xs => max (dep x) (depAll xs)
end
theorem pln_mem : ∀ {xs : List PyData}, plnAll xs = true → ∀ x ∈ xs, pln x = true
  | [], _, x, h => by cases h
  | y :: ys, h, x, hx => by
    unfold plnAll at h
    rw [Bool.and_eq_true] at h
    rcases List.mem_cons.mp hx with e | e
    · rw [e]; exact h.1
    · exact pln_mem h.2 x e
theorem dep_mem : ∀ {xs : List PyData}, ∀ x ∈ xs, dep x ≤ depAll xs
  | [], x, h => by cases h
  | y :: ys, x, hx => by
    unfold depAll
    rcases List.mem_cons.mp hx with e | e
    · rw [e]; exact Nat.le_max_left _ _
    · exact Nat.le_trans (dep_mem x e) (Nat.le_max_right _ _)
theorem all_true {α : Type} (xs : List α) : (xs.map fun _ => true).all id = true := by
  induction xs with
  | nil => rfl
  | cons x r ih => simp
theorem ty_none_tuple  : isTy "tuple" .none = false := by unfold isTy tyName; decide
theorem ty_none_list  : isTy "list" .none = false := by unfold isTy tyName; decide
theorem ty_none_bool  : isTy "bool" .none = false := by unfold isTy tyName; decide
theorem ty_none_int  : isTy "int" .none = false := by unfold isTy tyName; decide
theorem ty_none_str  : isTy "str" .none = false := by unfold isTy tyName; decide
theorem ty_bool_tuple {b : Bool} : isTy "tuple" (.bool b) = false := by rw [show isTy "tuple" (.bool b) = ("bool" == "tuple" || ("tuple" == "int" && "bool" == "bool")) from rfl]; decide
theorem ty_bool_list {b : Bool} : isTy "list" (.bool b) = false := by rw [show isTy "list" (.bool b) = ("bool" == "list" || ("list" == "int" && "bool" == "bool")) from rfl]; decide
theorem ty_bool_bool {b : Bool} : isTy "bool" (.bool b) = true := by rw [show isTy "bool" (.bool b) = ("bool" == "bool" || ("bool" == "int" && "bool" == "bool")) from rfl]; decide
theorem ty_bool_int {b : Bool} : isTy "int" (.bool b) = true := by rw [show isTy "int" (.bool b) = ("bool" == "int" || ("int" == "int" && "bool" == "bool")) from rfl]; decide
theorem ty_bool_str {b : Bool} : isTy "str" (.bool b) = false := by rw [show isTy "str" (.bool b) = ("bool" == "str" || ("str" == "int" && "bool" == "bool")) from rfl]; decide
theorem ty_int_tuple {b : Int} : isTy "tuple" (.int b) = false := by rw [show isTy "tuple" (.int b) = ("int" == "tuple" || ("tuple" == "int" && "int" == "bool")) from rfl]; decide
theorem ty_int_list {b : Int} : isTy "list" (.int b) = false := by rw [show isTy "list" (.int b) = ("int" == "list" || ("list" == "int" && "int" == "bool")) from rfl]; decide
theorem ty_int_bool {b : Int} : isTy "bool" (.int b) = false := by rw [show isTy "bool" (.int b) = ("int" == "bool" || ("bool" == "int" && "int" == "bool")) from rfl]; decide
theorem ty_int_int {b : Int} : isTy "int" (.int b) = true := by rw [show isTy "int" (.int b) = ("int" == "int" || ("int" == "int" && "int" == "bool")) from rfl]; decide
theorem ty_int_str {b : Int} : isTy "str" (.int b) = false := by rw [show isTy "str" (.int b) = ("int" == "str" || ("str" == "int" && "int" == "bool")) from rfl]; decide
theorem ty_str_tuple {b : Str} : isTy "tuple" (.str b) = false := by rw [show isTy "tuple" (.str b) = ("str" == "tuple" || ("tuple" == "int" && "str" == "bool")) from rfl]; decide
theorem ty_str_list {b : Str} : isTy "list" (.str b) = false := by rw [show isTy "list" (.str b) = ("str" == "list" || ("list" == "int" && "str" == "bool")) from rfl]; decide
theorem ty_str_bool {b : Str} : isTy "bool" (.str b) = false := by rw [show isTy "bool" (.str b) = ("str" == "bool" || ("bool" == "int" && "str" == "bool")) from rfl]; decide
theorem ty_str_int {b : Str} : isTy "int" (.str b) = false := by rw [show isTy "int" (.str b) = ("str" == "int" || ("int" == "int" && "str" == "bool")) from rfl]; decide
theorem ty_str_str {b : Str} : isTy "str" (.str b) = true := by rw [show isTy "str" (.str b) = ("str" == "str" || ("str" == "int" && "str" == "bool")) from rfl]; decide
theorem ty_list_tuple {b : List PyData} : isTy "tuple" (.list b) = false := by rw [show isTy "tuple" (.list b) = ("list" == "tuple" || ("tuple" == "int" && "list" == "bool")) from rfl]; decide
theorem ty_list_list {b : List PyData} : isTy "list" (.list b) = true := by rw [show isTy "list" (.list b) = ("list" == "list" || ("list" == "int" && "list" == "bool")) from rfl]; decide
theorem ty_list_bool {b : List PyData} : isTy "bool" (.list b) = false := by rw [show isTy "bool" (.list b) = ("list" == "bool" || ("bool" == "int" && "list" == "bool")) from rfl]; decide
theorem ty_list_int {b : List PyData} : isTy "int" (.list b) = false := by rw [show isTy "int" (.list b) = ("list" == "int" || ("int" == "int" && "list" == "bool")) from rfl]; decide
theorem ty_list_str {b : List PyData} : isTy "str" (.list b) = false := by rw [show isTy "str" (.list b) = ("list" == "str" || ("str" == "int" && "list" == "bool")) from rfl]; decide
theorem ty_tuple_tuple {b : List PyData} : isTy "tuple" (.tuple b) = true := by rw [show isTy "tuple" (.tuple b) = ("tuple" == "tuple" || ("tuple" == "int" && "tuple" == "bool")) from rfl]; decide
theorem ty_tuple_list {b : List PyData} : isTy "list" (.tuple b) = false := by rw [show isTy "list" (.tuple b) = ("tuple" == "list" || ("list" == "int" && "tuple" == "bool")) from rfl]; decide
theorem ty_tuple_bool {b : List PyData} : isTy "bool" (.tuple b) = false := by rw [show isTy "bool" (.tuple b) = ("tuple" == "bool" || ("bool" == "int" && "tuple" == "bool")) from rfl]; decide
theorem ty_tuple_int {b : List PyData} : isTy "int" (.tuple b) = false := by rw [show isTy "int" (.tuple b) = ("tuple" == "int" || ("int" == "int" && "tuple" == "bool")) from rfl]; decide
theorem ty_tuple_str {b : List PyData} : isTy "str" (.tuple b) = false := by rw [show isTy "str" (.tuple b) = ("tuple" == "str" || ("str" == "int" && "tuple" == "bool")) from rfl]; decide
theorem eqB {i j : Bool} : pyEq (.bool i) (.bool j) = some (i == j) := by
  unfold pyEq
  rw [if_pos ⟨sh_bool, sh_bool⟩, eqv_bb]
theorem same_nil (n : Nat) (B : Bx) : d_law_same (n + 1) [.dat .none, .dat .none] B = some (.dat (.bool true), B) := by
  simp only [k_dC, k_var_ap, k_varO_ap, k_varV_ap, k_op, k_op1, k_op2, k_fin, k_tst, k_t1, k_t2, k_tF, k_opB, k_B, k_neg, k_neg1, k_andT, k_orT, k_notT, k_and1, k_and0, k_or1, k_or0, k_not1, k_tru, k_tru1, k_andV, k_orV, k_notV, k_andV1, k_andV0, k_orV1, k_orV0, k_notV1, k_if, k_if1, k_if0, k_ifD, k_nil, k_cons, k_cons1, k_cons2, k_nilA, k_consA, k_consA1, k_consA2, k_V, k_V1, k_F, k_F1, k_tup, k_tup1, k_lst, k_lst1, k_cl, k_cl1, k_clL, k_clL1, k_finL, k_isi, k_isi1, k_fn, k_fn1, k_dat, k_fnV, k_fnV1, k_seqI, k_seqI1, k_seqI2, k_rng1, k_rng1', k_rng2, k_rng2a, k_rng2b, k_enum, k_enum1, k_zip, k_zip1, k_zip2, k_P, k_P1, k_noP, k_sl, k_sl1, k_sl2, k_sl3, k_cmp, k_cmp1, k_yes, k_seq, k_seq1, k_seq2, k_seq3, k_seq4, k_next, k_brk, k_cont, k_retN, k_asg, k_asg1, k_asgV, k_asgV1, k_asgV2, k_asgV3, k_asgO, k_asgO1, k_asgG, k_asgG1, k_nx, k_gN, k_gT, k_gC, k_g1, k_g0, k_par, k_par1, k_par2, k_drop, k_drop1, k_ret, k_ret1, k_retV, k_retV1, k_ifS, k_ifS1, k_ifS0, k_ifSD, k_fz_ap, k_app, k_app1, k_for, k_for1, k_aug1, k_fun1, k_fun2, k_idx, k_idx1, k_idx2, k_lenC, k_lenC1, k_popC, k_bset, k_getC, k_getC1, k_getC2, k_at0, k_at1, k_at2, k_bg1, k_bg2, k_bs1, k_bs2, k_bc, k_pop1, k_chn, k_chn1, k_chn2, k_chn3t, k_chn3f, k_chn4, k_tfo, k_chnB, k_chB, k_rev, k_rev1, k_revL, k_revL1, k_rg1, k_rg1', k_tupRg, k_tupRg1, k_lstRg, k_lstRg1, k_srt, k_srt1, k_parLE, k_parLE1, k_parLE2, k_augA, k_augA1, sz0, sz1, sz2, sz3, sz4, sz5, sz6, k_fun, eqI, neI, addI, subI, ltI, leI, gtI, geI, truD, pyLen, pyAbs, pyMin2, pyMax2, pyInt, pyTuple, pyList, pyIx, pyIs, pyIsNot, isNon, nown, wipeD, Option.map_some, List.getElem?_cons_zero, List.getElem?_cons_succ, List.set_cons_zero, List.set_cons_succ, List.map_cons, List.map_nil, List.cons_append, List.nil_append, List.length_cons, List.length_nil, List.all_cons, List.all_nil, List.replicate_succ, List.replicate_zero, Bool.and_true, Bool.true_and, Bool.and_self, Bool.not_true, Bool.not_false, and_self, and_true, true_and, if_true, if_false, reduceIte, reduceCtorEq, decide_true, decide_false, Bool.false_eq_true, Nat.reduceAdd, Nat.reduceEqDiff, ty_none_tuple, ty_none_list, ty_none_bool, ty_none_int, ty_none_str, ty_bool_tuple, ty_bool_list, ty_bool_bool, ty_bool_int, ty_bool_str, ty_int_tuple, ty_int_list, ty_int_bool, ty_int_int, ty_int_str, ty_str_tuple, ty_str_list, ty_str_bool, ty_str_int, ty_str_str, ty_list_tuple, ty_list_list, ty_list_bool, ty_list_int, ty_list_str, ty_tuple_tuple, ty_tuple_list, ty_tuple_bool, ty_tuple_int, ty_tuple_str, d_law_same, b_law_same]
theorem same_bool (n : Nat) (b : Bool) (B : Bx) : d_law_same (n + 1) [.dat (.bool b), .dat (.bool b)] B = some (.dat (.bool true), B) := by
  simp only [k_dC, k_var_ap, k_varO_ap, k_varV_ap, k_op, k_op1, k_op2, k_fin, k_tst, k_t1, k_t2, k_tF, k_opB, k_B, k_neg, k_neg1, k_andT, k_orT, k_notT, k_and1, k_and0, k_or1, k_or0, k_not1, k_tru, k_tru1, k_andV, k_orV, k_notV, k_andV1, k_andV0, k_orV1, k_orV0, k_notV1, k_if, k_if1, k_if0, k_ifD, k_nil, k_cons, k_cons1, k_cons2, k_nilA, k_consA, k_consA1, k_consA2, k_V, k_V1, k_F, k_F1, k_tup, k_tup1, k_lst, k_lst1, k_cl, k_cl1, k_clL, k_clL1, k_finL, k_isi, k_isi1, k_fn, k_fn1, k_dat, k_fnV, k_fnV1, k_seqI, k_seqI1, k_seqI2, k_rng1, k_rng1', k_rng2, k_rng2a, k_rng2b, k_enum, k_enum1, k_zip, k_zip1, k_zip2, k_P, k_P1, k_noP, k_sl, k_sl1, k_sl2, k_sl3, k_cmp, k_cmp1, k_yes, k_seq, k_seq1, k_seq2, k_seq3, k_seq4, k_next, k_brk, k_cont, k_retN, k_asg, k_asg1, k_asgV, k_asgV1, k_asgV2, k_asgV3, k_asgO, k_asgO1, k_asgG, k_asgG1, k_nx, k_gN, k_gT, k_gC, k_g1, k_g0, k_par, k_par1, k_par2, k_drop, k_drop1, k_ret, k_ret1, k_retV, k_retV1, k_ifS, k_ifS1, k_ifS0, k_ifSD, k_fz_ap, k_app, k_app1, k_for, k_for1, k_aug1, k_fun1, k_fun2, k_idx, k_idx1, k_idx2, k_lenC, k_lenC1, k_popC, k_bset, k_getC, k_getC1, k_getC2, k_at0, k_at1, k_at2, k_bg1, k_bg2, k_bs1, k_bs2, k_bc, k_pop1, k_chn, k_chn1, k_chn2, k_chn3t, k_chn3f, k_chn4, k_tfo, k_chnB, k_chB, k_rev, k_rev1, k_revL, k_revL1, k_rg1, k_rg1', k_tupRg, k_tupRg1, k_lstRg, k_lstRg1, k_srt, k_srt1, k_parLE, k_parLE1, k_parLE2, k_augA, k_augA1, sz0, sz1, sz2, sz3, sz4, sz5, sz6, k_fun, eqI, neI, addI, subI, ltI, leI, gtI, geI, truD, pyLen, pyAbs, pyMin2, pyMax2, pyInt, pyTuple, pyList, pyIx, pyIs, pyIsNot, isNon, nown, wipeD, Option.map_some, List.getElem?_cons_zero, List.getElem?_cons_succ, List.set_cons_zero, List.set_cons_succ, List.map_cons, List.map_nil, List.cons_append, List.nil_append, List.length_cons, List.length_nil, List.all_cons, List.all_nil, List.replicate_succ, List.replicate_zero, Bool.and_true, Bool.true_and, Bool.and_self, Bool.not_true, Bool.not_false, and_self, and_true, true_and, if_true, if_false, reduceIte, reduceCtorEq, decide_true, decide_false, Bool.false_eq_true, Nat.reduceAdd, Nat.reduceEqDiff, ty_none_tuple, ty_none_list, ty_none_bool, ty_none_int, ty_none_str, ty_bool_tuple, ty_bool_list, ty_bool_bool, ty_bool_int, ty_bool_str, ty_int_tuple, ty_int_list, ty_int_bool, ty_int_int, ty_int_str, ty_str_tuple, ty_str_list, ty_str_bool, ty_str_int, ty_str_str, ty_list_tuple, ty_list_list, ty_list_bool, ty_list_int, ty_list_str, ty_tuple_tuple, ty_tuple_list, ty_tuple_bool, ty_tuple_int, ty_tuple_str, d_law_same, b_law_same, eqB]
  rw [beq_self_eq_true]
theorem same_int (n : Nat) (b : Int) (B : Bx) : d_law_same (n + 1) [.dat (.int b), .dat (.int b)] B = some (.dat (.bool true), B) := by
  simp only [k_dC, k_var_ap, k_varO_ap, k_varV_ap, k_op, k_op1, k_op2, k_fin, k_tst, k_t1, k_t2, k_tF, k_opB, k_B, k_neg, k_neg1, k_andT, k_orT, k_notT, k_and1, k_and0, k_or1, k_or0, k_not1, k_tru, k_tru1, k_andV, k_orV, k_notV, k_andV1, k_andV0, k_orV1, k_orV0, k_notV1, k_if, k_if1, k_if0, k_ifD, k_nil, k_cons, k_cons1, k_cons2, k_nilA, k_consA, k_consA1, k_consA2, k_V, k_V1, k_F, k_F1, k_tup, k_tup1, k_lst, k_lst1, k_cl, k_cl1, k_clL, k_clL1, k_finL, k_isi, k_isi1, k_fn, k_fn1, k_dat, k_fnV, k_fnV1, k_seqI, k_seqI1, k_seqI2, k_rng1, k_rng1', k_rng2, k_rng2a, k_rng2b, k_enum, k_enum1, k_zip, k_zip1, k_zip2, k_P, k_P1, k_noP, k_sl, k_sl1, k_sl2, k_sl3, k_cmp, k_cmp1, k_yes, k_seq, k_seq1, k_seq2, k_seq3, k_seq4, k_next, k_brk, k_cont, k_retN, k_asg, k_asg1, k_asgV, k_asgV1, k_asgV2, k_asgV3, k_asgO, k_asgO1, k_asgG, k_asgG1, k_nx, k_gN, k_gT, k_gC, k_g1, k_g0, k_par, k_par1, k_par2, k_drop, k_drop1, k_ret, k_ret1, k_retV, k_retV1, k_ifS, k_ifS1, k_ifS0, k_ifSD, k_fz_ap, k_app, k_app1, k_for, k_for1, k_aug1, k_fun1, k_fun2, k_idx, k_idx1, k_idx2, k_lenC, k_lenC1, k_popC, k_bset, k_getC, k_getC1, k_getC2, k_at0, k_at1, k_at2, k_bg1, k_bg2, k_bs1, k_bs2, k_bc, k_pop1, k_chn, k_chn1, k_chn2, k_chn3t, k_chn3f, k_chn4, k_tfo, k_chnB, k_chB, k_rev, k_rev1, k_revL, k_revL1, k_rg1, k_rg1', k_tupRg, k_tupRg1, k_lstRg, k_lstRg1, k_srt, k_srt1, k_parLE, k_parLE1, k_parLE2, k_augA, k_augA1, sz0, sz1, sz2, sz3, sz4, sz5, sz6, k_fun, eqI, neI, addI, subI, ltI, leI, gtI, geI, truD, pyLen, pyAbs, pyMin2, pyMax2, pyInt, pyTuple, pyList, pyIx, pyIs, pyIsNot, isNon, nown, wipeD, Option.map_some, List.getElem?_cons_zero, List.getElem?_cons_succ, List.set_cons_zero, List.set_cons_succ, List.map_cons, List.map_nil, List.cons_append, List.nil_append, List.length_cons, List.length_nil, List.all_cons, List.all_nil, List.replicate_succ, List.replicate_zero, Bool.and_true, Bool.true_and, Bool.and_self, Bool.not_true, Bool.not_false, and_self, and_true, true_and, if_true, if_false, reduceIte, reduceCtorEq, decide_true, decide_false, Bool.false_eq_true, Nat.reduceAdd, Nat.reduceEqDiff, ty_none_tuple, ty_none_list, ty_none_bool, ty_none_int, ty_none_str, ty_bool_tuple, ty_bool_list, ty_bool_bool, ty_bool_int, ty_bool_str, ty_int_tuple, ty_int_list, ty_int_bool, ty_int_int, ty_int_str, ty_str_tuple, ty_str_list, ty_str_bool, ty_str_int, ty_str_str, ty_list_tuple, ty_list_list, ty_list_bool, ty_list_int, ty_list_str, ty_tuple_tuple, ty_tuple_list, ty_tuple_bool, ty_tuple_int, ty_tuple_str, d_law_same, b_law_same]
theorem bols_true (ys : List PyData) : bolsOf (ys.map fun _ => PyData.bool true) = some (ys.map fun _ => true) := by
  induction ys with
  | nil => rfl
  | cons y r ih => unfold bolsOf; simp only [List.map_cons]; rw [ih]; rfl
theorem all_trues (ys : List PyData) : pyAll [.list (ys.map fun _ => PyData.bool true)] = some (.bool true) := by
  have e : pyAll [.list (ys.map fun _ => PyData.bool true)] = (bolsOf (ys.map fun _ => PyData.bool true)).map fun ns => PyData.bool (ns.all id) := rfl
  rw [e, bols_true, Option.map_some, all_true]
theorem st_1 (n : Nat) (xs : List PyData) (B : Bx) (i : Nat) (hi : i < xs.length) (ih : d_law_same n [.dat xs[i], .dat xs[i]] B = some (.dat (.bool true), B)) : (dFn (d_law_same n) (dConsA (dV (dOp pyIx (dVarO 0) (dVarO 2))) (dConsA (dV (dOp pyIx (dVarO 1) (dVarO 2))) dNilA))) [some (.dat (.tuple xs)), some (.dat (.tuple xs)), some (.dat (.int (0 + i)))] B = some (.bool true, B) := by
    simp only [k_dC, k_var_ap, k_varO_ap, k_varV_ap, k_op, k_op1, k_op2, k_fin, k_tst, k_t1, k_t2, k_tF, k_opB, k_B, k_neg, k_neg1, k_andT, k_orT, k_notT, k_and1, k_and0, k_or1, k_or0, k_not1, k_tru, k_tru1, k_andV, k_orV, k_notV, k_andV1, k_andV0, k_orV1, k_orV0, k_notV1, k_if, k_if1, k_if0, k_ifD, k_nil, k_cons, k_cons1, k_cons2, k_nilA, k_consA, k_consA1, k_consA2, k_V, k_V1, k_F, k_F1, k_tup, k_tup1, k_lst, k_lst1, k_cl, k_cl1, k_clL, k_clL1, k_finL, k_isi, k_isi1, k_fn, k_fn1, k_dat, k_fnV, k_fnV1, k_seqI, k_seqI1, k_seqI2, k_rng1, k_rng1', k_rng2, k_rng2a, k_rng2b, k_enum, k_enum1, k_zip, k_zip1, k_zip2, k_P, k_P1, k_noP, k_sl, k_sl1, k_sl2, k_sl3, k_cmp, k_cmp1, k_yes, k_seq, k_seq1, k_seq2, k_seq3, k_seq4, k_next, k_brk, k_cont, k_retN, k_asg, k_asg1, k_asgV, k_asgV1, k_asgV2, k_asgV3, k_asgO, k_asgO1, k_asgG, k_asgG1, k_nx, k_gN, k_gT, k_gC, k_g1, k_g0, k_par, k_par1, k_par2, k_drop, k_drop1, k_ret, k_ret1, k_retV, k_retV1, k_ifS, k_ifS1, k_ifS0, k_ifSD, k_fz_ap, k_app, k_app1, k_for, k_for1, k_aug1, k_fun1, k_fun2, k_idx, k_idx1, k_idx2, k_lenC, k_lenC1, k_popC, k_bset, k_getC, k_getC1, k_getC2, k_at0, k_at1, k_at2, k_bg1, k_bg2, k_bs1, k_bs2, k_bc, k_pop1, k_chn, k_chn1, k_chn2, k_chn3t, k_chn3f, k_chn4, k_tfo, k_chnB, k_chB, k_rev, k_rev1, k_revL, k_revL1, k_rg1, k_rg1', k_tupRg, k_tupRg1, k_lstRg, k_lstRg1, k_srt, k_srt1, k_parLE, k_parLE1, k_parLE2, k_augA, k_augA1, sz0, sz1, sz2, sz3, sz4, sz5, sz6, k_fun, eqI, neI, addI, subI, ltI, leI, gtI, geI, truD, pyLen, pyAbs, pyMin2, pyMax2, pyInt, pyTuple, pyList, pyIx, pyIs, pyIsNot, isNon, nown, wipeD, Option.map_some, List.getElem?_cons_zero, List.getElem?_cons_succ, List.set_cons_zero, List.set_cons_succ, List.map_cons, List.map_nil, List.cons_append, List.nil_append, List.length_cons, List.length_nil, List.all_cons, List.all_nil, List.replicate_succ, List.replicate_zero, Bool.and_true, Bool.true_and, Bool.and_self, Bool.not_true, Bool.not_false, and_self, and_true, true_and, if_true, if_false, reduceIte, reduceCtorEq, decide_true, decide_false, Bool.false_eq_true, Nat.reduceAdd, Nat.reduceEqDiff, ty_none_tuple, ty_none_list, ty_none_bool, ty_none_int, ty_none_str, ty_bool_tuple, ty_bool_list, ty_bool_bool, ty_bool_int, ty_bool_str, ty_int_tuple, ty_int_list, ty_int_bool, ty_int_int, ty_int_str, ty_str_tuple, ty_str_list, ty_str_bool, ty_str_int, ty_str_str, ty_list_tuple, ty_list_list, ty_list_bool, ty_list_int, ty_list_str, ty_tuple_tuple, ty_tuple_list, ty_tuple_bool, ty_tuple_int, ty_tuple_str, Int.zero_add, at_nat hi, ih]
theorem st_2 (n : Nat) (xs : List PyData) (B : Bx) (ih : ∀ i, ∀ h : i < xs.length, d_law_same n [.dat xs[i], .dat xs[i]] B = some (.dat (.bool true), B)) : cmpGo (gN 2) dYes (dFn (d_law_same n) (dConsA (dV (dOp pyIx (dVarO 0) (dVarO 2))) (dConsA (dV (dOp pyIx (dVarO 1) (dVarO 2))) dNilA))) [some (.dat (.tuple xs)), some (.dat (.tuple xs)), none] (rngD 0 xs.length) B = some ((rngD 0 xs.length).map fun _ => .bool true, B) := by
    refine cmpGo_map _ _ fun x hx => ?_
    obtain ⟨i, hi, rfl⟩ := rngD_mem hx
    exact ⟨_, k_gN, st_1 n xs B i hi (ih i hi)⟩
theorem st_3 (xs : List PyData) (B : Bx) (hl : xs.length < 1000000) : dRng1 (dCl pyLen (dCons (dVarO 0) dNil)) [some (.dat (.tuple xs)), some (.dat (.tuple xs)), none] B = some (rngD 0 xs.length, B) := by
  have r1 := rng_ok hl
  simp only [k_dC, k_var_ap, k_varO_ap, k_varV_ap, k_op, k_op1, k_op2, k_fin, k_tst, k_t1, k_t2, k_tF, k_opB, k_B, k_neg, k_neg1, k_andT, k_orT, k_notT, k_and1, k_and0, k_or1, k_or0, k_not1, k_tru, k_tru1, k_andV, k_orV, k_notV, k_andV1, k_andV0, k_orV1, k_orV0, k_notV1, k_if, k_if1, k_if0, k_ifD, k_nil, k_cons, k_cons1, k_cons2, k_nilA, k_consA, k_consA1, k_consA2, k_V, k_V1, k_F, k_F1, k_tup, k_tup1, k_lst, k_lst1, k_cl, k_cl1, k_clL, k_clL1, k_finL, k_isi, k_isi1, k_fn, k_fn1, k_dat, k_fnV, k_fnV1, k_seqI, k_seqI1, k_seqI2, k_rng1, k_rng1', k_rng2, k_rng2a, k_rng2b, k_enum, k_enum1, k_zip, k_zip1, k_zip2, k_P, k_P1, k_noP, k_sl, k_sl1, k_sl2, k_sl3, k_cmp, k_cmp1, k_yes, k_seq, k_seq1, k_seq2, k_seq3, k_seq4, k_next, k_brk, k_cont, k_retN, k_asg, k_asg1, k_asgV, k_asgV1, k_asgV2, k_asgV3, k_asgO, k_asgO1, k_asgG, k_asgG1, k_nx, k_gN, k_gT, k_gC, k_g1, k_g0, k_par, k_par1, k_par2, k_drop, k_drop1, k_ret, k_ret1, k_retV, k_retV1, k_ifS, k_ifS1, k_ifS0, k_ifSD, k_fz_ap, k_app, k_app1, k_for, k_for1, k_aug1, k_fun1, k_fun2, k_idx, k_idx1, k_idx2, k_lenC, k_lenC1, k_popC, k_bset, k_getC, k_getC1, k_getC2, k_at0, k_at1, k_at2, k_bg1, k_bg2, k_bs1, k_bs2, k_bc, k_pop1, k_chn, k_chn1, k_chn2, k_chn3t, k_chn3f, k_chn4, k_tfo, k_chnB, k_chB, k_rev, k_rev1, k_revL, k_revL1, k_rg1, k_rg1', k_tupRg, k_tupRg1, k_lstRg, k_lstRg1, k_srt, k_srt1, k_parLE, k_parLE1, k_parLE2, k_augA, k_augA1, sz0, sz1, sz2, sz3, sz4, sz5, sz6, k_fun, eqI, neI, addI, subI, ltI, leI, gtI, geI, truD, pyLen, pyAbs, pyMin2, pyMax2, pyInt, pyTuple, pyList, pyIx, pyIs, pyIsNot, isNon, nown, wipeD, Option.map_some, List.getElem?_cons_zero, List.getElem?_cons_succ, List.set_cons_zero, List.set_cons_succ, List.map_cons, List.map_nil, List.cons_append, List.nil_append, List.length_cons, List.length_nil, List.all_cons, List.all_nil, List.replicate_succ, List.replicate_zero, Bool.and_true, Bool.true_and, Bool.and_self, Bool.not_true, Bool.not_false, and_self, and_true, true_and, if_true, if_false, reduceIte, reduceCtorEq, decide_true, decide_false, Bool.false_eq_true, Nat.reduceAdd, Nat.reduceEqDiff, ty_none_tuple, ty_none_list, ty_none_bool, ty_none_int, ty_none_str, ty_bool_tuple, ty_bool_list, ty_bool_bool, ty_bool_int, ty_bool_str, ty_int_tuple, ty_int_list, ty_int_bool, ty_int_int, ty_int_str, ty_str_tuple, ty_str_list, ty_str_bool, ty_str_int, ty_str_str, ty_list_tuple, ty_list_list, ty_list_bool, ty_list_int, ty_list_str, ty_tuple_tuple, ty_tuple_list, ty_tuple_bool, ty_tuple_int, ty_tuple_str, r1, Int.toNat_natCast]
theorem st_4 (n : Nat) (xs : List PyData) (B : Bx) (hl : xs.length < 1000000) (ih : ∀ i, ∀ h : i < xs.length, d_law_same n [.dat xs[i], .dat xs[i]] B = some (.dat (.bool true), B)) : dCmp (dRng1 (dCl pyLen (dCons (dVarO 0) dNil))) (gN 2) dYes (dFn (d_law_same n) (dConsA (dV (dOp pyIx (dVarO 0) (dVarO 2))) (dConsA (dV (dOp pyIx (dVarO 1) (dVarO 2))) dNilA))) [2] [some (.dat (.tuple xs)), some (.dat (.tuple xs)), none] B = some ((rngD 0 xs.length).map fun _ => PyData.bool true, B) := by
    rw [k_cmp, st_3 xs B hl, k_cmp1 (by rw [rngD_length]; exact szlt hl)]
    exact st_2 n xs B ih
theorem st_5 (xs : List PyData) (B : Bx) : dOpB pyEq (dCl pyLen (dCons (dVarO 0) dNil)) (dCl pyLen (dCons (dVarO 1) dNil)) [some (.dat (.tuple xs)), some (.dat (.tuple xs)), none] B = some (.bool true, B) := by
    simp only [k_dC, k_var_ap, k_varO_ap, k_varV_ap, k_op, k_op1, k_op2, k_fin, k_tst, k_t1, k_t2, k_tF, k_opB, k_B, k_neg, k_neg1, k_andT, k_orT, k_notT, k_and1, k_and0, k_or1, k_or0, k_not1, k_tru, k_tru1, k_andV, k_orV, k_notV, k_andV1, k_andV0, k_orV1, k_orV0, k_notV1, k_if, k_if1, k_if0, k_ifD, k_nil, k_cons, k_cons1, k_cons2, k_nilA, k_consA, k_consA1, k_consA2, k_V, k_V1, k_F, k_F1, k_tup, k_tup1, k_lst, k_lst1, k_cl, k_cl1, k_clL, k_clL1, k_finL, k_isi, k_isi1, k_fn, k_fn1, k_dat, k_fnV, k_fnV1, k_seqI, k_seqI1, k_seqI2, k_rng1, k_rng1', k_rng2, k_rng2a, k_rng2b, k_enum, k_enum1, k_zip, k_zip1, k_zip2, k_P, k_P1, k_noP, k_sl, k_sl1, k_sl2, k_sl3, k_cmp, k_cmp1, k_yes, k_seq, k_seq1, k_seq2, k_seq3, k_seq4, k_next, k_brk, k_cont, k_retN, k_asg, k_asg1, k_asgV, k_asgV1, k_asgV2, k_asgV3, k_asgO, k_asgO1, k_asgG, k_asgG1, k_nx, k_gN, k_gT, k_gC, k_g1, k_g0, k_par, k_par1, k_par2, k_drop, k_drop1, k_ret, k_ret1, k_retV, k_retV1, k_ifS, k_ifS1, k_ifS0, k_ifSD, k_fz_ap, k_app, k_app1, k_for, k_for1, k_aug1, k_fun1, k_fun2, k_idx, k_idx1, k_idx2, k_lenC, k_lenC1, k_popC, k_bset, k_getC, k_getC1, k_getC2, k_at0, k_at1, k_at2, k_bg1, k_bg2, k_bs1, k_bs2, k_bc, k_pop1, k_chn, k_chn1, k_chn2, k_chn3t, k_chn3f, k_chn4, k_tfo, k_chnB, k_chB, k_rev, k_rev1, k_revL, k_revL1, k_rg1, k_rg1', k_tupRg, k_tupRg1, k_lstRg, k_lstRg1, k_srt, k_srt1, k_parLE, k_parLE1, k_parLE2, k_augA, k_augA1, sz0, sz1, sz2, sz3, sz4, sz5, sz6, k_fun, eqI, neI, addI, subI, ltI, leI, gtI, geI, truD, pyLen, pyAbs, pyMin2, pyMax2, pyInt, pyTuple, pyList, pyIx, pyIs, pyIsNot, isNon, nown, wipeD, Option.map_some, List.getElem?_cons_zero, List.getElem?_cons_succ, List.set_cons_zero, List.set_cons_succ, List.map_cons, List.map_nil, List.cons_append, List.nil_append, List.length_cons, List.length_nil, List.all_cons, List.all_nil, List.replicate_succ, List.replicate_zero, Bool.and_true, Bool.true_and, Bool.and_self, Bool.not_true, Bool.not_false, and_self, and_true, true_and, if_true, if_false, reduceIte, reduceCtorEq, decide_true, decide_false, Bool.false_eq_true, Nat.reduceAdd, Nat.reduceEqDiff, ty_none_tuple, ty_none_list, ty_none_bool, ty_none_int, ty_none_str, ty_bool_tuple, ty_bool_list, ty_bool_bool, ty_bool_int, ty_bool_str, ty_int_tuple, ty_int_list, ty_int_bool, ty_int_int, ty_int_str, ty_str_tuple, ty_str_list, ty_str_bool, ty_str_int, ty_str_str, ty_list_tuple, ty_list_list, ty_list_bool, ty_list_int, ty_list_str, ty_tuple_tuple, ty_tuple_list, ty_tuple_bool, ty_tuple_int, ty_tuple_str]
theorem st_6 (F : DL) (G : DE) (L xs : List PyData) (B : Bx) (q4 : G [some (.dat (.tuple xs)), some (.dat (.tuple xs)), none] B = some (.bool true, B)) (q2 : F [some (.dat (.tuple xs)), some (.dat (.tuple xs)), none] B = some (L, B)) (r3 : pyAll [.list L] = some (.bool true)) : dAndV G (dCl pyAll (dCons (dF F) dNil)) [some (.dat (.tuple xs)), some (.dat (.tuple xs)), none] B = some (.bool true, B) := by
  simp only [k_dC, k_var_ap, k_varO_ap, k_varV_ap, k_op, k_op1, k_op2, k_fin, k_tst, k_t1, k_t2, k_tF, k_opB, k_B, k_neg, k_neg1, k_andT, k_orT, k_notT, k_and1, k_and0, k_or1, k_or0, k_not1, k_tru, k_tru1, k_andV, k_orV, k_notV, k_andV1, k_andV0, k_orV1, k_orV0, k_notV1, k_if, k_if1, k_if0, k_ifD, k_nil, k_cons, k_cons1, k_cons2, k_nilA, k_consA, k_consA1, k_consA2, k_V, k_V1, k_F, k_F1, k_tup, k_tup1, k_lst, k_lst1, k_cl, k_cl1, k_clL, k_clL1, k_finL, k_isi, k_isi1, k_fn, k_fn1, k_dat, k_fnV, k_fnV1, k_seqI, k_seqI1, k_seqI2, k_rng1, k_rng1', k_rng2, k_rng2a, k_rng2b, k_enum, k_enum1, k_zip, k_zip1, k_zip2, k_P, k_P1, k_noP, k_sl, k_sl1, k_sl2, k_sl3, k_cmp, k_cmp1, k_yes, k_seq, k_seq1, k_seq2, k_seq3, k_seq4, k_next, k_brk, k_cont, k_retN, k_asg, k_asg1, k_asgV, k_asgV1, k_asgV2, k_asgV3, k_asgO, k_asgO1, k_asgG, k_asgG1, k_nx, k_gN, k_gT, k_gC, k_g1, k_g0, k_par, k_par1, k_par2, k_drop, k_drop1, k_ret, k_ret1, k_retV, k_retV1, k_ifS, k_ifS1, k_ifS0, k_ifSD, k_fz_ap, k_app, k_app1, k_for, k_for1, k_aug1, k_fun1, k_fun2, k_idx, k_idx1, k_idx2, k_lenC, k_lenC1, k_popC, k_bset, k_getC, k_getC1, k_getC2, k_at0, k_at1, k_at2, k_bg1, k_bg2, k_bs1, k_bs2, k_bc, k_pop1, k_chn, k_chn1, k_chn2, k_chn3t, k_chn3f, k_chn4, k_tfo, k_chnB, k_chB, k_rev, k_rev1, k_revL, k_revL1, k_rg1, k_rg1', k_tupRg, k_tupRg1, k_lstRg, k_lstRg1, k_srt, k_srt1, k_parLE, k_parLE1, k_parLE2, k_augA, k_augA1, sz0, sz1, sz2, sz3, sz4, sz5, sz6, k_fun, eqI, neI, addI, subI, ltI, leI, gtI, geI, truD, isTy, tyName, pyLen, pyAbs, pyMin2, pyMax2, pyInt, pyTuple, pyList, pyIx, pyIs, pyIsNot, isNon, nown, wipeD, Option.map_some, List.getElem?_cons_zero, List.getElem?_cons_succ, List.set_cons_zero, List.set_cons_succ, List.map_cons, List.map_nil, List.cons_append, List.nil_append, List.length_cons, List.length_nil, List.all_cons, List.all_nil, List.replicate_succ, List.replicate_zero, Bool.and_true, Bool.true_and, Bool.and_self, Bool.not_true, Bool.not_false, and_self, and_true, true_and, if_true, if_false, reduceIte, reduceCtorEq, decide_true, decide_false, Bool.false_eq_true, Nat.reduceAdd, Nat.reduceEqDiff, q4, q2, r3]
theorem same_tuple (n : Nat) (xs : List PyData) (B : Bx) (hl : xs.length < 1000000) (ih : ∀ i, ∀ h : i < xs.length, d_law_same n [.dat xs[i], .dat xs[i]] B = some (.dat (.bool true), B)) : d_law_same (n + 1) [.dat (.tuple xs), .dat (.tuple xs)] B = some (.dat (.bool true), B) := by
  have q5 := st_6 _ _ _ xs B (st_5 xs B) (st_4 n xs B hl ih) (all_trues (rngD 0 xs.length))
  rw [d_law_same, b_law_same]
  generalize dAndV _ _ = G at q5 ⊢
  simp only [k_dC, k_var_ap, k_varO_ap, k_varV_ap, k_op, k_op1, k_op2, k_fin, k_tst, k_t1, k_t2, k_tF, k_opB, k_B, k_neg, k_neg1, k_andT, k_orT, k_notT, k_and1, k_and0, k_or1, k_or0, k_not1, k_tru, k_tru1, k_andV, k_orV, k_notV, k_andV1, k_andV0, k_orV1, k_orV0, k_notV1, k_if, k_if1, k_if0, k_ifD, k_nil, k_cons, k_cons1, k_cons2, k_nilA, k_consA, k_consA1, k_consA2, k_V, k_V1, k_F, k_F1, k_tup, k_tup1, k_lst, k_lst1, k_cl, k_cl1, k_clL, k_clL1, k_finL, k_isi, k_isi1, k_fn, k_fn1, k_dat, k_fnV, k_fnV1, k_seqI, k_seqI1, k_seqI2, k_rng1, k_rng1', k_rng2, k_rng2a, k_rng2b, k_enum, k_enum1, k_zip, k_zip1, k_zip2, k_P, k_P1, k_noP, k_sl, k_sl1, k_sl2, k_sl3, k_cmp, k_cmp1, k_yes, k_seq, k_seq1, k_seq2, k_seq3, k_seq4, k_next, k_brk, k_cont, k_retN, k_asg, k_asg1, k_asgV, k_asgV1, k_asgV2, k_asgV3, k_asgO, k_asgO1, k_asgG, k_asgG1, k_nx, k_gN, k_gT, k_gC, k_g1, k_g0, k_par, k_par1, k_par2, k_drop, k_drop1, k_ret, k_ret1, k_retV, k_retV1, k_ifS, k_ifS1, k_ifS0, k_ifSD, k_fz_ap, k_app, k_app1, k_for, k_for1, k_aug1, k_fun1, k_fun2, k_idx, k_idx1, k_idx2, k_lenC, k_lenC1, k_popC, k_bset, k_getC, k_getC1, k_getC2, k_at0, k_at1, k_at2, k_bg1, k_bg2, k_bs1, k_bs2, k_bc, k_pop1, k_chn, k_chn1, k_chn2, k_chn3t, k_chn3f, k_chn4, k_tfo, k_chnB, k_chB, k_rev, k_rev1, k_revL, k_revL1, k_rg1, k_rg1', k_tupRg, k_tupRg1, k_lstRg, k_lstRg1, k_srt, k_srt1, k_parLE, k_parLE1, k_parLE2, k_augA, k_augA1, sz0, sz1, sz2, sz3, sz4, sz5, sz6, k_fun, eqI, neI, addI, subI, ltI, leI, gtI, geI, truD, pyLen, pyAbs, pyMin2, pyMax2, pyInt, pyTuple, pyList, pyIx, pyIs, pyIsNot, isNon, nown, wipeD, Option.map_some, List.getElem?_cons_zero, List.getElem?_cons_succ, List.set_cons_zero, List.set_cons_succ, List.map_cons, List.map_nil, List.cons_append, List.nil_append, List.length_cons, List.length_nil, List.all_cons, List.all_nil, List.replicate_succ, List.replicate_zero, Bool.and_true, Bool.true_and, Bool.and_self, Bool.not_true, Bool.not_false, and_self, and_true, true_and, if_true, if_false, reduceIte, reduceCtorEq, decide_true, decide_false, Bool.false_eq_true, Nat.reduceAdd, Nat.reduceEqDiff, ty_none_tuple, ty_none_list, ty_none_bool, ty_none_int, ty_none_str, ty_bool_tuple, ty_bool_list, ty_bool_bool, ty_bool_int, ty_bool_str, ty_int_tuple, ty_int_list, ty_int_bool, ty_int_int, ty_int_str, ty_str_tuple, ty_str_list, ty_str_bool, ty_str_int, ty_str_str, ty_list_tuple, ty_list_list, ty_list_bool, ty_list_int, ty_list_str, ty_tuple_tuple, ty_tuple_list, ty_tuple_bool, ty_tuple_int, ty_tuple_str, q5]
theorem sp_same : ∀ (n : Nat) (d : PyData) (B : Bx), dep d < n → pln d = true → d_law_same n [.dat d, .dat d] B = some (.dat (.bool true), B) := by
  intro n
  induction n with
  | zero => intro d B h; exact absurd h (Nat.not_lt_zero _)
  | succ n ih =>
    intro d B h hp
    cases d with
    | none => exact same_nil n B
    | bool b => exact same_bool n b B
    | int b => exact same_int n b B
    | tuple xs =>
      unfold pln at hp
      rw [Bool.and_eq_true, decide_eq_true_eq] at hp
      unfold dep at h
      exact same_tuple n xs B (by omega) fun i hi => ih xs[i] B (Nat.lt_of_le_of_lt (dep_mem _ (List.getElem_mem hi)) (by omega)) (pln_mem hp.2 _ (List.getElem_mem hi))
    | str _ => cases hp
    | list _ => cases hp
    | dict _ => cases hp
end Dn

-- dk2
set_option Elab.async false
set_option linter.all false
set_option autoImplicit false
set_option maxRecDepth 100000
set_option maxHeartbeats 4000000
set_option exponentiation.threshold 100000
namespace Dn
open PySem Tr
/-! junk values -/
mutual
def jk : PyData → Bool
  | .none | .bool _ | .int _ => true
  | .str x => (PyData.str x).canLay0
  | .tuple xs => decide (xs.length ≤ 62) && jkAll xs
  | _ => false
def jkAll : List PyData → Bool
  | [] => true
  | x :: xs => jk x && jkAll xs
end
theorem jk_mem : ∀ {xs : List PyData}, jkAll xs = true → ∀ x ∈ xs, jk x = true
  | [], _, x, h => by cases h
  | y :: ys, h, x, hx => by
    unfold jkAll at h
    rw [Bool.and_eq_true] at h
    rcases List.mem_cons.mp hx with e | e
    · rw [e]; exact h.1
    · exact jk_mem h.2 x e
def numIn (m : Int) : PyData → Bool
  | .int i => decide (0 ≤ i ∧ i ≤ m)
  | _ => false
theorem sp_number (d : PyData) (m : Int) (hj : jk d = true) (B : Bx) : d_is_number [.dat d, .dat (.int 0), .dat (.int m)] B = some (.dat (.bool (numIn m d)), B) := by
  cases d with
  | int i =>
    rw [show numIn m (.int i) = decide (0 ≤ i ∧ i ≤ m) from rfl]
    by_cases h1 : 0 ≤ i
    · have q1 := eq_true h1
      have e : decide (0 ≤ i ∧ i ≤ m) = decide (i ≤ m) := by simp [h1]
      rw [e]
      simp only [k_dC, k_var_ap, k_varO_ap, k_varV_ap, k_op, k_op1, k_op2, k_fin, k_tst, k_t1, k_t2, k_tF, k_opB, k_B, k_neg, k_neg1, k_andT, k_orT, k_notT, k_and1, k_and0, k_or1, k_or0, k_not1, k_tru, k_tru1, k_andV, k_orV, k_notV, k_andV1, k_andV0, k_orV1, k_orV0, k_notV1, k_if, k_if1, k_if0, k_ifD, k_nil, k_cons, k_cons1, k_cons2, k_nilA, k_consA, k_consA1, k_consA2, k_V, k_V1, k_F, k_F1, k_tup, k_tup1, k_lst, k_lst1, k_cl, k_cl1, k_clL, k_clL1, k_finL, k_isi, k_isi1, k_fn, k_fn1, k_dat, k_fnV, k_fnV1, k_seqI, k_seqI1, k_seqI2, k_rng1, k_rng1', k_rng2, k_rng2a, k_rng2b, k_enum, k_enum1, k_zip, k_zip1, k_zip2, k_P, k_P1, k_noP, k_sl, k_sl1, k_sl2, k_sl3, k_cmp, k_cmp1, k_yes, k_seq, k_seq1, k_seq2, k_seq3, k_seq4, k_next, k_brk, k_cont, k_retN, k_asg, k_asg1, k_asgV, k_asgV1, k_asgV2, k_asgV3, k_asgO, k_asgO1, k_asgG, k_asgG1, k_nx, k_gN, k_gT, k_gC, k_g1, k_g0, k_par, k_par1, k_par2, k_drop, k_drop1, k_ret, k_ret1, k_retV, k_retV1, k_ifS, k_ifS1, k_ifS0, k_ifSD, k_fz_ap, k_app, k_app1, k_for, k_for1, k_aug1, k_fun1, k_fun2, k_idx, k_idx1, k_idx2, k_lenC, k_lenC1, k_popC, k_bset, k_getC, k_getC1, k_getC2, k_at0, k_at1, k_at2, k_bg1, k_bg2, k_bs1, k_bs2, k_bc, k_pop1, k_chn, k_chn1, k_chn2, k_chn3t, k_chn3f, k_chn4, k_tfo, k_chnB, k_chB, k_rev, k_rev1, k_revL, k_revL1, k_rg1, k_rg1', k_tupRg, k_tupRg1, k_lstRg, k_lstRg1, k_srt, k_srt1, k_parLE, k_parLE1, k_parLE2, k_augA, k_augA1, sz0, sz1, sz2, sz3, sz4, sz5, sz6, k_fun, eqI, neI, addI, subI, ltI, leI, gtI, geI, truD, pyLen, pyAbs, pyMin2, pyMax2, pyInt, pyTuple, pyList, pyIx, pyIs, pyIsNot, isNon, nown, wipeD, Option.map_some, List.getElem?_cons_zero, List.getElem?_cons_succ, List.set_cons_zero, List.set_cons_succ, List.map_cons, List.map_nil, List.cons_append, List.nil_append, List.length_cons, List.length_nil, List.all_cons, List.all_nil, List.replicate_succ, List.replicate_zero, Bool.and_true, Bool.true_and, Bool.and_self, Bool.not_true, Bool.not_false, and_self, and_true, true_and, if_true, if_false, reduceIte, reduceCtorEq, decide_true, decide_false, Bool.false_eq_true, Nat.reduceAdd, Nat.reduceEqDiff, ty_none_tuple, ty_none_list, ty_none_bool, ty_none_int, ty_none_str, ty_bool_tuple, ty_bool_list, ty_bool_bool, ty_bool_int, ty_bool_str, ty_int_tuple, ty_int_list, ty_int_bool, ty_int_int, ty_int_str, ty_str_tuple, ty_str_list, ty_str_bool, ty_str_int, ty_str_str, ty_list_tuple, ty_list_list, ty_list_bool, ty_list_int, ty_list_str, ty_tuple_tuple, ty_tuple_list, ty_tuple_bool, ty_tuple_int, ty_tuple_str, d_is_number, b_is_number, q1]
    · have q1 := eq_false h1
      have e : decide (0 ≤ i ∧ i ≤ m) = false := decide_eq_false fun z => h1 z.1
      rw [e]
      simp only [k_dC, k_var_ap, k_varO_ap, k_varV_ap, k_op, k_op1, k_op2, k_fin, k_tst, k_t1, k_t2, k_tF, k_opB, k_B, k_neg, k_neg1, k_andT, k_orT, k_notT, k_and1, k_and0, k_or1, k_or0, k_not1, k_tru, k_tru1, k_andV, k_orV, k_notV, k_andV1, k_andV0, k_orV1, k_orV0, k_notV1, k_if, k_if1, k_if0, k_ifD, k_nil, k_cons, k_cons1, k_cons2, k_nilA, k_consA, k_consA1, k_consA2, k_V, k_V1, k_F, k_F1, k_tup, k_tup1, k_lst, k_lst1, k_cl, k_cl1, k_clL, k_clL1, k_finL, k_isi, k_isi1, k_fn, k_fn1, k_dat, k_fnV, k_fnV1, k_seqI, k_seqI1, k_seqI2, k_rng1, k_rng1', k_rng2, k_rng2a, k_rng2b, k_enum, k_enum1, k_zip, k_zip1, k_zip2, k_P, k_P1, k_noP, k_sl, k_sl1, k_sl2, k_sl3, k_cmp, k_cmp1, k_yes, k_seq, k_seq1, k_seq2, k_seq3, k_seq4, k_next, k_brk, k_cont, k_retN, k_asg, k_asg1, k_asgV, k_asgV1, k_asgV2, k_asgV3, k_asgO, k_asgO1, k_asgG, k_asgG1, k_nx, k_gN, k_gT, k_gC, k_g1, k_g0, k_par, k_par1, k_par2, k_drop, k_drop1, k_ret, k_ret1, k_retV, k_retV1, k_ifS, k_ifS1, k_ifS0, k_ifSD, k_fz_ap, k_app, k_app1, k_for, k_for1, k_aug1, k_fun1, k_fun2, k_idx, k_idx1, k_idx2, k_lenC, k_lenC1, k_popC, k_bset, k_getC, k_getC1, k_getC2, k_at0, k_at1, k_at2, k_bg1, k_bg2, k_bs1, k_bs2, k_bc, k_pop1, k_chn, k_chn1, k_chn2, k_chn3t, k_chn3f, k_chn4, k_tfo, k_chnB, k_chB, k_rev, k_rev1, k_revL, k_revL1, k_rg1, k_rg1', k_tupRg, k_tupRg1, k_lstRg, k_lstRg1, k_srt, k_srt1, k_parLE, k_parLE1, k_parLE2, k_augA, k_augA1, sz0, sz1, sz2, sz3, sz4, sz5, sz6, k_fun, eqI, neI, addI, subI, ltI, leI, gtI, geI, truD, pyLen, pyAbs, pyMin2, pyMax2, pyInt, pyTuple, pyList, pyIx, pyIs, pyIsNot, isNon, nown, wipeD, Option.map_some, List.getElem?_cons_zero, List.getElem?_cons_succ, List.set_cons_zero, List.set_cons_succ, List.map_cons, List.map_nil, List.cons_append, List.nil_append, List.length_cons, List.length_nil, List.all_cons, List.all_nil, List.replicate_succ, List.replicate_zero, Bool.and_true, Bool.true_and, Bool.and_self, Bool.not_true, Bool.not_false, and_self, and_true, true_and, if_true, if_false, reduceIte, reduceCtorEq, decide_true, decide_false, Bool.false_eq_true, Nat.reduceAdd, Nat.reduceEqDiff, ty_none_tuple, ty_none_list, ty_none_bool, ty_none_int, ty_none_str, ty_bool_tuple, ty_bool_list, ty_bool_bool, ty_bool_int, ty_bool_str, ty_int_tuple, ty_int_list, ty_int_bool, ty_int_int, ty_int_str, ty_str_tuple, ty_str_list, ty_str_bool, ty_str_int, ty_str_str, ty_list_tuple, ty_list_list, ty_list_bool, ty_list_int, ty_list_str, ty_tuple_tuple, ty_tuple_list, ty_tuple_bool, ty_tuple_int, ty_tuple_str, d_is_number, b_is_number, q1]
  | none => simp only [k_dC, k_var_ap, k_varO_ap, k_varV_ap, k_op, k_op1, k_op2, k_fin, k_tst, k_t1, k_t2, k_tF, k_opB, k_B, k_neg, k_neg1, k_andT, k_orT, k_notT, k_and1, k_and0, k_or1, k_or0, k_not1, k_tru, k_tru1, k_andV, k_orV, k_notV, k_andV1, k_andV0, k_orV1, k_orV0, k_notV1, k_if, k_if1, k_if0, k_ifD, k_nil, k_cons, k_cons1, k_cons2, k_nilA, k_consA, k_consA1, k_consA2, k_V, k_V1, k_F, k_F1, k_tup, k_tup1, k_lst, k_lst1, k_cl, k_cl1, k_clL, k_clL1, k_finL, k_isi, k_isi1, k_fn, k_fn1, k_dat, k_fnV, k_fnV1, k_seqI, k_seqI1, k_seqI2, k_rng1, k_rng1', k_rng2, k_rng2a, k_rng2b, k_enum, k_enum1, k_zip, k_zip1, k_zip2, k_P, k_P1, k_noP, k_sl, k_sl1, k_sl2, k_sl3, k_cmp, k_cmp1, k_yes, k_seq, k_seq1, k_seq2, k_seq3, k_seq4, k_next, k_brk, k_cont, k_retN, k_asg, k_asg1, k_asgV, k_asgV1, k_asgV2, k_asgV3, k_asgO, k_asgO1, k_asgG, k_asgG1, k_nx, k_gN, k_gT, k_gC, k_g1, k_g0, k_par, k_par1, k_par2, k_drop, k_drop1, k_ret, k_ret1, k_retV, k_retV1, k_ifS, k_ifS1, k_ifS0, k_ifSD, k_fz_ap, k_app, k_app1, k_for, k_for1, k_aug1, k_fun1, k_fun2, k_idx, k_idx1, k_idx2, k_lenC, k_lenC1, k_popC, k_bset, k_getC, k_getC1, k_getC2, k_at0, k_at1, k_at2, k_bg1, k_bg2, k_bs1, k_bs2, k_bc, k_pop1, k_chn, k_chn1, k_chn2, k_chn3t, k_chn3f, k_chn4, k_tfo, k_chnB, k_chB, k_rev, k_rev1, k_revL, k_revL1, k_rg1, k_rg1', k_tupRg, k_tupRg1, k_lstRg, k_lstRg1, k_srt, k_srt1, k_parLE, k_parLE1, k_parLE2, k_augA, k_augA1, sz0, sz1, sz2, sz3, sz4, sz5, sz6, k_fun, eqI, neI, addI, subI, ltI, leI, gtI, geI, truD, pyLen, pyAbs, pyMin2, pyMax2, pyInt, pyTuple, pyList, pyIx, pyIs, pyIsNot, isNon, nown, wipeD, Option.map_some, List.getElem?_cons_zero, List.getElem?_cons_succ, List.set_cons_zero, List.set_cons_succ, List.map_cons, List.map_nil, List.cons_append, List.nil_append, List.length_cons, List.length_nil, List.all_cons, List.all_nil, List.replicate_succ, List.replicate_zero, Bool.and_true, Bool.true_and, Bool.and_self, Bool.not_true, Bool.not_false, and_self, and_true, true_and, if_true, if_false, reduceIte, reduceCtorEq, decide_true, decide_false, Bool.false_eq_true, Nat.reduceAdd, Nat.reduceEqDiff, ty_none_tuple, ty_none_list, ty_none_bool, ty_none_int, ty_none_str, ty_bool_tuple, ty_bool_list, ty_bool_bool, ty_bool_int, ty_bool_str, ty_int_tuple, ty_int_list, ty_int_bool, ty_int_int, ty_int_str, ty_str_tuple, ty_str_list, ty_str_bool, ty_str_int, ty_str_str, ty_list_tuple, ty_list_list, ty_list_bool, ty_list_int, ty_list_str, ty_tuple_tuple, ty_tuple_list, ty_tuple_bool, ty_tuple_int, ty_tuple_str, d_is_number, b_is_number, numIn]
  | bool b => simp only [k_dC, k_var_ap, k_varO_ap, k_varV_ap, k_op, k_op1, k_op2, k_fin, k_tst, k_t1, k_t2, k_tF, k_opB, k_B, k_neg, k_neg1, k_andT, k_orT, k_notT, k_and1, k_and0, k_or1, k_or0, k_not1, k_tru, k_tru1, k_andV, k_orV, k_notV, k_andV1, k_andV0, k_orV1, k_orV0, k_notV1, k_if, k_if1, k_if0, k_ifD, k_nil, k_cons, k_cons1, k_cons2, k_nilA, k_consA, k_consA1, k_consA2, k_V, k_V1, k_F, k_F1, k_tup, k_tup1, k_lst, k_lst1, k_cl, k_cl1, k_clL, k_clL1, k_finL, k_isi, k_isi1, k_fn, k_fn1, k_dat, k_fnV, k_fnV1, k_seqI, k_seqI1, k_seqI2, k_rng1, k_rng1', k_rng2, k_rng2a, k_rng2b, k_enum, k_enum1, k_zip, k_zip1, k_zip2, k_P, k_P1, k_noP, k_sl, k_sl1, k_sl2, k_sl3, k_cmp, k_cmp1, k_yes, k_seq, k_seq1, k_seq2, k_seq3, k_seq4, k_next, k_brk, k_cont, k_retN, k_asg, k_asg1, k_asgV, k_asgV1, k_asgV2, k_asgV3, k_asgO, k_asgO1, k_asgG, k_asgG1, k_nx, k_gN, k_gT, k_gC, k_g1, k_g0, k_par, k_par1, k_par2, k_drop, k_drop1, k_ret, k_ret1, k_retV, k_retV1, k_ifS, k_ifS1, k_ifS0, k_ifSD, k_fz_ap, k_app, k_app1, k_for, k_for1, k_aug1, k_fun1, k_fun2, k_idx, k_idx1, k_idx2, k_lenC, k_lenC1, k_popC, k_bset, k_getC, k_getC1, k_getC2, k_at0, k_at1, k_at2, k_bg1, k_bg2, k_bs1, k_bs2, k_bc, k_pop1, k_chn, k_chn1, k_chn2, k_chn3t, k_chn3f, k_chn4, k_tfo, k_chnB, k_chB, k_rev, k_rev1, k_revL, k_revL1, k_rg1, k_rg1', k_tupRg, k_tupRg1, k_lstRg, k_lstRg1, k_srt, k_srt1, k_parLE, k_parLE1, k_parLE2, k_augA, k_augA1, sz0, sz1, sz2, sz3, sz4, sz5, sz6, k_fun, eqI, neI, addI, subI, ltI, leI, gtI, geI, truD, pyLen, pyAbs, pyMin2, pyMax2, pyInt, pyTuple, pyList, pyIx, pyIs, pyIsNot, isNon, nown, wipeD, Option.map_some, List.getElem?_cons_zero, List.getElem?_cons_succ, List.set_cons_zero, List.set_cons_succ, List.map_cons, List.map_nil, List.cons_append, List.nil_append, List.length_cons, List.length_nil, List.all_cons, List.all_nil, List.replicate_succ, List.replicate_zero, Bool.and_true, Bool.true_and, Bool.and_self, Bool.not_true, Bool.not_false, and_self, and_true, true_and, if_true, if_false, reduceIte, reduceCtorEq, decide_true, decide_false, Bool.false_eq_true, Nat.reduceAdd, Nat.reduceEqDiff, ty_none_tuple, ty_none_list, ty_none_bool, ty_none_int, ty_none_str, ty_bool_tuple, ty_bool_list, ty_bool_bool, ty_bool_int, ty_bool_str, ty_int_tuple, ty_int_list, ty_int_bool, ty_int_int, ty_int_str, ty_str_tuple, ty_str_list, ty_str_bool, ty_str_int, ty_str_str, ty_list_tuple, ty_list_list, ty_list_bool, ty_list_int, ty_list_str, ty_tuple_tuple, ty_tuple_list, ty_tuple_bool, ty_tuple_int, ty_tuple_str, d_is_number, b_is_number, numIn]
  | str s => simp only [k_dC, k_var_ap, k_varO_ap, k_varV_ap, k_op, k_op1, k_op2, k_fin, k_tst, k_t1, k_t2, k_tF, k_opB, k_B, k_neg, k_neg1, k_andT, k_orT, k_notT, k_and1, k_and0, k_or1, k_or0, k_not1, k_tru, k_tru1, k_andV, k_orV, k_notV, k_andV1, k_andV0, k_orV1, k_orV0, k_notV1, k_if, k_if1, k_if0, k_ifD, k_nil, k_cons, k_cons1, k_cons2, k_nilA, k_consA, k_consA1, k_consA2, k_V, k_V1, k_F, k_F1, k_tup, k_tup1, k_lst, k_lst1, k_cl, k_cl1, k_clL, k_clL1, k_finL, k_isi, k_isi1, k_fn, k_fn1, k_dat, k_fnV, k_fnV1, k_seqI, k_seqI1, k_seqI2, k_rng1, k_rng1', k_rng2, k_rng2a, k_rng2b, k_enum, k_enum1, k_zip, k_zip1, k_zip2, k_P, k_P1, k_noP, k_sl, k_sl1, k_sl2, k_sl3, k_cmp, k_cmp1, k_yes, k_seq, k_seq1, k_seq2, k_seq3, k_seq4, k_next, k_brk, k_cont, k_retN, k_asg, k_asg1, k_asgV, k_asgV1, k_asgV2, k_asgV3, k_asgO, k_asgO1, k_asgG, k_asgG1, k_nx, k_gN, k_gT, k_gC, k_g1, k_g0, k_par, k_par1, k_par2, k_drop, k_drop1, k_ret, k_ret1, k_retV, k_retV1, k_ifS, k_ifS1, k_ifS0, k_ifSD, k_fz_ap, k_app, k_app1, k_for, k_for1, k_aug1, k_fun1, k_fun2, k_idx, k_idx1, k_idx2, k_lenC, k_lenC1, k_popC, k_bset, k_getC, k_getC1, k_getC2, k_at0, k_at1, k_at2, k_bg1, k_bg2, k_bs1, k_bs2, k_bc, k_pop1, k_chn, k_chn1, k_chn2, k_chn3t, k_chn3f, k_chn4, k_tfo, k_chnB, k_chB, k_rev, k_rev1, k_revL, k_revL1, k_rg1, k_rg1', k_tupRg, k_tupRg1, k_lstRg, k_lstRg1, k_srt, k_srt1, k_parLE, k_parLE1, k_parLE2, k_augA, k_augA1, sz0, sz1, sz2, sz3, sz4, sz5, sz6, k_fun, eqI, neI, addI, subI, ltI, leI, gtI, geI, truD, pyLen, pyAbs, pyMin2, pyMax2, pyInt, pyTuple, pyList, pyIx, pyIs, pyIsNot, isNon, nown, wipeD, Option.map_some, List.getElem?_cons_zero, List.getElem?_cons_succ, List.set_cons_zero, List.set_cons_succ, List.map_cons, List.map_nil, List.cons_append, List.nil_append, List.length_cons, List.length_nil, List.all_cons, List.all_nil, List.replicate_succ, List.replicate_zero, Bool.and_true, Bool.true_and, Bool.and_self, Bool.not_true, Bool.not_false, and_self, and_true, true_and, if_true, if_false, reduceIte, reduceCtorEq, decide_true, decide_false, Bool.false_eq_true, Nat.reduceAdd, Nat.reduceEqDiff, ty_none_tuple, ty_none_list, ty_none_bool, ty_none_int, ty_none_str, ty_bool_tuple, ty_bool_list, ty_bool_bool, ty_bool_int, ty_bool_str, ty_int_tuple, ty_int_list, ty_int_bool, ty_int_int, ty_int_str, ty_str_tuple, ty_str_list, ty_str_bool, ty_str_int, ty_str_str, ty_list_tuple, ty_list_list, ty_list_bool, ty_list_int, ty_list_str, ty_tuple_tuple, ty_tuple_list, ty_tuple_bool, ty_tuple_int, ty_tuple_str, d_is_number, b_is_number, numIn]
  | tuple xs => simp only [k_dC, k_var_ap, k_varO_ap, k_varV_ap, k_op, k_op1, k_op2, k_fin, k_tst, k_t1, k_t2, k_tF, k_opB, k_B, k_neg, k_neg1, k_andT, k_orT, k_notT, k_and1, k_and0, k_or1, k_or0, k_not1, k_tru, k_tru1, k_andV, k_orV, k_notV, k_andV1, k_andV0, k_orV1, k_orV0, k_notV1, k_if, k_if1, k_if0, k_ifD, k_nil, k_cons, k_cons1, k_cons2, k_nilA, k_consA, k_consA1, k_consA2, k_V, k_V1, k_F, k_F1, k_tup, k_tup1, k_lst, k_lst1, k_cl, k_cl1, k_clL, k_clL1, k_finL, k_isi, k_isi1, k_fn, k_fn1, k_dat, k_fnV, k_fnV1, k_seqI, k_seqI1, k_seqI2, k_rng1, k_rng1', k_rng2, k_rng2a, k_rng2b, k_enum, k_enum1, k_zip, k_zip1, k_zip2, k_P, k_P1, k_noP, k_sl, k_sl1, k_sl2, k_sl3, k_cmp, k_cmp1, k_yes, k_seq, k_seq1, k_seq2, k_seq3, k_seq4, k_next, k_brk, k_cont, k_retN, k_asg, k_asg1, k_asgV, k_asgV1, k_asgV2, k_asgV3, k_asgO, k_asgO1, k_asgG, k_asgG1, k_nx, k_gN, k_gT, k_gC, k_g1, k_g0, k_par, k_par1, k_par2, k_drop, k_drop1, k_ret, k_ret1, k_retV, k_retV1, k_ifS, k_ifS1, k_ifS0, k_ifSD, k_fz_ap, k_app, k_app1, k_for, k_for1, k_aug1, k_fun1, k_fun2, k_idx, k_idx1, k_idx2, k_lenC, k_lenC1, k_popC, k_bset, k_getC, k_getC1, k_getC2, k_at0, k_at1, k_at2, k_bg1, k_bg2, k_bs1, k_bs2, k_bc, k_pop1, k_chn, k_chn1, k_chn2, k_chn3t, k_chn3f, k_chn4, k_tfo, k_chnB, k_chB, k_rev, k_rev1, k_revL, k_revL1, k_rg1, k_rg1', k_tupRg, k_tupRg1, k_lstRg, k_lstRg1, k_srt, k_srt1, k_parLE, k_parLE1, k_parLE2, k_augA, k_augA1, sz0, sz1, sz2, sz3, sz4, sz5, sz6, k_fun, eqI, neI, addI, subI, ltI, leI, gtI, geI, truD, pyLen, pyAbs, pyMin2, pyMax2, pyInt, pyTuple, pyList, pyIx, pyIs, pyIsNot, isNon, nown, wipeD, Option.map_some, List.getElem?_cons_zero, List.getElem?_cons_succ, List.set_cons_zero, List.set_cons_succ, List.map_cons, List.map_nil, List.cons_append, List.nil_append, List.length_cons, List.length_nil, List.all_cons, List.all_nil, List.replicate_succ, List.replicate_zero, Bool.and_true, Bool.true_and, Bool.and_self, Bool.not_true, Bool.not_false, and_self, and_true, true_and, if_true, if_false, reduceIte, reduceCtorEq, decide_true, decide_false, Bool.false_eq_true, Nat.reduceAdd, Nat.reduceEqDiff, ty_none_tuple, ty_none_list, ty_none_bool, ty_none_int, ty_none_str, ty_bool_tuple, ty_bool_list, ty_bool_bool, ty_bool_int, ty_bool_str, ty_int_tuple, ty_int_list, ty_int_bool, ty_int_int, ty_int_str, ty_str_tuple, ty_str_list, ty_str_bool, ty_str_int, ty_str_str, ty_list_tuple, ty_list_list, ty_list_bool, ty_list_int, ty_list_str, ty_tuple_tuple, ty_tuple_list, ty_tuple_bool, ty_tuple_int, ty_tuple_str, d_is_number, b_is_number, numIn]
  | list xs => cases hj
  | dict xs => cases hj
theorem sp_whole (d : PyData) (m : Int) (hj : jk d = true) (B : Bx) : d_law_whole [.dat d, .dat (.int 0), .dat (.int m)] B = some (.dat (.bool (numIn m d)), B) := by
  cases d with
  | int i =>
    rw [show numIn m (.int i) = decide (0 ≤ i ∧ i ≤ m) from rfl]
    by_cases h1 : 0 ≤ i
    · have q1 := eq_true h1
      have e : decide (0 ≤ i ∧ i ≤ m) = decide (i ≤ m) := by simp [h1]
      rw [e]
      simp only [k_dC, k_var_ap, k_varO_ap, k_varV_ap, k_op, k_op1, k_op2, k_fin, k_tst, k_t1, k_t2, k_tF, k_opB, k_B, k_neg, k_neg1, k_andT, k_orT, k_notT, k_and1, k_and0, k_or1, k_or0, k_not1, k_tru, k_tru1, k_andV, k_orV, k_notV, k_andV1, k_andV0, k_orV1, k_orV0, k_notV1, k_if, k_if1, k_if0, k_ifD, k_nil, k_cons, k_cons1, k_cons2, k_nilA, k_consA, k_consA1, k_consA2, k_V, k_V1, k_F, k_F1, k_tup, k_tup1, k_lst, k_lst1, k_cl, k_cl1, k_clL, k_clL1, k_finL, k_isi, k_isi1, k_fn, k_fn1, k_dat, k_fnV, k_fnV1, k_seqI, k_seqI1, k_seqI2, k_rng1, k_rng1', k_rng2, k_rng2a, k_rng2b, k_enum, k_enum1, k_zip, k_zip1, k_zip2, k_P, k_P1, k_noP, k_sl, k_sl1, k_sl2, k_sl3, k_cmp, k_cmp1, k_yes, k_seq, k_seq1, k_seq2, k_seq3, k_seq4, k_next, k_brk, k_cont, k_retN, k_asg, k_asg1, k_asgV, k_asgV1, k_asgV2, k_asgV3, k_asgO, k_asgO1, k_asgG, k_asgG1, k_nx, k_gN, k_gT, k_gC, k_g1, k_g0, k_par, k_par1, k_par2, k_drop, k_drop1, k_ret, k_ret1, k_retV, k_retV1, k_ifS, k_ifS1, k_ifS0, k_ifSD, k_fz_ap, k_app, k_app1, k_for, k_for1, k_aug1, k_fun1, k_fun2, k_idx, k_idx1, k_idx2, k_lenC, k_lenC1, k_popC, k_bset, k_getC, k_getC1, k_getC2, k_at0, k_at1, k_at2, k_bg1, k_bg2, k_bs1, k_bs2, k_bc, k_pop1, k_chn, k_chn1, k_chn2, k_chn3t, k_chn3f, k_chn4, k_tfo, k_chnB, k_chB, k_rev, k_rev1, k_revL, k_revL1, k_rg1, k_rg1', k_tupRg, k_tupRg1, k_lstRg, k_lstRg1, k_srt, k_srt1, k_parLE, k_parLE1, k_parLE2, k_augA, k_augA1, sz0, sz1, sz2, sz3, sz4, sz5, sz6, k_fun, eqI, neI, addI, subI, ltI, leI, gtI, geI, truD, pyLen, pyAbs, pyMin2, pyMax2, pyInt, pyTuple, pyList, pyIx, pyIs, pyIsNot, isNon, nown, wipeD, Option.map_some, List.getElem?_cons_zero, List.getElem?_cons_succ, List.set_cons_zero, List.set_cons_succ, List.map_cons, List.map_nil, List.cons_append, List.nil_append, List.length_cons, List.length_nil, List.all_cons, List.all_nil, List.replicate_succ, List.replicate_zero, Bool.and_true, Bool.true_and, Bool.and_self, Bool.not_true, Bool.not_false, and_self, and_true, true_and, if_true, if_false, reduceIte, reduceCtorEq, decide_true, decide_false, Bool.false_eq_true, Nat.reduceAdd, Nat.reduceEqDiff, ty_none_tuple, ty_none_list, ty_none_bool, ty_none_int, ty_none_str, ty_bool_tuple, ty_bool_list, ty_bool_bool, ty_bool_int, ty_bool_str, ty_int_tuple, ty_int_list, ty_int_bool, ty_int_int, ty_int_str, ty_str_tuple, ty_str_list, ty_str_bool, ty_str_int, ty_str_str, ty_list_tuple, ty_list_list, ty_list_bool, ty_list_int, ty_list_str, ty_tuple_tuple, ty_tuple_list, ty_tuple_bool, ty_tuple_int, ty_tuple_str, d_law_whole, b_law_whole, q1]
    · have q1 := eq_false h1
      have e : decide (0 ≤ i ∧ i ≤ m) = false := decide_eq_false fun z => h1 z.1
      rw [e]
      simp only [k_dC, k_var_ap, k_varO_ap, k_varV_ap, k_op, k_op1, k_op2, k_fin, k_tst, k_t1, k_t2, k_tF, k_opB, k_B, k_neg, k_neg1, k_andT, k_orT, k_notT, k_and1, k_and0, k_or1, k_or0, k_not1, k_tru, k_tru1, k_andV, k_orV, k_notV, k_andV1, k_andV0, k_orV1, k_orV0, k_notV1, k_if, k_if1, k_if0, k_ifD, k_nil, k_cons, k_cons1, k_cons2, k_nilA, k_consA, k_consA1, k_consA2, k_V, k_V1, k_F, k_F1, k_tup, k_tup1, k_lst, k_lst1, k_cl, k_cl1, k_clL, k_clL1, k_finL, k_isi, k_isi1, k_fn, k_fn1, k_dat, k_fnV, k_fnV1, k_seqI, k_seqI1, k_seqI2, k_rng1, k_rng1', k_rng2, k_rng2a, k_rng2b, k_enum, k_enum1, k_zip, k_zip1, k_zip2, k_P, k_P1, k_noP, k_sl, k_sl1, k_sl2, k_sl3, k_cmp, k_cmp1, k_yes, k_seq, k_seq1, k_seq2, k_seq3, k_seq4, k_next, k_brk, k_cont, k_retN, k_asg, k_asg1, k_asgV, k_asgV1, k_asgV2, k_asgV3, k_asgO, k_asgO1, k_asgG, k_asgG1, k_nx, k_gN, k_gT, k_gC, k_g1, k_g0, k_par, k_par1, k_par2, k_drop, k_drop1, k_ret, k_ret1, k_retV, k_retV1, k_ifS, k_ifS1, k_ifS0, k_ifSD, k_fz_ap, k_app, k_app1, k_for, k_for1, k_aug1, k_fun1, k_fun2, k_idx, k_idx1, k_idx2, k_lenC, k_lenC1, k_popC, k_bset, k_getC, k_getC1, k_getC2, k_at0, k_at1, k_at2, k_bg1, k_bg2, k_bs1, k_bs2, k_bc, k_pop1, k_chn, k_chn1, k_chn2, k_chn3t, k_chn3f, k_chn4, k_tfo, k_chnB, k_chB, k_rev, k_rev1, k_revL, k_revL1, k_rg1, k_rg1', k_tupRg, k_tupRg1, k_lstRg, k_lstRg1, k_srt, k_srt1, k_parLE, k_parLE1, k_parLE2, k_augA, k_augA1, sz0, sz1, sz2, sz3, sz4, sz5, sz6, k_fun, eqI, neI, addI, subI, ltI, leI, gtI, geI, truD, pyLen, pyAbs, pyMin2, pyMax2, pyInt, pyTuple, pyList, pyIx, pyIs, pyIsNot, isNon, nown, wipeD, Option.map_some, List.getElem?_cons_zero, List.getElem?_cons_succ, List.set_cons_zero, List.set_cons_succ, List.map_cons, List.map_nil, List.cons_append, List.nil_append, List.length_cons, List.length_nil, List.all_cons, List.all_nil, List.replicate_succ, List.replicate_zero, Bool.and_true, Bool.true_and, Bool.and_self, Bool.not_true, Bool.not_false, and_self, and_true, true_and, if_true, if_false, reduceIte, reduceCtorEq, decide_true, decide_false, Bool.false_eq_true, Nat.reduceAdd, Nat.reduceEqDiff, ty_none_tuple, ty_none_list, ty_none_bool, ty_none_int, ty_none_str, ty_bool_tuple, ty_bool_list, ty_bool_bool, ty_bool_int, ty_bool_str, ty_int_tuple, ty_int_list, ty_int_bool, ty_int_int, ty_int_str, ty_str_tuple, ty_str_list, ty_str_bool, ty_str_int, ty_str_str, ty_list_tuple, ty_list_list, ty_list_bool, ty_list_int, ty_list_str, ty_tuple_tuple, ty_tuple_list, ty_tuple_bool, ty_tuple_int, ty_tuple_str, d_law_whole, b_law_whole, q1]
  | none => simp only [k_dC, k_var_ap, k_varO_ap, k_varV_ap, k_op, k_op1, k_op2, k_fin, k_tst, k_t1, k_t2, k_tF, k_opB, k_B, k_neg, k_neg1, k_andT, k_orT, k_notT, k_and1, k_and0, k_or1, k_or0, k_not1, k_tru, k_tru1, k_andV, k_orV, k_notV, k_andV1, k_andV0, k_orV1, k_orV0, k_notV1, k_if, k_if1, k_if0, k_ifD, k_nil, k_cons, k_cons1, k_cons2, k_nilA, k_consA, k_consA1, k_consA2, k_V, k_V1, k_F, k_F1, k_tup, k_tup1, k_lst, k_lst1, k_cl, k_cl1, k_clL, k_clL1, k_finL, k_isi, k_isi1, k_fn, k_fn1, k_dat, k_fnV, k_fnV1, k_seqI, k_seqI1, k_seqI2, k_rng1, k_rng1', k_rng2, k_rng2a, k_rng2b, k_enum, k_enum1, k_zip, k_zip1, k_zip2, k_P, k_P1, k_noP, k_sl, k_sl1, k_sl2, k_sl3, k_cmp, k_cmp1, k_yes, k_seq, k_seq1, k_seq2, k_seq3, k_seq4, k_next, k_brk, k_cont, k_retN, k_asg, k_asg1, k_asgV, k_asgV1, k_asgV2, k_asgV3, k_asgO, k_asgO1, k_asgG, k_asgG1, k_nx, k_gN, k_gT, k_gC, k_g1, k_g0, k_par, k_par1, k_par2, k_drop, k_drop1, k_ret, k_ret1, k_retV, k_retV1, k_ifS, k_ifS1, k_ifS0, k_ifSD, k_fz_ap, k_app, k_app1, k_for, k_for1, k_aug1, k_fun1, k_fun2, k_idx, k_idx1, k_idx2, k_lenC, k_lenC1, k_popC, k_bset, k_getC, k_getC1, k_getC2, k_at0, k_at1, k_at2, k_bg1, k_bg2, k_bs1, k_bs2, k_bc, k_pop1, k_chn, k_chn1, k_chn2, k_chn3t, k_chn3f, k_chn4, k_tfo, k_chnB, k_chB, k_rev, k_rev1, k_revL, k_revL1, k_rg1, k_rg1', k_tupRg, k_tupRg1, k_lstRg, k_lstRg1, k_srt, k_srt1, k_parLE, k_parLE1, k_parLE2, k_augA, k_augA1, sz0, sz1, sz2, sz3, sz4, sz5, sz6, k_fun, eqI, neI, addI, subI, ltI, leI, gtI, geI, truD, pyLen, pyAbs, pyMin2, pyMax2, pyInt, pyTuple, pyList, pyIx, pyIs, pyIsNot, isNon, nown, wipeD, Option.map_some, List.getElem?_cons_zero, List.getElem?_cons_succ, List.set_cons_zero, List.set_cons_succ, List.map_cons, List.map_nil, List.cons_append, List.nil_append, List.length_cons, List.length_nil, List.all_cons, List.all_nil, List.replicate_succ, List.replicate_zero, Bool.and_true, Bool.true_and, Bool.and_self, Bool.not_true, Bool.not_false, and_self, and_true, true_and, if_true, if_false, reduceIte, reduceCtorEq, decide_true, decide_false, Bool.false_eq_true, Nat.reduceAdd, Nat.reduceEqDiff, ty_none_tuple, ty_none_list, ty_none_bool, ty_none_int, ty_none_str, ty_bool_tuple, ty_bool_list, ty_bool_bool, ty_bool_int, ty_bool_str, ty_int_tuple, ty_int_list, ty_int_bool, ty_int_int, ty_int_str, ty_str_tuple, ty_str_list, ty_str_bool, ty_str_int, ty_str_str, ty_list_tuple, ty_list_list, ty_list_bool, ty_list_int, ty_list_str, ty_tuple_tuple, ty_tuple_list, ty_tuple_bool, ty_tuple_int, ty_tuple_str, d_law_whole, b_law_whole, numIn]
  | bool b => simp only [k_dC, k_var_ap, k_varO_ap, k_varV_ap, k_op, k_op1, k_op2, k_fin, k_tst, k_t1, k_t2, k_tF, k_opB, k_B, k_neg, k_neg1, k_andT, k_orT, k_notT, k_and1, k_and0, k_or1, k_or0, k_not1, k_tru, k_tru1, k_andV, k_orV, k_notV, k_andV1, k_andV0, k_orV1, k_orV0, k_notV1, k_if, k_if1, k_if0, k_ifD, k_nil, k_cons, k_cons1, k_cons2, k_nilA, k_consA, k_consA1, k_consA2, k_V, k_V1, k_F, k_F1, k_tup, k_tup1, k_lst, k_lst1, k_cl, k_cl1, k_clL, k_clL1, k_finL, k_isi, k_isi1, k_fn, k_fn1, k_dat, k_fnV, k_fnV1, k_seqI, k_seqI1, k_seqI2, k_rng1, k_rng1', k_rng2, k_rng2a, k_rng2b, k_enum, k_enum1, k_zip, k_zip1, k_zip2, k_P, k_P1, k_noP, k_sl, k_sl1, k_sl2, k_sl3, k_cmp, k_cmp1, k_yes, k_seq, k_seq1, k_seq2, k_seq3, k_seq4, k_next, k_brk, k_cont, k_retN, k_asg, k_asg1, k_asgV, k_asgV1, k_asgV2, k_asgV3, k_asgO, k_asgO1, k_asgG, k_asgG1, k_nx, k_gN, k_gT, k_gC, k_g1, k_g0, k_par, k_par1, k_par2, k_drop, k_drop1, k_ret, k_ret1, k_retV, k_retV1, k_ifS, k_ifS1, k_ifS0, k_ifSD, k_fz_ap, k_app, k_app1, k_for, k_for1, k_aug1, k_fun1, k_fun2, k_idx, k_idx1, k_idx2, k_lenC, k_lenC1, k_popC, k_bset, k_getC, k_getC1, k_getC2, k_at0, k_at1, k_at2, k_bg1, k_bg2, k_bs1, k_bs2, k_bc, k_pop1, k_chn, k_chn1, k_chn2, k_chn3t, k_chn3f, k_chn4, k_tfo, k_chnB, k_chB, k_rev, k_rev1, k_revL, k_revL1, k_rg1, k_rg1', k_tupRg, k_tupRg1, k_lstRg, k_lstRg1, k_srt, k_srt1, k_parLE, k_parLE1, k_parLE2, k_augA, k_augA1, sz0, sz1, sz2, sz3, sz4, sz5, sz6, k_fun, eqI, neI, addI, subI, ltI, leI, gtI, geI, truD, pyLen, pyAbs, pyMin2, pyMax2, pyInt, pyTuple, pyList, pyIx, pyIs, pyIsNot, isNon, nown, wipeD, Option.map_some, List.getElem?_cons_zero, List.getElem?_cons_succ, List.set_cons_zero, List.set_cons_succ, List.map_cons, List.map_nil, List.cons_append, List.nil_append, List.length_cons, List.length_nil, List.all_cons, List.all_nil, List.replicate_succ, List.replicate_zero, Bool.and_true, Bool.true_and, Bool.and_self, Bool.not_true, Bool.not_false, and_self, and_true, true_and, if_true, if_false, reduceIte, reduceCtorEq, decide_true, decide_false, Bool.false_eq_true, Nat.reduceAdd, Nat.reduceEqDiff, ty_none_tuple, ty_none_list, ty_none_bool, ty_none_int, ty_none_str, ty_bool_tuple, ty_bool_list, ty_bool_bool, ty_bool_int, ty_bool_str, ty_int_tuple, ty_int_list, ty_int_bool, ty_int_int, ty_int_str, ty_str_tuple, ty_str_list, ty_str_bool, ty_str_int, ty_str_str, ty_list_tuple, ty_list_list, ty_list_bool, ty_list_int, ty_list_str, ty_tuple_tuple, ty_tuple_list, ty_tuple_bool, ty_tuple_int, ty_tuple_str, d_law_whole, b_law_whole, numIn]
  | str s => simp only [k_dC, k_var_ap, k_varO_ap, k_varV_ap, k_op, k_op1, k_op2, k_fin, k_tst, k_t1, k_t2, k_tF, k_opB, k_B, k_neg, k_neg1, k_andT, k_orT, k_notT, k_and1, k_and0, k_or1, k_or0, k_not1, k_tru, k_tru1, k_andV, k_orV, k_notV, k_andV1, k_andV0, k_orV1, k_orV0, k_notV1, k_if, k_if1, k_if0, k_ifD, k_nil, k_cons, k_cons1, k_cons2, k_nilA, k_consA, k_consA1, k_consA2, k_V, k_V1, k_F, k_F1, k_tup, k_tup1, k_lst, k_lst1, k_cl, k_cl1, k_clL, k_clL1, k_finL, k_isi, k_isi1, k_fn, k_fn1, k_dat, k_fnV, k_fnV1, k_seqI, k_seqI1, k_seqI2, k_rng1, k_rng1', k_rng2, k_rng2a, k_rng2b, k_enum, k_enum1, k_zip, k_zip1, k_zip2, k_P, k_P1, k_noP, k_sl, k_sl1, k_sl2, k_sl3, k_cmp, k_cmp1, k_yes, k_seq, k_seq1, k_seq2, k_seq3, k_seq4, k_next, k_brk, k_cont, k_retN, k_asg, k_asg1, k_asgV, k_asgV1, k_asgV2, k_asgV3, k_asgO, k_asgO1, k_asgG, k_asgG1, k_nx, k_gN, k_gT, k_gC, k_g1, k_g0, k_par, k_par1, k_par2, k_drop, k_drop1, k_ret, k_ret1, k_retV, k_retV1, k_ifS, k_ifS1, k_ifS0, k_ifSD, k_fz_ap, k_app, k_app1, k_for, k_for1, k_aug1, k_fun1, k_fun2, k_idx, k_idx1, k_idx2, k_lenC, k_lenC1, k_popC, k_bset, k_getC, k_getC1, k_getC2, k_at0, k_at1, k_at2, k_bg1, k_bg2, k_bs1, k_bs2, k_bc, k_pop1, k_chn, k_chn1, k_chn2, k_chn3t, k_chn3f, k_chn4, k_tfo, k_chnB, k_chB, k_rev, k_rev1, k_revL, k_revL1, k_rg1, k_rg1', k_tupRg, k_tupRg1, k_lstRg, k_lstRg1, k_srt, k_srt1, k_parLE, k_parLE1, k_parLE2, k_augA, k_augA1, sz0, sz1, sz2, sz3, sz4, sz5, sz6, k_fun, eqI, neI, addI, subI, ltI, leI, gtI, geI, truD, pyLen, pyAbs, pyMin2, pyMax2, pyInt, pyTuple, pyList, pyIx, pyIs, pyIsNot, isNon, nown, wipeD, Option.map_some, List.getElem?_cons_zero, List.getElem?_cons_succ, List.set_cons_zero, List.set_cons_succ, List.map_cons, List.map_nil, List.cons_append, List.nil_append, List.length_cons, List.length_nil, List.all_cons, List.all_nil, List.replicate_succ, List.replicate_zero, Bool.and_true, Bool.true_and, Bool.and_self, Bool.not_true, Bool.not_false, and_self, and_true, true_and, if_true, if_false, reduceIte, reduceCtorEq, decide_true, decide_false, Bool.false_eq_true, Nat.reduceAdd, Nat.reduceEqDiff, ty_none_tuple, ty_none_list, ty_none_bool, ty_none_int, ty_none_str, ty_bool_tuple, ty_bool_list, ty_bool_bool, ty_bool_int, ty_bool_str, ty_int_tuple, ty_int_list, ty_int_bool, ty_int_int, ty_int_str, ty_str_tuple, ty_str_list, ty_str_bool, ty_str_int, ty_str_str, ty_list_tuple, ty_list_list, ty_list_bool, ty_list_int, ty_list_str, ty_tuple_tuple, ty_tuple_list, ty_tuple_bool, ty_tuple_int, ty_tuple_str, d_law_whole, b_law_whole, numIn]
  | tuple xs => simp only [k_dC, k_var_ap, k_varO_ap, k_varV_ap, k_op, k_op1, k_op2, k_fin, k_tst, k_t1, k_t2, k_tF, k_opB, k_B, k_neg, k_neg1, k_andT, k_orT, k_notT, k_and1, k_and0, k_or1, k_or0, k_not1, k_tru, k_tru1, k_andV, k_orV, k_notV, k_andV1, k_andV0, k_orV1, k_orV0, k_notV1, k_if, k_if1, k_if0, k_ifD, k_nil, k_cons, k_cons1, k_cons2, k_nilA, k_consA, k_consA1, k_consA2, k_V, k_V1, k_F, k_F1, k_tup, k_tup1, k_lst, k_lst1, k_cl, k_cl1, k_clL, k_clL1, k_finL, k_isi, k_isi1, k_fn, k_fn1, k_dat, k_fnV, k_fnV1, k_seqI, k_seqI1, k_seqI2, k_rng1, k_rng1', k_rng2, k_rng2a, k_rng2b, k_enum, k_enum1, k_zip, k_zip1, k_zip2, k_P, k_P1, k_noP, k_sl, k_sl1, k_sl2, k_sl3, k_cmp, k_cmp1, k_yes, k_seq, k_seq1, k_seq2, k_seq3, k_seq4, k_next, k_brk, k_cont, k_retN, k_asg, k_asg1, k_asgV, k_asgV1, k_asgV2, k_asgV3, k_asgO, k_asgO1, k_asgG, k_asgG1, k_nx, k_gN, k_gT, k_gC, k_g1, k_g0, k_par, k_par1, k_par2, k_drop, k_drop1, k_ret, k_ret1, k_retV, k_retV1, k_ifS, k_ifS1, k_ifS0, k_ifSD, k_fz_ap, k_app, k_app1, k_for, k_for1, k_aug1, k_fun1, k_fun2, k_idx, k_idx1, k_idx2, k_lenC, k_lenC1, k_popC, k_bset, k_getC, k_getC1, k_getC2, k_at0, k_at1, k_at2, k_bg1, k_bg2, k_bs1, k_bs2, k_bc, k_pop1, k_chn, k_chn1, k_chn2, k_chn3t, k_chn3f, k_chn4, k_tfo, k_chnB, k_chB, k_rev, k_rev1, k_revL, k_revL1, k_rg1, k_rg1', k_tupRg, k_tupRg1, k_lstRg, k_lstRg1, k_srt, k_srt1, k_parLE, k_parLE1, k_parLE2, k_augA, k_augA1, sz0, sz1, sz2, sz3, sz4, sz5, sz6, k_fun, eqI, neI, addI, subI, ltI, leI, gtI, geI, truD, pyLen, pyAbs, pyMin2, pyMax2, pyInt, pyTuple, pyList, pyIx, pyIs, pyIsNot, isNon, nown, wipeD, Option.map_some, List.getElem?_cons_zero, List.getElem?_cons_succ, List.set_cons_zero, List.set_cons_succ, List.map_cons, List.map_nil, List.cons_append, List.nil_append, List.length_cons, List.length_nil, List.all_cons, List.all_nil, List.replicate_succ, List.replicate_zero, Bool.and_true, Bool.true_and, Bool.and_self, Bool.not_true, Bool.not_false, and_self, and_true, true_and, if_true, if_false, reduceIte, reduceCtorEq, decide_true, decide_false, Bool.false_eq_true, Nat.reduceAdd, Nat.reduceEqDiff, ty_none_tuple, ty_none_list, ty_none_bool, ty_none_int, ty_none_str, ty_bool_tuple, ty_bool_list, ty_bool_bool, ty_bool_int, ty_bool_str, ty_int_tuple, ty_int_list, ty_int_bool, ty_int_int, ty_int_str, ty_str_tuple, ty_str_list, ty_str_bool, ty_str_int, ty_str_str, ty_list_tuple, ty_list_list, ty_list_bool, ty_list_int, ty_list_str, ty_tuple_tuple, ty_tuple_list, ty_tuple_bool, ty_tuple_int, ty_tuple_str, d_law_whole, b_law_whole, numIn]
  | list xs => cases hj
  | dict xs => cases hj
/-- the row of numbers below n that a value is -/
def natsOf (n : Nat) : List PyData → Option (List Nat)
  | [] => some []
  | .int i :: r => if 0 ≤ i ∧ i < n then (natsOf n r).map (i.toNat :: ·) else none
  | _ :: _ => none
theorem natsOf_is {n : Nat} : ∀ {xs : List PyData} {v : List Nat}, natsOf n xs = some v → xs = nD v ∧ ∀ x ∈ v, x < n
  | [], v, h => by cases h; exact ⟨rfl, fun _ h => absurd h List.not_mem_nil⟩
  | .int i :: r, v, h => by
    unfold natsOf at h
    split at h
    · rename_i hi
      obtain ⟨u, h1, h2⟩ := mpd h
      cases h2
      obtain ⟨e1, e2⟩ := natsOf_is h1
      refine ⟨?_, fun x hx => ?_⟩
      · rw [e1]
        show _ = PyData.int ((i.toNat : Nat) : Int) :: nD u
        rw [Int.toNat_of_nonneg hi.1]
      · rcases List.mem_cons.mp hx with z | z
        · rw [z]; omega
        · exact e2 x z
    · cases h
  | .none :: _, _, h => by cases h
  | .bool _ :: _, _, h => by cases h
  | .str _ :: _, _, h => by cases h
  | .list _ :: _, _, h => by cases h
  | .tuple _ :: _, _, h => by cases h
  | .dict _ :: _, _, h => by cases h
theorem natsOf_all (n : Nat) : ∀ (xs : List PyData), xs.all (numIn ((n : Int) - 1)) = (natsOf n xs).isSome
  | [] => rfl
  | .int i :: r => by
    rw [List.all_cons, natsOf_all n r]
    show (decide (0 ≤ i ∧ i ≤ (n : Int) - 1) && (natsOf n r).isSome) = (if 0 ≤ i ∧ i < n then (natsOf n r).map (i.toNat :: ·) else none).isSome
    by_cases h : 0 ≤ i ∧ i < n
    · rw [if_pos h, decide_eq_true (by omega), Bool.true_and]
      cases natsOf n r <;> rfl
    · rw [if_neg h, decide_eq_false (by omega), Bool.false_and]
      rfl
  | .none :: _ => rfl
  | .bool _ :: _ => rfl
  | .str _ :: _ => rfl
  | .list _ :: _ => rfl
  | .tuple _ :: _ => rfl
  | .dict _ :: _ => rfl
theorem natsOf_nD {n : Nat} : ∀ {v : List Nat}, (∀ x ∈ v, x < n) → natsOf n (nD v) = some v
  | [], _ => rfl
  | x :: v, h => by
    show natsOf n (.int (x : Int) :: nD v) = _
    unfold natsOf
    have := h x List.mem_cons_self
    rw [if_pos (by omega), natsOf_nD fun y hy => h y (List.mem_cons_of_mem _ hy)]
    simp
def ascB (v : List Nat) : Bool := decide (v.Pairwise (· < ·))
def rowOf (n : Nat) : PyData → Option (List Nat)
  | .tuple xs => (natsOf n xs).bind fun v => if ascB v = true then some v else none
  | _ => none
theorem bols_map {α : Type} (g : α → Bool) (xs : List α) : bolsOf (xs.map fun x => PyData.bool (g x)) = some (xs.map g) := by
  induction xs with
  | nil => rfl
  | cons x r ih => simp only [List.map_cons]; unfold bolsOf; rw [ih]; rfl
theorem all_bools {α : Type} (g : α → Bool) (xs : List α) : pyAll [.list (xs.map fun x => PyData.bool (g x))] = some (.bool (xs.all g)) := by
  have e : pyAll [.list (xs.map fun x => PyData.bool (g x))] = (bolsOf (xs.map fun x => PyData.bool (g x))).map fun ns => PyData.bool (ns.all id) := rfl
  rw [e, bols_map, Option.map_some, List.all_map]
  rfl
theorem asc_iff (v : List Nat) : v.Pairwise (· < ·) ↔ ∀ k, k + 1 < v.length → v.getD k 0 < v.getD (k + 1) 0 := by
  have gd : ∀ k (h : k < v.length), v.getD k 0 = v[k] := fun k h => by rw [List.getD_eq_getElem?_getD, List.getElem?_eq_getElem h]; rfl
  rw [List.pairwise_iff_getElem]
  refine ⟨fun h k hk => ?_, fun h => ?_⟩
  · rw [gd k (by omega), gd (k + 1) hk]
    exact h k (k + 1) (by omega) hk (by omega)
  · intro i j hi hj hij
    rw [← gd i hi, ← gd j hj]
    induction j with
    | zero => omega
    | succ j ih =>
      have h1 := h j hj
      rcases Nat.lt_or_ge i j with z | z
      · have := ih (by omega) z
        omega
      · have : i = j := by omega
        rw [this]; exact h1
theorem sp_ascending (v : List Nat) (hl : v.length ≤ 62) (B : Bx) : d_is_ascending [.dat (.tuple (nD v))] B = some (.dat (.bool (ascB v)), B) := by
  have hc : cmpGo (gN 1) dYes (dOpB pyLt (dOp pyIx (dVarO 0) (dVarO 1)) (dOp pyIx (dVarO 0) (dOp pyAdd (dVarO 1) (dC (.int 1))))) [some (.dat (.tuple (nD v))), none] (rngD 0 (v.length - 1)) B = some ((rngD 0 (v.length - 1)).map fun x => .bool (match x with | .int i => decide (v.getD i.toNat 0 < v.getD (i.toNat + 1) 0) | _ => false), B) := by
    refine cmpGo_map _ _ fun x hx => ?_
    obtain ⟨i, hi, rfl⟩ := rngD_mem hx
    refine ⟨_, k_gN, ?_⟩
    have h1 := ixT (nD_at (xs := v) (i := i) (by omega))
    have h2 := ixT (nD_at (xs := v) (i := i + 1) (by omega))
    rw [show ((i + 1 : Nat) : Int) = (i : Int) + 1 from rfl] at h2
    have e : decide (((v.getD i 0 : Nat) : Int) < ((v.getD (i + 1) 0 : Nat) : Int)) = decide (v.getD i 0 < v.getD (i + 1) 0) := decide_eq_decide.mpr (by omega)
    simp only [k_dC, k_var_ap, k_varO_ap, k_varV_ap, k_op, k_op1, k_op2, k_fin, k_tst, k_t1, k_t2, k_tF, k_opB, k_B, k_neg, k_neg1, k_andT, k_orT, k_notT, k_and1, k_and0, k_or1, k_or0, k_not1, k_tru, k_tru1, k_andV, k_orV, k_notV, k_andV1, k_andV0, k_orV1, k_orV0, k_notV1, k_if, k_if1, k_if0, k_ifD, k_nil, k_cons, k_cons1, k_cons2, k_nilA, k_consA, k_consA1, k_consA2, k_V, k_V1, k_F, k_F1, k_tup, k_tup1, k_lst, k_lst1, k_cl, k_cl1, k_clL, k_clL1, k_finL, k_isi, k_isi1, k_fn, k_fn1, k_dat, k_fnV, k_fnV1, k_seqI, k_seqI1, k_seqI2, k_rng1, k_rng1', k_rng2, k_rng2a, k_rng2b, k_enum, k_enum1, k_zip, k_zip1, k_zip2, k_P, k_P1, k_noP, k_sl, k_sl1, k_sl2, k_sl3, k_cmp, k_cmp1, k_yes, k_seq, k_seq1, k_seq2, k_seq3, k_seq4, k_next, k_brk, k_cont, k_retN, k_asg, k_asg1, k_asgV, k_asgV1, k_asgV2, k_asgV3, k_asgO, k_asgO1, k_asgG, k_asgG1, k_nx, k_gN, k_gT, k_gC, k_g1, k_g0, k_par, k_par1, k_par2, k_drop, k_drop1, k_ret, k_ret1, k_retV, k_retV1, k_ifS, k_ifS1, k_ifS0, k_ifSD, k_fz_ap, k_app, k_app1, k_for, k_for1, k_aug1, k_fun1, k_fun2, k_idx, k_idx1, k_idx2, k_lenC, k_lenC1, k_popC, k_bset, k_getC, k_getC1, k_getC2, k_bg1, k_bg2, k_bs1, k_bs2, k_bc, k_pop1, k_chn, k_chn1, k_chn2, k_chn3t, k_chn3f, k_chn4, k_tfo, k_chnB, k_chB, k_rev, k_rev1, k_revL, k_revL1, k_rg1, k_rg1', k_tupRg, k_tupRg1, k_lstRg, k_lstRg1, k_srt, k_srt1, k_parLE, k_parLE1, k_parLE2, k_augA, k_augA1, sz0, sz1, sz2, sz3, sz4, sz5, sz6, k_fun, eqI, neI, addI, subI, ltI, leI, gtI, geI, truD, isTy, tyName, pyLen, pyAbs, pyMin2, pyMax2, pyInt, pyTuple, pyList, pyIs, pyIsNot, isNon, nown, wipeD, Option.map_some, List.getElem?_cons_zero, List.getElem?_cons_succ, List.set_cons_zero, List.set_cons_succ, List.map_cons, List.map_nil, List.cons_append, List.nil_append, List.length_cons, List.length_nil, List.all_cons, List.all_nil, List.replicate_succ, List.replicate_zero, Bool.and_true, Bool.true_and, Bool.and_self, Bool.not_true, Bool.not_false, and_self, and_true, true_and, if_true, if_false, reduceIte, reduceCtorEq, decide_true, decide_false, Bool.false_eq_true, Nat.reduceAdd, Nat.reduceEqDiff, Int.zero_add, h1, h2, e, Int.toNat_natCast]
  have hr : ((v.length : Int) - 1).toNat = v.length - 1 := by omega
  have r1 := rng_okI (i := (v.length : Int) - 1) (by omega) (by omega)
  have r2 : (v.length - 1 < sizeLine) = True := eq_true (szlt (by omega))
  have ha := all_bools (fun x : PyData => match x with | .int i => decide (v.getD i.toNat 0 < v.getD (i.toNat + 1) 0) | _ => false) (rngD 0 (v.length - 1))
  have hv : (rngD 0 (v.length - 1)).all (fun x : PyData => match x with | .int i => decide (v.getD i.toNat 0 < v.getD (i.toNat + 1) 0) | _ => false) = ascB v := by
    rw [Bool.eq_iff_iff, List.all_eq_true]
    unfold ascB
    rw [decide_eq_true_eq, asc_iff]
    refine ⟨fun h k hk => ?_, fun h x hx => ?_⟩
    · have hm : PyData.int (0 + (k : Int)) ∈ rngD 0 (v.length - 1) := by
        unfold rngD
        exact List.mem_map.mpr ⟨k, List.mem_range.mpr (by omega), rfl⟩
      have := h _ hm
      simp only [Int.zero_add, Int.toNat_natCast, decide_eq_true_eq] at this
      exact this
    · obtain ⟨i, hi, rfl⟩ := rngD_mem hx
      simp only [Int.zero_add, Int.toNat_natCast, decide_eq_true_eq]
      exact h i (by omega)
  rw [hv] at ha
  simp only [k_dC, k_var_ap, k_varO_ap, k_varV_ap, k_op, k_op1, k_op2, k_fin, k_tst, k_t1, k_t2, k_tF, k_opB, k_B, k_neg, k_neg1, k_andT, k_orT, k_notT, k_and1, k_and0, k_or1, k_or0, k_not1, k_tru, k_tru1, k_andV, k_orV, k_notV, k_andV1, k_andV0, k_orV1, k_orV0, k_notV1, k_if, k_if1, k_if0, k_ifD, k_nil, k_cons, k_cons1, k_cons2, k_nilA, k_consA, k_consA1, k_consA2, k_V, k_V1, k_F, k_F1, k_tup, k_tup1, k_lst, k_lst1, k_cl, k_cl1, k_clL, k_clL1, k_finL, k_isi, k_isi1, k_fn, k_fn1, k_dat, k_fnV, k_fnV1, k_seqI, k_seqI1, k_seqI2, k_rng1, k_rng1', k_rng2, k_rng2a, k_rng2b, k_enum, k_enum1, k_zip, k_zip1, k_zip2, k_P, k_P1, k_noP, k_sl, k_sl1, k_sl2, k_sl3, k_cmp, k_cmp1, k_yes, k_seq, k_seq1, k_seq2, k_seq3, k_seq4, k_next, k_brk, k_cont, k_retN, k_asg, k_asg1, k_asgV, k_asgV1, k_asgV2, k_asgV3, k_asgO, k_asgO1, k_asgG, k_asgG1, k_nx, k_gN, k_gT, k_gC, k_g1, k_g0, k_par, k_par1, k_par2, k_drop, k_drop1, k_ret, k_ret1, k_retV, k_retV1, k_ifS, k_ifS1, k_ifS0, k_ifSD, k_fz_ap, k_app, k_app1, k_for, k_for1, k_aug1, k_fun1, k_fun2, k_idx, k_idx1, k_idx2, k_lenC, k_lenC1, k_popC, k_bset, k_getC, k_getC1, k_getC2, k_at0, k_at1, k_at2, k_bg1, k_bg2, k_bs1, k_bs2, k_bc, k_pop1, k_chn, k_chn1, k_chn2, k_chn3t, k_chn3f, k_chn4, k_tfo, k_chnB, k_chB, k_rev, k_rev1, k_revL, k_revL1, k_rg1, k_rg1', k_tupRg, k_tupRg1, k_lstRg, k_lstRg1, k_srt, k_srt1, k_parLE, k_parLE1, k_parLE2, k_augA, k_augA1, sz0, sz1, sz2, sz3, sz4, sz5, sz6, k_fun, eqI, neI, addI, subI, ltI, leI, gtI, geI, truD, isTy, tyName, pyLen, pyAbs, pyMin2, pyMax2, pyInt, pyTuple, pyList, pyIx, pyIs, pyIsNot, isNon, nown, wipeD, Option.map_some, List.getElem?_cons_zero, List.getElem?_cons_succ, List.set_cons_zero, List.set_cons_succ, List.map_cons, List.map_nil, List.cons_append, List.nil_append, List.length_cons, List.length_nil, List.all_cons, List.all_nil, List.replicate_succ, List.replicate_zero, Bool.and_true, Bool.true_and, Bool.and_self, Bool.not_true, Bool.not_false, and_self, and_true, true_and, if_true, if_false, reduceIte, reduceCtorEq, decide_true, decide_false, Bool.false_eq_true, Nat.reduceAdd, Nat.reduceEqDiff, d_is_ascending, b_is_ascending, nD_len, r1, hr, rngD_length, r2, hc, ha]
theorem jk_tuple {xs : List PyData} (h : jk (.tuple xs) = true) : xs.length ≤ 62 ∧ ∀ x ∈ xs, jk x = true := by
  unfold jk at h
  rw [Bool.and_eq_true, decide_eq_true_eq] at h
  exact ⟨h.1, jk_mem h.2⟩
theorem sp_index_row (n : Nat) (d : PyData) (hj : jk d = true) (hn : n < 1000) (B : Bx) : d_is_index_row [.dat (.int n), .dat d] B = some (.dat (.bool (rowOf n d).isSome), B) := by
  cases d with
  | tuple xs =>
    obtain ⟨hl, hx⟩ := jk_tuple hj
    have hc : cmpGo (gN 2) dYes (dFn (d_is_number) (dConsA (dVarV 2) (dConsA (dV (dC (.int 0))) (dConsA (dV (dOp pySub (dVarO 0) (dC (.int 1)))) dNilA)))) [some (.dat (.int n)), some (.dat (.tuple xs)), none] xs B = some (xs.map fun x => .bool (numIn ((n : Int) - 1) x), B) := by
      refine cmpGo_map _ _ fun x hx2 => ⟨_, k_gN, ?_⟩
      have e := sp_number x ((n : Int) - 1) (hx x hx2) B
      simp only [k_dC, k_var_ap, k_varO_ap, k_varV_ap, k_op, k_op1, k_op2, k_fin, k_tst, k_t1, k_t2, k_tF, k_opB, k_B, k_neg, k_neg1, k_andT, k_orT, k_notT, k_and1, k_and0, k_or1, k_or0, k_not1, k_tru, k_tru1, k_andV, k_orV, k_notV, k_andV1, k_andV0, k_orV1, k_orV0, k_notV1, k_if, k_if1, k_if0, k_ifD, k_nil, k_cons, k_cons1, k_cons2, k_nilA, k_consA, k_consA1, k_consA2, k_V, k_V1, k_F, k_F1, k_tup, k_tup1, k_lst, k_lst1, k_cl, k_cl1, k_clL, k_clL1, k_finL, k_isi, k_isi1, k_fn, k_fn1, k_dat, k_fnV, k_fnV1, k_seqI, k_seqI1, k_seqI2, k_rng1, k_rng1', k_rng2, k_rng2a, k_rng2b, k_enum, k_enum1, k_zip, k_zip1, k_zip2, k_P, k_P1, k_noP, k_sl, k_sl1, k_sl2, k_sl3, k_cmp, k_cmp1, k_yes, k_seq, k_seq1, k_seq2, k_seq3, k_seq4, k_next, k_brk, k_cont, k_retN, k_asg, k_asg1, k_asgV, k_asgV1, k_asgV2, k_asgV3, k_asgO, k_asgO1, k_asgG, k_asgG1, k_nx, k_gN, k_gT, k_gC, k_g1, k_g0, k_par, k_par1, k_par2, k_drop, k_drop1, k_ret, k_ret1, k_retV, k_retV1, k_ifS, k_ifS1, k_ifS0, k_ifSD, k_fz_ap, k_app, k_app1, k_for, k_for1, k_aug1, k_fun1, k_fun2, k_idx, k_idx1, k_idx2, k_lenC, k_lenC1, k_popC, k_bset, k_getC, k_getC1, k_getC2, k_at0, k_at1, k_at2, k_bg1, k_bg2, k_bs1, k_bs2, k_bc, k_pop1, k_chn, k_chn1, k_chn2, k_chn3t, k_chn3f, k_chn4, k_tfo, k_chnB, k_chB, k_rev, k_rev1, k_revL, k_revL1, k_rg1, k_rg1', k_tupRg, k_tupRg1, k_lstRg, k_lstRg1, k_srt, k_srt1, k_parLE, k_parLE1, k_parLE2, k_augA, k_augA1, sz0, sz1, sz2, sz3, sz4, sz5, sz6, k_fun, eqI, neI, addI, subI, ltI, leI, gtI, geI, truD, isTy, tyName, pyLen, pyAbs, pyMin2, pyMax2, pyInt, pyTuple, pyList, pyIx, pyIs, pyIsNot, isNon, nown, wipeD, Option.map_some, List.getElem?_cons_zero, List.getElem?_cons_succ, List.set_cons_zero, List.set_cons_succ, List.map_cons, List.map_nil, List.cons_append, List.nil_append, List.length_cons, List.length_nil, List.all_cons, List.all_nil, List.replicate_succ, List.replicate_zero, Bool.and_true, Bool.true_and, Bool.and_self, Bool.not_true, Bool.not_false, and_self, and_true, true_and, if_true, if_false, reduceIte, reduceCtorEq, decide_true, decide_false, Bool.false_eq_true, Nat.reduceAdd, Nat.reduceEqDiff, e]
    have ha := all_bools (numIn ((n : Int) - 1)) xs
    rw [natsOf_all] at ha
    have r2 : (xs.length < sizeLine) = True := eq_true (szlt (by omega))
    cases hr : natsOf n xs with
    | none =>
      rw [hr] at ha
      have e2 : rowOf n (.tuple xs) = none := by show (natsOf n xs).bind _ = none; rw [hr]; rfl
      rw [e2]
      simp only [k_dC, k_var_ap, k_varO_ap, k_varV_ap, k_op, k_op1, k_op2, k_fin, k_tst, k_t1, k_t2, k_tF, k_opB, k_B, k_neg, k_neg1, k_andT, k_orT, k_notT, k_and1, k_and0, k_or1, k_or0, k_not1, k_tru, k_tru1, k_andV, k_orV, k_notV, k_andV1, k_andV0, k_orV1, k_orV0, k_notV1, k_if, k_if1, k_if0, k_ifD, k_nil, k_cons, k_cons1, k_cons2, k_nilA, k_consA, k_consA1, k_consA2, k_V, k_V1, k_F, k_F1, k_tup, k_tup1, k_lst, k_lst1, k_cl, k_cl1, k_clL, k_clL1, k_finL, k_isi, k_isi1, k_fn, k_fn1, k_dat, k_fnV, k_fnV1, k_seqI, k_seqI1, k_seqI2, k_rng1, k_rng1', k_rng2, k_rng2a, k_rng2b, k_enum, k_enum1, k_zip, k_zip1, k_zip2, k_P, k_P1, k_noP, k_sl, k_sl1, k_sl2, k_sl3, k_cmp, k_cmp1, k_yes, k_seq, k_seq1, k_seq2, k_seq3, k_seq4, k_next, k_brk, k_cont, k_retN, k_asg, k_asg1, k_asgV, k_asgV1, k_asgV2, k_asgV3, k_asgO, k_asgO1, k_asgG, k_asgG1, k_nx, k_gN, k_gT, k_gC, k_g1, k_g0, k_par, k_par1, k_par2, k_drop, k_drop1, k_ret, k_ret1, k_retV, k_retV1, k_ifS, k_ifS1, k_ifS0, k_ifSD, k_fz_ap, k_app, k_app1, k_for, k_for1, k_aug1, k_fun1, k_fun2, k_idx, k_idx1, k_idx2, k_lenC, k_lenC1, k_popC, k_bset, k_getC, k_getC1, k_getC2, k_at0, k_at1, k_at2, k_bg1, k_bg2, k_bs1, k_bs2, k_bc, k_pop1, k_chn, k_chn1, k_chn2, k_chn3t, k_chn3f, k_chn4, k_tfo, k_chnB, k_chB, k_rev, k_rev1, k_revL, k_revL1, k_rg1, k_rg1', k_tupRg, k_tupRg1, k_lstRg, k_lstRg1, k_srt, k_srt1, k_parLE, k_parLE1, k_parLE2, k_augA, k_augA1, sz0, sz1, sz2, sz3, sz4, sz5, sz6, k_fun, eqI, neI, addI, subI, ltI, leI, gtI, geI, truD, pyLen, pyAbs, pyMin2, pyMax2, pyInt, pyTuple, pyList, pyIx, pyIs, pyIsNot, isNon, nown, wipeD, Option.map_some, List.getElem?_cons_zero, List.getElem?_cons_succ, List.set_cons_zero, List.set_cons_succ, List.map_cons, List.map_nil, List.cons_append, List.nil_append, List.length_cons, List.length_nil, List.all_cons, List.all_nil, List.replicate_succ, List.replicate_zero, Bool.and_true, Bool.true_and, Bool.and_self, Bool.not_true, Bool.not_false, and_self, and_true, true_and, if_true, if_false, reduceIte, reduceCtorEq, decide_true, decide_false, Bool.false_eq_true, Nat.reduceAdd, Nat.reduceEqDiff, ty_none_tuple, ty_none_list, ty_none_bool, ty_none_int, ty_none_str, ty_bool_tuple, ty_bool_list, ty_bool_bool, ty_bool_int, ty_bool_str, ty_int_tuple, ty_int_list, ty_int_bool, ty_int_int, ty_int_str, ty_str_tuple, ty_str_list, ty_str_bool, ty_str_int, ty_str_str, ty_list_tuple, ty_list_list, ty_list_bool, ty_list_int, ty_list_str, ty_tuple_tuple, ty_tuple_list, ty_tuple_bool, ty_tuple_int, ty_tuple_str, d_is_index_row, b_is_index_row, r2, hc, ha, Option.isSome_none]
    | some v =>
      rw [hr] at ha
      obtain ⟨rfl, hv⟩ := natsOf_is hr
      have e2 : (rowOf n (.tuple (nD v))).isSome = ascB v := by
        show ((natsOf n (nD v)).bind _).isSome = _
        rw [hr]
        show (if ascB v = true then some v else none).isSome = _
        cases ascB v <;> rfl
      rw [e2]
      rw [nD_len] at hl
      have e3 := sp_ascending v hl B
      simp only [k_dC, k_var_ap, k_varO_ap, k_varV_ap, k_op, k_op1, k_op2, k_fin, k_tst, k_t1, k_t2, k_tF, k_opB, k_B, k_neg, k_neg1, k_andT, k_orT, k_notT, k_and1, k_and0, k_or1, k_or0, k_not1, k_tru, k_tru1, k_andV, k_orV, k_notV, k_andV1, k_andV0, k_orV1, k_orV0, k_notV1, k_if, k_if1, k_if0, k_ifD, k_nil, k_cons, k_cons1, k_cons2, k_nilA, k_consA, k_consA1, k_consA2, k_V, k_V1, k_F, k_F1, k_tup, k_tup1, k_lst, k_lst1, k_cl, k_cl1, k_clL, k_clL1, k_finL, k_isi, k_isi1, k_fn, k_fn1, k_dat, k_fnV, k_fnV1, k_seqI, k_seqI1, k_seqI2, k_rng1, k_rng1', k_rng2, k_rng2a, k_rng2b, k_enum, k_enum1, k_zip, k_zip1, k_zip2, k_P, k_P1, k_noP, k_sl, k_sl1, k_sl2, k_sl3, k_cmp, k_cmp1, k_yes, k_seq, k_seq1, k_seq2, k_seq3, k_seq4, k_next, k_brk, k_cont, k_retN, k_asg, k_asg1, k_asgV, k_asgV1, k_asgV2, k_asgV3, k_asgO, k_asgO1, k_asgG, k_asgG1, k_nx, k_gN, k_gT, k_gC, k_g1, k_g0, k_par, k_par1, k_par2, k_drop, k_drop1, k_ret, k_ret1, k_retV, k_retV1, k_ifS, k_ifS1, k_ifS0, k_ifSD, k_fz_ap, k_app, k_app1, k_for, k_for1, k_aug1, k_fun1, k_fun2, k_idx, k_idx1, k_idx2, k_lenC, k_lenC1, k_popC, k_bset, k_getC, k_getC1, k_getC2, k_at0, k_at1, k_at2, k_bg1, k_bg2, k_bs1, k_bs2, k_bc, k_pop1, k_chn, k_chn1, k_chn2, k_chn3t, k_chn3f, k_chn4, k_tfo, k_chnB, k_chB, k_rev, k_rev1, k_revL, k_revL1, k_rg1, k_rg1', k_tupRg, k_tupRg1, k_lstRg, k_lstRg1, k_srt, k_srt1, k_parLE, k_parLE1, k_parLE2, k_augA, k_augA1, sz0, sz1, sz2, sz3, sz4, sz5, sz6, k_fun, eqI, neI, addI, subI, ltI, leI, gtI, geI, truD, pyLen, pyAbs, pyMin2, pyMax2, pyInt, pyTuple, pyList, pyIx, pyIs, pyIsNot, isNon, nown, wipeD, Option.map_some, List.getElem?_cons_zero, List.getElem?_cons_succ, List.set_cons_zero, List.set_cons_succ, List.map_cons, List.map_nil, List.cons_append, List.nil_append, List.length_cons, List.length_nil, List.all_cons, List.all_nil, List.replicate_succ, List.replicate_zero, Bool.and_true, Bool.true_and, Bool.and_self, Bool.not_true, Bool.not_false, and_self, and_true, true_and, if_true, if_false, reduceIte, reduceCtorEq, decide_true, decide_false, Bool.false_eq_true, Nat.reduceAdd, Nat.reduceEqDiff, ty_none_tuple, ty_none_list, ty_none_bool, ty_none_int, ty_none_str, ty_bool_tuple, ty_bool_list, ty_bool_bool, ty_bool_int, ty_bool_str, ty_int_tuple, ty_int_list, ty_int_bool, ty_int_int, ty_int_str, ty_str_tuple, ty_str_list, ty_str_bool, ty_str_int, ty_str_str, ty_list_tuple, ty_list_list, ty_list_bool, ty_list_int, ty_list_str, ty_tuple_tuple, ty_tuple_list, ty_tuple_bool, ty_tuple_int, ty_tuple_str, d_is_index_row, b_is_index_row, r2, hc, ha, Option.isSome_some, e3]
  | int i => simp only [k_dC, k_var_ap, k_varO_ap, k_varV_ap, k_op, k_op1, k_op2, k_fin, k_tst, k_t1, k_t2, k_tF, k_opB, k_B, k_neg, k_neg1, k_andT, k_orT, k_notT, k_and1, k_and0, k_or1, k_or0, k_not1, k_tru, k_tru1, k_andV, k_orV, k_notV, k_andV1, k_andV0, k_orV1, k_orV0, k_notV1, k_if, k_if1, k_if0, k_ifD, k_nil, k_cons, k_cons1, k_cons2, k_nilA, k_consA, k_consA1, k_consA2, k_V, k_V1, k_F, k_F1, k_tup, k_tup1, k_lst, k_lst1, k_cl, k_cl1, k_clL, k_clL1, k_finL, k_isi, k_isi1, k_fn, k_fn1, k_dat, k_fnV, k_fnV1, k_seqI, k_seqI1, k_seqI2, k_rng1, k_rng1', k_rng2, k_rng2a, k_rng2b, k_enum, k_enum1, k_zip, k_zip1, k_zip2, k_P, k_P1, k_noP, k_sl, k_sl1, k_sl2, k_sl3, k_cmp, k_cmp1, k_yes, k_seq, k_seq1, k_seq2, k_seq3, k_seq4, k_next, k_brk, k_cont, k_retN, k_asg, k_asg1, k_asgV, k_asgV1, k_asgV2, k_asgV3, k_asgO, k_asgO1, k_asgG, k_asgG1, k_nx, k_gN, k_gT, k_gC, k_g1, k_g0, k_par, k_par1, k_par2, k_drop, k_drop1, k_ret, k_ret1, k_retV, k_retV1, k_ifS, k_ifS1, k_ifS0, k_ifSD, k_fz_ap, k_app, k_app1, k_for, k_for1, k_aug1, k_fun1, k_fun2, k_idx, k_idx1, k_idx2, k_lenC, k_lenC1, k_popC, k_bset, k_getC, k_getC1, k_getC2, k_at0, k_at1, k_at2, k_bg1, k_bg2, k_bs1, k_bs2, k_bc, k_pop1, k_chn, k_chn1, k_chn2, k_chn3t, k_chn3f, k_chn4, k_tfo, k_chnB, k_chB, k_rev, k_rev1, k_revL, k_revL1, k_rg1, k_rg1', k_tupRg, k_tupRg1, k_lstRg, k_lstRg1, k_srt, k_srt1, k_parLE, k_parLE1, k_parLE2, k_augA, k_augA1, sz0, sz1, sz2, sz3, sz4, sz5, sz6, k_fun, eqI, neI, addI, subI, ltI, leI, gtI, geI, truD, pyLen, pyAbs, pyMin2, pyMax2, pyInt, pyTuple, pyList, pyIx, pyIs, pyIsNot, isNon, nown, wipeD, Option.map_some, List.getElem?_cons_zero, List.getElem?_cons_succ, List.set_cons_zero, List.set_cons_succ, List.map_cons, List.map_nil, List.cons_append, List.nil_append, List.length_cons, List.length_nil, List.all_cons, List.all_nil, List.replicate_succ, List.replicate_zero, Bool.and_true, Bool.true_and, Bool.and_self, Bool.not_true, Bool.not_false, and_self, and_true, true_and, if_true, if_false, reduceIte, reduceCtorEq, decide_true, decide_false, Bool.false_eq_true, Nat.reduceAdd, Nat.reduceEqDiff, ty_none_tuple, ty_none_list, ty_none_bool, ty_none_int, ty_none_str, ty_bool_tuple, ty_bool_list, ty_bool_bool, ty_bool_int, ty_bool_str, ty_int_tuple, ty_int_list, ty_int_bool, ty_int_int, ty_int_str, ty_str_tuple, ty_str_list, ty_str_bool, ty_str_int, ty_str_str, ty_list_tuple, ty_list_list, ty_list_bool, ty_list_int, ty_list_str, ty_tuple_tuple, ty_tuple_list, ty_tuple_bool, ty_tuple_int, ty_tuple_str, d_is_index_row, b_is_index_row, rowOf, Option.isSome_none]
  | none => simp only [k_dC, k_var_ap, k_varO_ap, k_varV_ap, k_op, k_op1, k_op2, k_fin, k_tst, k_t1, k_t2, k_tF, k_opB, k_B, k_neg, k_neg1, k_andT, k_orT, k_notT, k_and1, k_and0, k_or1, k_or0, k_not1, k_tru, k_tru1, k_andV, k_orV, k_notV, k_andV1, k_andV0, k_orV1, k_orV0, k_notV1, k_if, k_if1, k_if0, k_ifD, k_nil, k_cons, k_cons1, k_cons2, k_nilA, k_consA, k_consA1, k_consA2, k_V, k_V1, k_F, k_F1, k_tup, k_tup1, k_lst, k_lst1, k_cl, k_cl1, k_clL, k_clL1, k_finL, k_isi, k_isi1, k_fn, k_fn1, k_dat, k_fnV, k_fnV1, k_seqI, k_seqI1, k_seqI2, k_rng1, k_rng1', k_rng2, k_rng2a, k_rng2b, k_enum, k_enum1, k_zip, k_zip1, k_zip2, k_P, k_P1, k_noP, k_sl, k_sl1, k_sl2, k_sl3, k_cmp, k_cmp1, k_yes, k_seq, k_seq1, k_seq2, k_seq3, k_seq4, k_next, k_brk, k_cont, k_retN, k_asg, k_asg1, k_asgV, k_asgV1, k_asgV2, k_asgV3, k_asgO, k_asgO1, k_asgG, k_asgG1, k_nx, k_gN, k_gT, k_gC, k_g1, k_g0, k_par, k_par1, k_par2, k_drop, k_drop1, k_ret, k_ret1, k_retV, k_retV1, k_ifS, k_ifS1, k_ifS0, k_ifSD, k_fz_ap, k_app, k_app1, k_for, k_for1, k_aug1, k_fun1, k_fun2, k_idx, k_idx1, k_idx2, k_lenC, k_lenC1, k_popC, k_bset, k_getC, k_getC1, k_getC2, k_at0, k_at1, k_at2, k_bg1, k_bg2, k_bs1, k_bs2, k_bc, k_pop1, k_chn, k_chn1, k_chn2, k_chn3t, k_chn3f, k_chn4, k_tfo, k_chnB, k_chB, k_rev, k_rev1, k_revL, k_revL1, k_rg1, k_rg1', k_tupRg, k_tupRg1, k_lstRg, k_lstRg1, k_srt, k_srt1, k_parLE, k_parLE1, k_parLE2, k_augA, k_augA1, sz0, sz1, sz2, sz3, sz4, sz5, sz6, k_fun, eqI, neI, addI, subI, ltI, leI, gtI, geI, truD, pyLen, pyAbs, pyMin2, pyMax2, pyInt, pyTuple, pyList, pyIx, pyIs, pyIsNot, isNon, nown, wipeD, Option.map_some, List.getElem?_cons_zero, List.getElem?_cons_succ, List.set_cons_zero, List.set_cons_succ, List.map_cons, List.map_nil, List.cons_append, List.nil_append, List.length_cons, List.length_nil, List.all_cons, List.all_nil, List.replicate_succ, List.replicate_zero, Bool.and_true, Bool.true_and, Bool.and_self, Bool.not_true, Bool.not_false, and_self, and_true, true_and, if_true, if_false, reduceIte, reduceCtorEq, decide_true, decide_false, Bool.false_eq_true, Nat.reduceAdd, Nat.reduceEqDiff, ty_none_tuple, ty_none_list, ty_none_bool, ty_none_int, ty_none_str, ty_bool_tuple, ty_bool_list, ty_bool_bool, ty_bool_int, ty_bool_str, ty_int_tuple, ty_int_list, ty_int_bool, ty_int_int, ty_int_str, ty_str_tuple, ty_str_list, ty_str_bool, ty_str_int, ty_str_str, ty_list_tuple, ty_list_list, ty_list_bool, ty_list_int, ty_list_str, ty_tuple_tuple, ty_tuple_list, ty_tuple_bool, ty_tuple_int, ty_tuple_str, d_is_index_row, b_is_index_row, rowOf, Option.isSome_none]
  | bool b => simp only [k_dC, k_var_ap, k_varO_ap, k_varV_ap, k_op, k_op1, k_op2, k_fin, k_tst, k_t1, k_t2, k_tF, k_opB, k_B, k_neg, k_neg1, k_andT, k_orT, k_notT, k_and1, k_and0, k_or1, k_or0, k_not1, k_tru, k_tru1, k_andV, k_orV, k_notV, k_andV1, k_andV0, k_orV1, k_orV0, k_notV1, k_if, k_if1, k_if0, k_ifD, k_nil, k_cons, k_cons1, k_cons2, k_nilA, k_consA, k_consA1, k_consA2, k_V, k_V1, k_F, k_F1, k_tup, k_tup1, k_lst, k_lst1, k_cl, k_cl1, k_clL, k_clL1, k_finL, k_isi, k_isi1, k_fn, k_fn1, k_dat, k_fnV, k_fnV1, k_seqI, k_seqI1, k_seqI2, k_rng1, k_rng1', k_rng2, k_rng2a, k_rng2b, k_enum, k_enum1, k_zip, k_zip1, k_zip2, k_P, k_P1, k_noP, k_sl, k_sl1, k_sl2, k_sl3, k_cmp, k_cmp1, k_yes, k_seq, k_seq1, k_seq2, k_seq3, k_seq4, k_next, k_brk, k_cont, k_retN, k_asg, k_asg1, k_asgV, k_asgV1, k_asgV2, k_asgV3, k_asgO, k_asgO1, k_asgG, k_asgG1, k_nx, k_gN, k_gT, k_gC, k_g1, k_g0, k_par, k_par1, k_par2, k_drop, k_drop1, k_ret, k_ret1, k_retV, k_retV1, k_ifS, k_ifS1, k_ifS0, k_ifSD, k_fz_ap, k_app, k_app1, k_for, k_for1, k_aug1, k_fun1, k_fun2, k_idx, k_idx1, k_idx2, k_lenC, k_lenC1, k_popC, k_bset, k_getC, k_getC1, k_getC2, k_at0, k_at1, k_at2, k_bg1, k_bg2, k_bs1, k_bs2, k_bc, k_pop1, k_chn, k_chn1, k_chn2, k_chn3t, k_chn3f, k_chn4, k_tfo, k_chnB, k_chB, k_rev, k_rev1, k_revL, k_revL1, k_rg1, k_rg1', k_tupRg, k_tupRg1, k_lstRg, k_lstRg1, k_srt, k_srt1, k_parLE, k_parLE1, k_parLE2, k_augA, k_augA1, sz0, sz1, sz2, sz3, sz4, sz5, sz6, k_fun, eqI, neI, addI, subI, ltI, leI, gtI, geI, truD, pyLen, pyAbs, pyMin2, pyMax2, pyInt, pyTuple, pyList, pyIx, pyIs, pyIsNot, isNon, nown, wipeD, Option.map_some, List.getElem?_cons_zero, List.getElem?_cons_succ, List.set_cons_zero, List.set_cons_succ, List.map_cons, List.map_nil, List.cons_append, List.nil_append, List.length_cons, List.length_nil, List.all_cons, List.all_nil, List.replicate_succ, List.replicate_zero, Bool.and_true, Bool.true_and, Bool.and_self, Bool.not_true, Bool.not_false, and_self, and_true, true_and, if_true, if_false, reduceIte, reduceCtorEq, decide_true, decide_false, Bool.false_eq_true, Nat.reduceAdd, Nat.reduceEqDiff, ty_none_tuple, ty_none_list, ty_none_bool, ty_none_int, ty_none_str, ty_bool_tuple, ty_bool_list, ty_bool_bool, ty_bool_int, ty_bool_str, ty_int_tuple, ty_int_list, ty_int_bool, ty_int_int, ty_int_str, ty_str_tuple, ty_str_list, ty_str_bool, ty_str_int, ty_str_str, ty_list_tuple, ty_list_list, ty_list_bool, ty_list_int, ty_list_str, ty_tuple_tuple, ty_tuple_list, ty_tuple_bool, ty_tuple_int, ty_tuple_str, d_is_index_row, b_is_index_row, rowOf, Option.isSome_none]
  | str s => simp only [k_dC, k_var_ap, k_varO_ap, k_varV_ap, k_op, k_op1, k_op2, k_fin, k_tst, k_t1, k_t2, k_tF, k_opB, k_B, k_neg, k_neg1, k_andT, k_orT, k_notT, k_and1, k_and0, k_or1, k_or0, k_not1, k_tru, k_tru1, k_andV, k_orV, k_notV, k_andV1, k_andV0, k_orV1, k_orV0, k_notV1, k_if, k_if1, k_if0, k_ifD, k_nil, k_cons, k_cons1, k_cons2, k_nilA, k_consA, k_consA1, k_consA2, k_V, k_V1, k_F, k_F1, k_tup, k_tup1, k_lst, k_lst1, k_cl, k_cl1, k_clL, k_clL1, k_finL, k_isi, k_isi1, k_fn, k_fn1, k_dat, k_fnV, k_fnV1, k_seqI, k_seqI1, k_seqI2, k_rng1, k_rng1', k_rng2, k_rng2a, k_rng2b, k_enum, k_enum1, k_zip, k_zip1, k_zip2, k_P, k_P1, k_noP, k_sl, k_sl1, k_sl2, k_sl3, k_cmp, k_cmp1, k_yes, k_seq, k_seq1, k_seq2, k_seq3, k_seq4, k_next, k_brk, k_cont, k_retN, k_asg, k_asg1, k_asgV, k_asgV1, k_asgV2, k_asgV3, k_asgO, k_asgO1, k_asgG, k_asgG1, k_nx, k_gN, k_gT, k_gC, k_g1, k_g0, k_par, k_par1, k_par2, k_drop, k_drop1, k_ret, k_ret1, k_retV, k_retV1, k_ifS, k_ifS1, k_ifS0, k_ifSD, k_fz_ap, k_app, k_app1, k_for, k_for1, k_aug1, k_fun1, k_fun2, k_idx, k_idx1, k_idx2, k_lenC, k_lenC1, k_popC, k_bset, k_getC, k_getC1, k_getC2, k_at0, k_at1, k_at2, k_bg1, k_bg2, k_bs1, k_bs2, k_bc, k_pop1, k_chn, k_chn1, k_chn2, k_chn3t, k_chn3f, k_chn4, k_tfo, k_chnB, k_chB, k_rev, k_rev1, k_revL, k_revL1, k_rg1, k_rg1', k_tupRg, k_tupRg1, k_lstRg, k_lstRg1, k_srt, k_srt1, k_parLE, k_parLE1, k_parLE2, k_augA, k_augA1, sz0, sz1, sz2, sz3, sz4, sz5, sz6, k_fun, eqI, neI, addI, subI, ltI, leI, gtI, geI, truD, pyLen, pyAbs, pyMin2, pyMax2, pyInt, pyTuple, pyList, pyIx, pyIs, pyIsNot, isNon, nown, wipeD, Option.map_some, List.getElem?_cons_zero, List.getElem?_cons_succ, List.set_cons_zero, List.set_cons_succ, List.map_cons, List.map_nil, List.cons_append, List.nil_append, List.length_cons, List.length_nil, List.all_cons, List.all_nil, List.replicate_succ, List.replicate_zero, Bool.and_true, Bool.true_and, Bool.and_self, Bool.not_true, Bool.not_false, and_self, and_true, true_and, if_true, if_false, reduceIte, reduceCtorEq, decide_true, decide_false, Bool.false_eq_true, Nat.reduceAdd, Nat.reduceEqDiff, ty_none_tuple, ty_none_list, ty_none_bool, ty_none_int, ty_none_str, ty_bool_tuple, ty_bool_list, ty_bool_bool, ty_bool_int, ty_bool_str, ty_int_tuple, ty_int_list, ty_int_bool, ty_int_int, ty_int_str, ty_str_tuple, ty_str_list, ty_str_bool, ty_str_int, ty_str_str, ty_list_tuple, ty_list_list, ty_list_bool, ty_list_int, ty_list_str, ty_tuple_tuple, ty_tuple_list, ty_tuple_bool, ty_tuple_int, ty_tuple_str, d_is_index_row, b_is_index_row, rowOf, Option.isSome_none]
  | list xs => cases hj
  | dict xs => cases hj
theorem nD_ints (v : List Nat) : nD v = (v.map fun (x : Nat) => (x : Int)).map PyData.int := by
  unfold nD
  rw [List.map_map]
  rfl
theorem eqv_ints : ∀ (a b : List Int), PyData.eqvAll (a.map PyData.int) (b.map PyData.int) = decide (a = b)
  | [], [] => rfl
  | [], y :: ys => rfl
  | x :: xs, [] => rfl
  | x :: xs, y :: ys => by
    simp only [List.map_cons]
    unfold PyData.eqvAll
    rw [eqv_ints xs ys, eqv_ii]
    by_cases h : x = y
    · subst h; simp
    · simp [h]
theorem lay_ints (a : List Int) : ∀ x ∈ a.map PyData.int, x.canLay0 = true ∧ x.depth ≤ 60 := fun x hx => by
  obtain ⟨n, _, rfl⟩ := List.mem_map.mp hx
  exact ⟨rfl, Nat.zero_le _⟩
theorem eqLI (a b : List Int) : pyEq (.list (a.map PyData.int)) (.list (b.map PyData.int)) = some (decide (a = b)) := by
  unfold pyEq
  rw [if_pos ⟨sh_list (lay_ints a), sh_list (lay_ints b)⟩]
  unfold PyData.eqv
  rw [eqv_ints]
theorem asc_sd (v : List Nat) : decide ((v.map fun (x : Nat) => (x : Int)) = sdI (v.map fun (x : Nat) => (x : Int))) = ascB v := by
  unfold ascB
  rw [decide_eq_decide]
  have hp : (v.map fun (x : Nat) => (x : Int)).Pairwise (· < ·) ↔ v.Pairwise (· < ·) := by
    rw [List.pairwise_map]
    exact ⟨fun h => h.imp fun {a b} z => by omega, fun h => h.imp fun {a b} z => by omega⟩
  rw [← hp]
  refine ⟨fun h => ?_, fun h => ?_⟩
  · rw [h]; exact sdI_asc _
  · exact asc_ext h (sdI_asc _) fun k => (sdI_mem _ k).symm
theorem sp_law_is_row (n : Nat) (d : PyData) (hj : jk d = true) (hn : n < 1000) (B : Bx) : d_law_is_row [.dat (.int n), .dat d] B = some (.dat (.bool (rowOf n d).isSome), B) := by
  cases d with
  | tuple xs =>
    obtain ⟨hl, hx⟩ := jk_tuple hj
    have hc : cmpGo (gN 2) dYes (dFn (d_law_whole) (dConsA (dVarV 2) (dConsA (dV (dC (.int 0))) (dConsA (dV (dOp pySub (dVarO 0) (dC (.int 1)))) dNilA)))) [some (.dat (.int n)), some (.dat (.tuple xs)), none] xs B = some (xs.map fun x => .bool (numIn ((n : Int) - 1) x), B) := by
      refine cmpGo_map _ _ fun x hx2 => ⟨_, k_gN, ?_⟩
      have e := sp_whole x ((n : Int) - 1) (hx x hx2) B
      simp only [k_dC, k_var_ap, k_varO_ap, k_varV_ap, k_op, k_op1, k_op2, k_fin, k_tst, k_t1, k_t2, k_tF, k_opB, k_B, k_neg, k_neg1, k_andT, k_orT, k_notT, k_and1, k_and0, k_or1, k_or0, k_not1, k_tru, k_tru1, k_andV, k_orV, k_notV, k_andV1, k_andV0, k_orV1, k_orV0, k_notV1, k_if, k_if1, k_if0, k_ifD, k_nil, k_cons, k_cons1, k_cons2, k_nilA, k_consA, k_consA1, k_consA2, k_V, k_V1, k_F, k_F1, k_tup, k_tup1, k_lst, k_lst1, k_cl, k_cl1, k_clL, k_clL1, k_finL, k_isi, k_isi1, k_fn, k_fn1, k_dat, k_fnV, k_fnV1, k_seqI, k_seqI1, k_seqI2, k_rng1, k_rng1', k_rng2, k_rng2a, k_rng2b, k_enum, k_enum1, k_zip, k_zip1, k_zip2, k_P, k_P1, k_noP, k_sl, k_sl1, k_sl2, k_sl3, k_cmp, k_cmp1, k_yes, k_seq, k_seq1, k_seq2, k_seq3, k_seq4, k_next, k_brk, k_cont, k_retN, k_asg, k_asg1, k_asgV, k_asgV1, k_asgV2, k_asgV3, k_asgO, k_asgO1, k_asgG, k_asgG1, k_nx, k_gN, k_gT, k_gC, k_g1, k_g0, k_par, k_par1, k_par2, k_drop, k_drop1, k_ret, k_ret1, k_retV, k_retV1, k_ifS, k_ifS1, k_ifS0, k_ifSD, k_fz_ap, k_app, k_app1, k_for, k_for1, k_aug1, k_fun1, k_fun2, k_idx, k_idx1, k_idx2, k_lenC, k_lenC1, k_popC, k_bset, k_getC, k_getC1, k_getC2, k_at0, k_at1, k_at2, k_bg1, k_bg2, k_bs1, k_bs2, k_bc, k_pop1, k_chn, k_chn1, k_chn2, k_chn3t, k_chn3f, k_chn4, k_tfo, k_chnB, k_chB, k_rev, k_rev1, k_revL, k_revL1, k_rg1, k_rg1', k_tupRg, k_tupRg1, k_lstRg, k_lstRg1, k_srt, k_srt1, k_parLE, k_parLE1, k_parLE2, k_augA, k_augA1, sz0, sz1, sz2, sz3, sz4, sz5, sz6, k_fun, eqI, neI, addI, subI, ltI, leI, gtI, geI, truD, isTy, tyName, pyLen, pyAbs, pyMin2, pyMax2, pyInt, pyTuple, pyList, pyIx, pyIs, pyIsNot, isNon, nown, wipeD, Option.map_some, List.getElem?_cons_zero, List.getElem?_cons_succ, List.set_cons_zero, List.set_cons_succ, List.map_cons, List.map_nil, List.cons_append, List.nil_append, List.length_cons, List.length_nil, List.all_cons, List.all_nil, List.replicate_succ, List.replicate_zero, Bool.and_true, Bool.true_and, Bool.and_self, Bool.not_true, Bool.not_false, and_self, and_true, true_and, if_true, if_false, reduceIte, reduceCtorEq, decide_true, decide_false, Bool.false_eq_true, Nat.reduceAdd, Nat.reduceEqDiff, e]
    have ha := all_bools (numIn ((n : Int) - 1)) xs
    rw [natsOf_all] at ha
    have r2 : (xs.length < sizeLine) = True := eq_true (szlt (by omega))
    cases hr : natsOf n xs with
    | none =>
      rw [hr] at ha
      have e2 : rowOf n (.tuple xs) = none := by show (natsOf n xs).bind _ = none; rw [hr]; rfl
      rw [e2]
      simp only [k_dC, k_var_ap, k_varO_ap, k_varV_ap, k_op, k_op1, k_op2, k_fin, k_tst, k_t1, k_t2, k_tF, k_opB, k_B, k_neg, k_neg1, k_andT, k_orT, k_notT, k_and1, k_and0, k_or1, k_or0, k_not1, k_tru, k_tru1, k_andV, k_orV, k_notV, k_andV1, k_andV0, k_orV1, k_orV0, k_notV1, k_if, k_if1, k_if0, k_ifD, k_nil, k_cons, k_cons1, k_cons2, k_nilA, k_consA, k_consA1, k_consA2, k_V, k_V1, k_F, k_F1, k_tup, k_tup1, k_lst, k_lst1, k_cl, k_cl1, k_clL, k_clL1, k_finL, k_isi, k_isi1, k_fn, k_fn1, k_dat, k_fnV, k_fnV1, k_seqI, k_seqI1, k_seqI2, k_rng1, k_rng1', k_rng2, k_rng2a, k_rng2b, k_enum, k_enum1, k_zip, k_zip1, k_zip2, k_P, k_P1, k_noP, k_sl, k_sl1, k_sl2, k_sl3, k_cmp, k_cmp1, k_yes, k_seq, k_seq1, k_seq2, k_seq3, k_seq4, k_next, k_brk, k_cont, k_retN, k_asg, k_asg1, k_asgV, k_asgV1, k_asgV2, k_asgV3, k_asgO, k_asgO1, k_asgG, k_asgG1, k_nx, k_gN, k_gT, k_gC, k_g1, k_g0, k_par, k_par1, k_par2, k_drop, k_drop1, k_ret, k_ret1, k_retV, k_retV1, k_ifS, k_ifS1, k_ifS0, k_ifSD, k_fz_ap, k_app, k_app1, k_for, k_for1, k_aug1, k_fun1, k_fun2, k_idx, k_idx1, k_idx2, k_lenC, k_lenC1, k_popC, k_bset, k_getC, k_getC1, k_getC2, k_at0, k_at1, k_at2, k_bg1, k_bg2, k_bs1, k_bs2, k_bc, k_pop1, k_chn, k_chn1, k_chn2, k_chn3t, k_chn3f, k_chn4, k_tfo, k_chnB, k_chB, k_rev, k_rev1, k_revL, k_revL1, k_rg1, k_rg1', k_tupRg, k_tupRg1, k_lstRg, k_lstRg1, k_srt, k_srt1, k_parLE, k_parLE1, k_parLE2, k_augA, k_augA1, sz0, sz1, sz2, sz3, sz4, sz5, sz6, k_fun, eqI, neI, addI, subI, ltI, leI, gtI, geI, truD, pyLen, pyAbs, pyMin2, pyMax2, pyInt, pyTuple, pyList, pyIx, pyIs, pyIsNot, isNon, nown, wipeD, Option.map_some, List.getElem?_cons_zero, List.getElem?_cons_succ, List.set_cons_zero, List.set_cons_succ, List.map_cons, List.map_nil, List.cons_append, List.nil_append, List.length_cons, List.length_nil, List.all_cons, List.all_nil, List.replicate_succ, List.replicate_zero, Bool.and_true, Bool.true_and, Bool.and_self, Bool.not_true, Bool.not_false, and_self, and_true, true_and, if_true, if_false, reduceIte, reduceCtorEq, decide_true, decide_false, Bool.false_eq_true, Nat.reduceAdd, Nat.reduceEqDiff, ty_none_tuple, ty_none_list, ty_none_bool, ty_none_int, ty_none_str, ty_bool_tuple, ty_bool_list, ty_bool_bool, ty_bool_int, ty_bool_str, ty_int_tuple, ty_int_list, ty_int_bool, ty_int_int, ty_int_str, ty_str_tuple, ty_str_list, ty_str_bool, ty_str_int, ty_str_str, ty_list_tuple, ty_list_list, ty_list_bool, ty_list_int, ty_list_str, ty_tuple_tuple, ty_tuple_list, ty_tuple_bool, ty_tuple_int, ty_tuple_str, d_law_is_row, b_law_is_row, r2, hc, ha, Option.isSome_none]
    | some v =>
      rw [hr] at ha
      obtain ⟨rfl, hv⟩ := natsOf_is hr
      have e2 : (rowOf n (.tuple (nD v))).isSome = ascB v := by
        show ((natsOf n (nD v)).bind _).isSome = _
        rw [hr]
        show (if ascB v = true then some v else none).isSome = _
        cases ascB v <;> rfl
      rw [e2]
      rw [nD_len] at hl
      rw [nD_ints] at hc ha r2 ⊢
      have e3 := eqLI (v.map fun (x : Nat) => (x : Int)) (sdI (v.map fun (x : Nat) => (x : Int)))
      rw [asc_sd] at e3
      have e4 : ((v.map fun (x : Nat) => (x : Int)).length < 64) = True := eq_true (by rw [List.length_map]; omega)
      generalize (v.map fun (x : Nat) => (x : Int)) = vi at *
      simp only [k_dC, k_var_ap, k_varO_ap, k_varV_ap, k_op, k_op1, k_op2, k_fin, k_tst, k_t1, k_t2, k_tF, k_opB, k_B, k_neg, k_neg1, k_andT, k_orT, k_notT, k_and1, k_and0, k_or1, k_or0, k_not1, k_tru, k_tru1, k_andV, k_orV, k_notV, k_andV1, k_andV0, k_orV1, k_orV0, k_notV1, k_if, k_if1, k_if0, k_ifD, k_nil, k_cons, k_cons1, k_cons2, k_nilA, k_consA, k_consA1, k_consA2, k_V, k_V1, k_F, k_F1, k_tup, k_tup1, k_lst, k_lst1, k_cl, k_cl1, k_clL, k_clL1, k_finL, k_isi, k_isi1, k_fn, k_fn1, k_dat, k_fnV, k_fnV1, k_seqI, k_seqI1, k_seqI2, k_rng1, k_rng1', k_rng2, k_rng2a, k_rng2b, k_enum, k_enum1, k_zip, k_zip1, k_zip2, k_P, k_P1, k_noP, k_sl, k_sl1, k_sl2, k_sl3, k_cmp, k_cmp1, k_yes, k_seq, k_seq1, k_seq2, k_seq3, k_seq4, k_next, k_brk, k_cont, k_retN, k_asg, k_asg1, k_asgV, k_asgV1, k_asgV2, k_asgV3, k_asgO, k_asgO1, k_asgG, k_asgG1, k_nx, k_gN, k_gT, k_gC, k_g1, k_g0, k_par, k_par1, k_par2, k_drop, k_drop1, k_ret, k_ret1, k_retV, k_retV1, k_ifS, k_ifS1, k_ifS0, k_ifSD, k_fz_ap, k_app, k_app1, k_for, k_for1, k_aug1, k_fun1, k_fun2, k_idx, k_idx1, k_idx2, k_lenC, k_lenC1, k_popC, k_bset, k_getC, k_getC1, k_getC2, k_at0, k_at1, k_at2, k_bg1, k_bg2, k_bs1, k_bs2, k_bc, k_pop1, k_chn, k_chn1, k_chn2, k_chn3t, k_chn3f, k_chn4, k_tfo, k_chnB, k_chB, k_rev, k_rev1, k_revL, k_revL1, k_rg1, k_rg1', k_tupRg, k_tupRg1, k_lstRg, k_lstRg1, k_srt, k_srt1, k_parLE, k_parLE1, k_parLE2, k_augA, k_augA1, sz0, sz1, sz2, sz3, sz4, sz5, sz6, k_fun, eqI, neI, addI, subI, ltI, leI, gtI, geI, truD, pyLen, pyAbs, pyMin2, pyMax2, pyInt, pyTuple, pyList, pyIx, pyIs, pyIsNot, isNon, nown, wipeD, Option.map_some, List.getElem?_cons_zero, List.getElem?_cons_succ, List.set_cons_zero, List.set_cons_succ, List.map_cons, List.map_nil, List.cons_append, List.nil_append, List.length_cons, List.length_nil, List.all_cons, List.all_nil, List.replicate_succ, List.replicate_zero, Bool.and_true, Bool.true_and, Bool.and_self, Bool.not_true, Bool.not_false, and_self, and_true, true_and, if_true, if_false, reduceIte, reduceCtorEq, decide_true, decide_false, Bool.false_eq_true, Nat.reduceAdd, Nat.reduceEqDiff, ty_none_tuple, ty_none_list, ty_none_bool, ty_none_int, ty_none_str, ty_bool_tuple, ty_bool_list, ty_bool_bool, ty_bool_int, ty_bool_str, ty_int_tuple, ty_int_list, ty_int_bool, ty_int_int, ty_int_str, ty_str_tuple, ty_str_list, ty_str_bool, ty_str_int, ty_str_str, ty_list_tuple, ty_list_list, ty_list_bool, ty_list_int, ty_list_str, ty_tuple_tuple, ty_tuple_list, ty_tuple_bool, ty_tuple_int, ty_tuple_str, d_law_is_row, b_law_is_row, r2, hc, ha, Option.isSome_some, e4, e3]
  | int i => simp only [k_dC, k_var_ap, k_varO_ap, k_varV_ap, k_op, k_op1, k_op2, k_fin, k_tst, k_t1, k_t2, k_tF, k_opB, k_B, k_neg, k_neg1, k_andT, k_orT, k_notT, k_and1, k_and0, k_or1, k_or0, k_not1, k_tru, k_tru1, k_andV, k_orV, k_notV, k_andV1, k_andV0, k_orV1, k_orV0, k_notV1, k_if, k_if1, k_if0, k_ifD, k_nil, k_cons, k_cons1, k_cons2, k_nilA, k_consA, k_consA1, k_consA2, k_V, k_V1, k_F, k_F1, k_tup, k_tup1, k_lst, k_lst1, k_cl, k_cl1, k_clL, k_clL1, k_finL, k_isi, k_isi1, k_fn, k_fn1, k_dat, k_fnV, k_fnV1, k_seqI, k_seqI1, k_seqI2, k_rng1, k_rng1', k_rng2, k_rng2a, k_rng2b, k_enum, k_enum1, k_zip, k_zip1, k_zip2, k_P, k_P1, k_noP, k_sl, k_sl1, k_sl2, k_sl3, k_cmp, k_cmp1, k_yes, k_seq, k_seq1, k_seq2, k_seq3, k_seq4, k_next, k_brk, k_cont, k_retN, k_asg, k_asg1, k_asgV, k_asgV1, k_asgV2, k_asgV3, k_asgO, k_asgO1, k_asgG, k_asgG1, k_nx, k_gN, k_gT, k_gC, k_g1, k_g0, k_par, k_par1, k_par2, k_drop, k_drop1, k_ret, k_ret1, k_retV, k_retV1, k_ifS, k_ifS1, k_ifS0, k_ifSD, k_fz_ap, k_app, k_app1, k_for, k_for1, k_aug1, k_fun1, k_fun2, k_idx, k_idx1, k_idx2, k_lenC, k_lenC1, k_popC, k_bset, k_getC, k_getC1, k_getC2, k_at0, k_at1, k_at2, k_bg1, k_bg2, k_bs1, k_bs2, k_bc, k_pop1, k_chn, k_chn1, k_chn2, k_chn3t, k_chn3f, k_chn4, k_tfo, k_chnB, k_chB, k_rev, k_rev1, k_revL, k_revL1, k_rg1, k_rg1', k_tupRg, k_tupRg1, k_lstRg, k_lstRg1, k_srt, k_srt1, k_parLE, k_parLE1, k_parLE2, k_augA, k_augA1, sz0, sz1, sz2, sz3, sz4, sz5, sz6, k_fun, eqI, neI, addI, subI, ltI, leI, gtI, geI, truD, pyLen, pyAbs, pyMin2, pyMax2, pyInt, pyTuple, pyList, pyIx, pyIs, pyIsNot, isNon, nown, wipeD, Option.map_some, List.getElem?_cons_zero, List.getElem?_cons_succ, List.set_cons_zero, List.set_cons_succ, List.map_cons, List.map_nil, List.cons_append, List.nil_append, List.length_cons, List.length_nil, List.all_cons, List.all_nil, List.replicate_succ, List.replicate_zero, Bool.and_true, Bool.true_and, Bool.and_self, Bool.not_true, Bool.not_false, and_self, and_true, true_and, if_true, if_false, reduceIte, reduceCtorEq, decide_true, decide_false, Bool.false_eq_true, Nat.reduceAdd, Nat.reduceEqDiff, ty_none_tuple, ty_none_list, ty_none_bool, ty_none_int, ty_none_str, ty_bool_tuple, ty_bool_list, ty_bool_bool, ty_bool_int, ty_bool_str, ty_int_tuple, ty_int_list, ty_int_bool, ty_int_int, ty_int_str, ty_str_tuple, ty_str_list, ty_str_bool, ty_str_int, ty_str_str, ty_list_tuple, ty_list_list, ty_list_bool, ty_list_int, ty_list_str, ty_tuple_tuple, ty_tuple_list, ty_tuple_bool, ty_tuple_int, ty_tuple_str, d_law_is_row, b_law_is_row, rowOf, Option.isSome_none]
  | none => simp only [k_dC, k_var_ap, k_varO_ap, k_varV_ap, k_op, k_op1, k_op2, k_fin, k_tst, k_t1, k_t2, k_tF, k_opB, k_B, k_neg, k_neg1, k_andT, k_orT, k_notT, k_and1, k_and0, k_or1, k_or0, k_not1, k_tru, k_tru1, k_andV, k_orV, k_notV, k_andV1, k_andV0, k_orV1, k_orV0, k_notV1, k_if, k_if1, k_if0, k_ifD, k_nil, k_cons, k_cons1, k_cons2, k_nilA, k_consA, k_consA1, k_consA2, k_V, k_V1, k_F, k_F1, k_tup, k_tup1, k_lst, k_lst1, k_cl, k_cl1, k_clL, k_clL1, k_finL, k_isi, k_isi1, k_fn, k_fn1, k_dat, k_fnV, k_fnV1, k_seqI, k_seqI1, k_seqI2, k_rng1, k_rng1', k_rng2, k_rng2a, k_rng2b, k_enum, k_enum1, k_zip, k_zip1, k_zip2, k_P, k_P1, k_noP, k_sl, k_sl1, k_sl2, k_sl3, k_cmp, k_cmp1, k_yes, k_seq, k_seq1, k_seq2, k_seq3, k_seq4, k_next, k_brk, k_cont, k_retN, k_asg, k_asg1, k_asgV, k_asgV1, k_asgV2, k_asgV3, k_asgO, k_asgO1, k_asgG, k_asgG1, k_nx, k_gN, k_gT, k_gC, k_g1, k_g0, k_par, k_par1, k_par2, k_drop, k_drop1, k_ret, k_ret1, k_retV, k_retV1, k_ifS, k_ifS1, k_ifS0, k_ifSD, k_fz_ap, k_app, k_app1, k_for, k_for1, k_aug1, k_fun1, k_fun2, k_idx, k_idx1, k_idx2, k_lenC, k_lenC1, k_popC, k_bset, k_getC, k_getC1, k_getC2, k_at0, k_at1, k_at2, k_bg1, k_bg2, k_bs1, k_bs2, k_bc, k_pop1, k_chn, k_chn1, k_chn2, k_chn3t, k_chn3f, k_chn4, k_tfo, k_chnB, k_chB, k_rev, k_rev1, k_revL, k_revL1, k_rg1, k_rg1', k_tupRg, k_tupRg1, k_lstRg, k_lstRg1, k_srt, k_srt1, k_parLE, k_parLE1, k_parLE2, k_augA, k_augA1, sz0, sz1, sz2, sz3, sz4, sz5, sz6, k_fun, eqI, neI, addI, subI, ltI, leI, gtI, geI, truD, pyLen, pyAbs, pyMin2, pyMax2, pyInt, pyTuple, pyList, pyIx, pyIs, pyIsNot, isNon, nown, wipeD, Option.map_some, List.getElem?_cons_zero, List.getElem?_cons_succ, List.set_cons_zero, List.set_cons_succ, List.map_cons, List.map_nil, List.cons_append, List.nil_append, List.length_cons, List.length_nil, List.all_cons, List.all_nil, List.replicate_succ, List.replicate_zero, Bool.and_true, Bool.true_and, Bool.and_self, Bool.not_true, Bool.not_false, and_self, and_true, true_and, if_true, if_false, reduceIte, reduceCtorEq, decide_true, decide_false, Bool.false_eq_true, Nat.reduceAdd, Nat.reduceEqDiff, ty_none_tuple, ty_none_list, ty_none_bool, ty_none_int, ty_none_str, ty_bool_tuple, ty_bool_list, ty_bool_bool, ty_bool_int, ty_bool_str, ty_int_tuple, ty_int_list, ty_int_bool, ty_int_int, ty_int_str, ty_str_tuple, ty_str_list, ty_str_bool, ty_str_int, ty_str_str, ty_list_tuple, ty_list_list, ty_list_bool, ty_list_int, ty_list_str, ty_tuple_tuple, ty_tuple_list, ty_tuple_bool, ty_tuple_int, ty_tuple_str, d_law_is_row, b_law_is_row, rowOf, Option.isSome_none]
  | bool b => simp only [k_dC, k_var_ap, k_varO_ap, k_varV_ap, k_op, k_op1, k_op2, k_fin, k_tst, k_t1, k_t2, k_tF, k_opB, k_B, k_neg, k_neg1, k_andT, k_orT, k_notT, k_and1, k_and0, k_or1, k_or0, k_not1, k_tru, k_tru1, k_andV, k_orV, k_notV, k_andV1, k_andV0, k_orV1, k_orV0, k_notV1, k_if, k_if1, k_if0, k_ifD, k_nil, k_cons, k_cons1, k_cons2, k_nilA, k_consA, k_consA1, k_consA2, k_V, k_V1, k_F, k_F1, k_tup, k_tup1, k_lst, k_lst1, k_cl, k_cl1, k_clL, k_clL1, k_finL, k_isi, k_isi1, k_fn, k_fn1, k_dat, k_fnV, k_fnV1, k_seqI, k_seqI1, k_seqI2, k_rng1, k_rng1', k_rng2, k_rng2a, k_rng2b, k_enum, k_enum1, k_zip, k_zip1, k_zip2, k_P, k_P1, k_noP, k_sl, k_sl1, k_sl2, k_sl3, k_cmp, k_cmp1, k_yes, k_seq, k_seq1, k_seq2, k_seq3, k_seq4, k_next, k_brk, k_cont, k_retN, k_asg, k_asg1, k_asgV, k_asgV1, k_asgV2, k_asgV3, k_asgO, k_asgO1, k_asgG, k_asgG1, k_nx, k_gN, k_gT, k_gC, k_g1, k_g0, k_par, k_par1, k_par2, k_drop, k_drop1, k_ret, k_ret1, k_retV, k_retV1, k_ifS, k_ifS1, k_ifS0, k_ifSD, k_fz_ap, k_app, k_app1, k_for, k_for1, k_aug1, k_fun1, k_fun2, k_idx, k_idx1, k_idx2, k_lenC, k_lenC1, k_popC, k_bset, k_getC, k_getC1, k_getC2, k_at0, k_at1, k_at2, k_bg1, k_bg2, k_bs1, k_bs2, k_bc, k_pop1, k_chn, k_chn1, k_chn2, k_chn3t, k_chn3f, k_chn4, k_tfo, k_chnB, k_chB, k_rev, k_rev1, k_revL, k_revL1, k_rg1, k_rg1', k_tupRg, k_tupRg1, k_lstRg, k_lstRg1, k_srt, k_srt1, k_parLE, k_parLE1, k_parLE2, k_augA, k_augA1, sz0, sz1, sz2, sz3, sz4, sz5, sz6, k_fun, eqI, neI, addI, subI, ltI, leI, gtI, geI, truD, pyLen, pyAbs, pyMin2, pyMax2, pyInt, pyTuple, pyList, pyIx, pyIs, pyIsNot, isNon, nown, wipeD, Option.map_some, List.getElem?_cons_zero, List.getElem?_cons_succ, List.set_cons_zero, List.set_cons_succ, List.map_cons, List.map_nil, List.cons_append, List.nil_append, List.length_cons, List.length_nil, List.all_cons, List.all_nil, List.replicate_succ, List.replicate_zero, Bool.and_true, Bool.true_and, Bool.and_self, Bool.not_true, Bool.not_false, and_self, and_true, true_and, if_true, if_false, reduceIte, reduceCtorEq, decide_true, decide_false, Bool.false_eq_true, Nat.reduceAdd, Nat.reduceEqDiff, ty_none_tuple, ty_none_list, ty_none_bool, ty_none_int, ty_none_str, ty_bool_tuple, ty_bool_list, ty_bool_bool, ty_bool_int, ty_bool_str, ty_int_tuple, ty_int_list, ty_int_bool, ty_int_int, ty_int_str, ty_str_tuple, ty_str_list, ty_str_bool, ty_str_int, ty_str_str, ty_list_tuple, ty_list_list, ty_list_bool, ty_list_int, ty_list_str, ty_tuple_tuple, ty_tuple_list, ty_tuple_bool, ty_tuple_int, ty_tuple_str, d_law_is_row, b_law_is_row, rowOf, Option.isSome_none]
  | str s => simp only [k_dC, k_var_ap, k_varO_ap, k_varV_ap, k_op, k_op1, k_op2, k_fin, k_tst, k_t1, k_t2, k_tF, k_opB, k_B, k_neg, k_neg1, k_andT, k_orT, k_notT, k_and1, k_and0, k_or1, k_or0, k_not1, k_tru, k_tru1, k_andV, k_orV, k_notV, k_andV1, k_andV0, k_orV1, k_orV0, k_notV1, k_if, k_if1, k_if0, k_ifD, k_nil, k_cons, k_cons1, k_cons2, k_nilA, k_consA, k_consA1, k_consA2, k_V, k_V1, k_F, k_F1, k_tup, k_tup1, k_lst, k_lst1, k_cl, k_cl1, k_clL, k_clL1, k_finL, k_isi, k_isi1, k_fn, k_fn1, k_dat, k_fnV, k_fnV1, k_seqI, k_seqI1, k_seqI2, k_rng1, k_rng1', k_rng2, k_rng2a, k_rng2b, k_enum, k_enum1, k_zip, k_zip1, k_zip2, k_P, k_P1, k_noP, k_sl, k_sl1, k_sl2, k_sl3, k_cmp, k_cmp1, k_yes, k_seq, k_seq1, k_seq2, k_seq3, k_seq4, k_next, k_brk, k_cont, k_retN, k_asg, k_asg1, k_asgV, k_asgV1, k_asgV2, k_asgV3, k_asgO, k_asgO1, k_asgG, k_asgG1, k_nx, k_gN, k_gT, k_gC, k_g1, k_g0, k_par, k_par1, k_par2, k_drop, k_drop1, k_ret, k_ret1, k_retV, k_retV1, k_ifS, k_ifS1, k_ifS0, k_ifSD, k_fz_ap, k_app, k_app1, k_for, k_for1, k_aug1, k_fun1, k_fun2, k_idx, k_idx1, k_idx2, k_lenC, k_lenC1, k_popC, k_bset, k_getC, k_getC1, k_getC2, k_at0, k_at1, k_at2, k_bg1, k_bg2, k_bs1, k_bs2, k_bc, k_pop1, k_chn, k_chn1, k_chn2, k_chn3t, k_chn3f, k_chn4, k_tfo, k_chnB, k_chB, k_rev, k_rev1, k_revL, k_revL1, k_rg1, k_rg1', k_tupRg, k_tupRg1, k_lstRg, k_lstRg1, k_srt, k_srt1, k_parLE, k_parLE1, k_parLE2, k_augA, k_augA1, sz0, sz1, sz2, sz3, sz4, sz5, sz6, k_fun, eqI, neI, addI, subI, ltI, leI, gtI, geI, truD, pyLen, pyAbs, pyMin2, pyMax2, pyInt, pyTuple, pyList, pyIx, pyIs, pyIsNot, isNon, nown, wipeD, Option.map_some, List.getElem?_cons_zero, List.getElem?_cons_succ, List.set_cons_zero, List.set_cons_succ, List.map_cons, List.map_nil, List.cons_append, List.nil_append, List.length_cons, List.length_nil, List.all_cons, List.all_nil, List.replicate_succ, List.replicate_zero, Bool.and_true, Bool.true_and, Bool.and_self, Bool.not_true, Bool.not_false, and_self, and_true, true_and, if_true, if_false, reduceIte, reduceCtorEq, decide_true, decide_false, Bool.false_eq_true, Nat.reduceAdd, Nat.reduceEqDiff, ty_none_tuple, ty_none_list, ty_none_bool, ty_none_int, ty_none_str, ty_bool_tuple, ty_bool_list, ty_bool_bool, ty_bool_int, ty_bool_str, ty_int_tuple, ty_int_list, ty_int_bool, ty_int_int, ty_int_str, ty_str_tuple, ty_str_list, ty_str_bool, ty_str_int, ty_str_str, ty_list_tuple, ty_list_list, ty_list_bool, ty_list_int, ty_list_str, ty_tuple_tuple, ty_tuple_list, ty_tuple_bool, ty_tuple_int, ty_tuple_str, d_law_is_row, b_law_is_row, rowOf, Option.isSome_none]
  | list xs => cases hj
  | dict xs => cases hj
end Dn

-- dk2
set_option Elab.async false
set_option linter.all false
set_option autoImplicit false
set_option maxRecDepth 100000
set_option maxHeartbeats 4000000
set_option exponentiation.threshold 100000
namespace Dn
open PySem Tr
theorem cut_ab (ws : List Nat) (a b : Nat) : cutD (nD ws) (some (a : Int)) (some (b : Int)) = nD ((ws.drop (min a ws.length)).take (min b ws.length - min a ws.length)) := by
  unfold cutD
  rw [nD_len, HT.sIx_nat, HT.sIx_nat]
  unfold nD
  rw [← List.map_drop, ← List.map_take]
theorem ints_nD (xs : List Nat) : intsOf (nD xs) = some (xs.map fun (x : Nat) => (x : Int)) := by
  rw [nD_ints, intsOf_map]
theorem sum_cast (xs : List Nat) : (xs.map fun (x : Nat) => (x : Int)).sum = ((xs.sum : Nat) : Int) := by
  induction xs with
  | nil => rfl
  | cons x r ih => rw [List.map_cons, List.sum_cons, ih, List.sum_cons]; omega
theorem sumA_nD (xs : List Nat) : pySumA [.tuple (nD xs)] = some (.int (xs.sum : Nat)) := by
  show (intsOf (nD xs)).map _ = _
  rw [ints_nD, Option.map_some, sum_cast]
theorem sum_drop (ws : List Nat) (a : Nat) : P ws a + (ws.drop a).sum = ws.sum := by
  unfold P
  rw [← List.sum_append, List.take_append_drop]
theorem P_min (ws : List Nat) (b : Nat) : P ws (min b ws.length) = P ws b := by
  unfold P
  rw [← List.take_take, List.take_length]
theorem P_sub (ws : List Nat) (a b : Nat) (h : a ≤ b) : ((ws.drop a).take (b - a)).sum + P ws a = P ws b := by
  unfold P
  have : ws.take b = ws.take a ++ (ws.drop a).take (b - a) := by
    rw [← List.take_add]
    congr 1
    omega
  rw [this, List.sum_append]
  omega
/-- what lies from a to b -/
theorem slice_sum (ws : List Nat) (a b : Nat) (h : a ≤ b) : ((ws.drop (min a ws.length)).take (min b ws.length - min a ws.length)).sum = P ws b - P ws a := by
  have := P_sub ws (min a ws.length) (min b ws.length) (by omega)
  rw [P_min, P_min] at this
  omega
theorem sl_sum (ws : List Nat) (a b : Nat) (h : a ≤ b) : (pySl (.tuple (nD ws)) (some (a : Int)) (some (b : Int))) = some (.tuple (nD ((ws.drop (min a ws.length)).take (min b ws.length - min a ws.length)))) ∧ pySumA [.tuple (nD ((ws.drop (min a ws.length)).take (min b ws.length - min a ws.length)))] = some (.int ((P ws b - P ws a : Nat) : Int)) := by
  refine ⟨?_, ?_⟩
  · show some (PyData.tuple (cutD _ _ _)) = _
    rw [cut_ab]
  · rw [sumA_nD, slice_sum ws a b h]
theorem cut_tail (v : List Nat) : cutD (nD v) (some 1) none = nD (v.drop 1) := by
  unfold cutD
  rw [nD_len, show ((1 : Int)) = ((1 : Nat) : Int) from rfl, HT.sIx_nat, HT.sIx_none]
  unfold nD
  rw [← List.map_drop, ← List.map_take]
  congr 1
  rcases Nat.lt_or_ge v.length 1 with z | z
  · have : v = [] := List.length_eq_zero_iff.mp (by omega)
    subst this; rfl
  · rw [Nat.min_eq_left z]
    exact List.take_of_length_le (by rw [List.length_drop]; exact Nat.le_refl _)
/-- the widths of a laying's trays -/
def traysW (ws v : List Nat) : List Nat := (v.zip (v.drop 1 ++ [ws.length])).map fun p => P ws p.2 - P ws p.1
theorem zipD_nD : ∀ (a b : List Nat), zipD (nD a) (nD b) = (a.zip b).map fun p => PyData.tuple [.int (p.1 : Int), .int (p.2 : Int)]
  | [], _ => by cases ‹List Nat› <;> rfl
  | x :: xs, [] => rfl
  | x :: xs, y :: ys => by
    show zipD (.int (x : Int) :: nD xs) (.int (y : Int) :: nD ys) = _
    unfold zipD
    rw [zipD_nD xs ys]
    rfl
theorem zip_up (ws v : List Nat) (hv : v.Pairwise (· < ·)) (hb : ∀ x ∈ v, x < ws.length) : ∀ p ∈ v.zip (v.drop 1 ++ [ws.length]), p.1 ≤ p.2 := by
  induction v with
  | nil => intro p h; exact absurd h List.not_mem_nil
  | cons x r ih =>
    intro p h
    rw [List.pairwise_cons] at hv
    have ih' := ih hv.2 fun y hy => hb y (List.mem_cons_of_mem _ hy)
    cases r with
    | nil =>
      have h' : p = (x, ws.length) := by simpa using h
      rw [h']
      exact Nat.le_of_lt (hb x List.mem_cons_self)
    | cons y s =>
      have h' : p = (x, y) ∨ p ∈ (y :: s).zip (s ++ [ws.length]) := by simpa using h
      rcases h' with e | e
      · rw [e]; exact Nat.le_of_lt (hv.1 y List.mem_cons_self)
      · exact ih' p (by simpa using e)
end Dn

-- dk2
set_option Elab.async false
set_option linter.all false
set_option autoImplicit false
set_option maxRecDepth 100000
set_option maxHeartbeats 4000000
set_option exponentiation.threshold 100000
namespace Dn
open PySem Tr
def mx (xs : List Nat) : Nat := xs.foldl max 0
theorem foldl_max_cast : ∀ (r : List Nat) (x : Nat), (r.map fun (y : Nat) => (y : Int)).foldl max (x : Int) = ((r.foldl max x : Nat) : Int)
  | [], x => rfl
  | y :: r, x => by
    simp only [List.map_cons, List.foldl_cons]
    rw [show max (x : Int) (y : Int) = ((max x y : Nat) : Int) by omega]
    exact foldl_max_cast r (max x y)
theorem max1_nD (x : Nat) (r : List Nat) : pyMax1 [.list (nD (x :: r))] = some (.int (mx (x :: r) : Nat)) ∧ pyMax1 [.tuple (nD (x :: r))] = some (.int (mx (x :: r) : Nat)) := by
  have e : (Nat.cast x :: r.map fun (y : Nat) => (y : Int)).foldl max 0 = ((mx (x :: r) : Nat) : Int) := by
    have := foldl_max_cast (x :: r) 0
    simpa [mx] using this
  have e2 : (r.map fun (y : Nat) => (y : Int)).foldl max (x : Int) = ((mx (x :: r) : Nat) : Int) := by
    rw [foldl_max_cast]
    unfold mx
    rw [List.foldl_cons, Nat.zero_max]
  refine ⟨?_, ?_⟩
  · show (intsOf (nD (x :: r))).bind _ = _
    rw [ints_nD]
    show some (PyData.int ((r.map fun (y : Nat) => (y : Int)).foldl max (x : Int))) = _
    rw [e2]
  · show (intsOf (nD (x :: r))).bind _ = _
    rw [ints_nD]
    show some (PyData.int ((r.map fun (y : Nat) => (y : Int)).foldl max (x : Int))) = _
    rw [e2]
theorem mx_snoc0 (xs : List Nat) : mx (xs ++ [0]) = mx xs := by
  unfold mx
  rw [List.foldl_append]
  simp
theorem max1_snoc (xs : List Nat) : pyMax1 [.list (nD (xs ++ [0]))] = some (.int (mx xs : Nat)) := by
  cases xs with
  | nil => rfl
  | cons x r =>
    have := (max1_nD x (r ++ [0])).1
    rw [show x :: (r ++ [0]) = (x :: r) ++ [0] from rfl, mx_snoc0] at this
    exact this
theorem trays_len (ws v : List Nat) : (traysW ws v).length = v.length := by
  unfold traysW
  rw [List.length_map, List.length_zip, List.length_append, List.length_drop]
  simp
  omega
def RowOk (ws v : List Nat) : Prop := v.Pairwise (· < ·) ∧ ∀ x ∈ v, x < ws.length
theorem cm_trays (ws v : List Nat) (hr : RowOk ws v) (sl : Sl) (h0 : sl = [some (.dat (.tuple (nD ws))), some (.dat (.tuple (nD v))), some (.dat (.list (nD (v.drop 1 ++ [ws.length])))), none, none]) (B : Bx) :
    cmpGo (gT (gCons' (gN 3) (gCons' (gN 4) gNil'))) dYes (dCl pySumA (dCons (dSl pySl (dVarO 0) (dPart (dVar 3)) (dPart (dVar 4))) dNil)) sl (zipD (nD v) (nD (v.drop 1 ++ [ws.length]))) B = some (nD (traysW ws v), B) := by
  subst h0
  rw [zipD_nD]
  have e := cmpGo_map (tg := gT (gCons' (gN 3) (gCons' (gN 4) gNil'))) (e := dCl pySumA (dCons (dSl pySl (dVarO 0) (dPart (dVar 3)) (dPart (dVar 4))) dNil)) (sw := [some (.dat (.tuple (nD ws))), some (.dat (.tuple (nD v))), some (.dat (.list (nD (v.drop 1 ++ [ws.length])))), none, none]) (B := B) (fun x => match x with | .tuple [.int a, .int b] => .int ((P ws b.toNat - P ws a.toNat : Nat) : Int) | _ => .none) ((v.zip (v.drop 1 ++ [ws.length])).map fun p => PyData.tuple [.int (p.1 : Int), .int (p.2 : Int)]) (fun x hx => by
    obtain ⟨⟨a, b⟩, hp, rfl⟩ := List.mem_map.mp hx
    have hab : a ≤ b := zip_up ws v hr.1 hr.2 (a, b) hp
    obtain ⟨h1, h2⟩ := sl_sum ws a b hab
    refine ⟨_, rfl, ?_⟩
    show _ = some (PyData.int ((P ws (b : Int).toNat - P ws (a : Int).toNat : Nat) : Int), B)
    rw [Int.toNat_natCast, Int.toNat_natCast]
    simp only [k_dC, k_var_ap, k_varO_ap, k_varV_ap, k_op, k_op1, k_op2, k_fin, k_tst, k_t1, k_t2, k_tF, k_opB, k_B, k_neg, k_neg1, k_andT, k_orT, k_notT, k_and1, k_and0, k_or1, k_or0, k_not1, k_tru, k_tru1, k_andV, k_orV, k_notV, k_andV1, k_andV0, k_orV1, k_orV0, k_notV1, k_if, k_if1, k_if0, k_ifD, k_nil, k_cons, k_cons1, k_cons2, k_nilA, k_consA, k_consA1, k_consA2, k_V, k_V1, k_F, k_F1, k_tup, k_tup1, k_lst, k_lst1, k_cl, k_cl1, k_clL, k_clL1, k_finL, k_isi, k_isi1, k_fn, k_fn1, k_dat, k_fnV, k_fnV1, k_seqI, k_seqI1, k_seqI2, k_rng1, k_rng1', k_rng2, k_rng2a, k_rng2b, k_enum, k_enum1, k_zip, k_zip1, k_zip2, k_P, k_P1, k_noP, k_sl, k_sl1, k_sl2, k_sl3, k_cmp, k_cmp1, k_yes, k_seq, k_seq1, k_seq2, k_seq3, k_seq4, k_next, k_brk, k_cont, k_retN, k_asg, k_asg1, k_asgV, k_asgV1, k_asgV2, k_asgV3, k_asgO, k_asgO1, k_asgG, k_asgG1, k_nx, k_gN, k_gT, k_gC, k_g1, k_g0, k_par, k_par1, k_par2, k_drop, k_drop1, k_ret, k_ret1, k_retV, k_retV1, k_ifS, k_ifS1, k_ifS0, k_ifSD, k_fz_ap, k_app, k_app1, k_for, k_for1, k_aug1, k_fun1, k_fun2, k_idx, k_idx1, k_idx2, k_lenC, k_lenC1, k_popC, k_bset, k_getC, k_getC1, k_getC2, k_at0, k_at1, k_at2, k_bg1, k_bg2, k_bs1, k_bs2, k_bc, k_pop1, k_chn, k_chn1, k_chn2, k_chn3t, k_chn3f, k_chn4, k_tfo, k_chnB, k_chB, k_rev, k_rev1, k_revL, k_revL1, k_rg1, k_rg1', k_tupRg, k_tupRg1, k_lstRg, k_lstRg1, k_srt, k_srt1, k_parLE, k_parLE1, k_parLE2, k_augA, k_augA1, sz0, sz1, sz2, sz3, sz4, sz5, sz6, k_fun, eqI, neI, addI, subI, ltI, leI, gtI, geI, truD, isTy, tyName, pyLen, pyAbs, pyMin2, pyMax2, pyInt, pyTuple, pyList, pyIx, pyIs, pyIsNot, isNon, nown, wipeD, Option.map_some, List.getElem?_cons_zero, List.getElem?_cons_succ, List.set_cons_zero, List.set_cons_succ, List.map_cons, List.map_nil, List.cons_append, List.nil_append, List.length_cons, List.length_nil, List.all_cons, List.all_nil, List.replicate_succ, List.replicate_zero, Bool.and_true, Bool.true_and, Bool.and_self, Bool.not_true, Bool.not_false, and_self, and_true, true_and, if_true, if_false, reduceIte, reduceCtorEq, decide_true, decide_false, Bool.false_eq_true, Nat.reduceAdd, Nat.reduceEqDiff, h1, h2])
  rw [e]
  unfold traysW nD
  rw [List.map_map, List.map_map]
  congr 2
theorem drop_dat (v : List Nat) : pySl (.tuple (nD v)) (some 1) none = some (.tuple (nD (v.drop 1))) := by
  show some (PyData.tuple (cutD _ _ _)) = _
  rw [cut_tail]
theorem sp_widest (ws v : List Nat) (hr : RowOk ws v) (hl : v.length ≤ 62) (B : Bx) : d_law_widest [.dat (.tuple (nD ws)), .dat (.tuple (nD v))] B = some (.dat (.int (mx (traysW ws v) : Nat)), B) := by
  have h1 := drop_dat v
  have h2 : (((nD (v.drop 1)).length + 1 ≤ sizeLine)) = True := eq_true (by rw [nD_len, List.length_drop]; exact sz (by omega))
  have h3 : pyAdd (.list (nD (v.drop 1))) (.list [.int (ws.length : Int)]) = some (.list (nD (v.drop 1 ++ [ws.length]))) := by
    show (if (nD (v.drop 1)).length + 1 ≤ sizeLine then _ else _) = _
    rw [if_pos (of_eq_true h2), nD_snoc]
  have h4 := cm_trays ws v hr _ rfl B
  have h5 : pyAdd (.list (nD (traysW ws v))) (.list [.int 0]) = some (.list (nD (traysW ws v ++ [0]))) := by
    show (if (nD (traysW ws v)).length + 1 ≤ sizeLine then _ else _) = _
    rw [if_pos (by rw [nD_len, trays_len]; exact sz (by omega))]
    have := nD_snoc (traysW ws v) 0
    rw [← this]
    rfl
  have h6 := max1_snoc (traysW ws v)
  have hz : ((zipD (nD v) (nD (v.drop 1 ++ [ws.length]))).length < sizeLine) = True := eq_true (by rw [zipD_nD, List.length_map, List.length_zip]; refine szlt ?_; omega)
  simp only [k_dC, k_var_ap, k_varO_ap, k_varV_ap, k_op, k_op1, k_op2, k_fin, k_tst, k_t1, k_t2, k_tF, k_opB, k_B, k_neg, k_neg1, k_andT, k_orT, k_notT, k_and1, k_and0, k_or1, k_or0, k_not1, k_tru, k_tru1, k_andV, k_orV, k_notV, k_andV1, k_andV0, k_orV1, k_orV0, k_notV1, k_if, k_if1, k_if0, k_ifD, k_nil, k_cons, k_cons1, k_cons2, k_nilA, k_consA, k_consA1, k_consA2, k_V, k_V1, k_F, k_F1, k_tup, k_tup1, k_lst, k_lst1, k_cl, k_cl1, k_clL, k_clL1, k_finL, k_isi, k_isi1, k_fn, k_fn1, k_dat, k_fnV, k_fnV1, k_seqI, k_seqI1, k_seqI2, k_rng1, k_rng1', k_rng2, k_rng2a, k_rng2b, k_enum, k_enum1, k_zip, k_zip1, k_zip2, k_P, k_P1, k_noP, k_sl, k_sl1, k_sl2, k_sl3, k_cmp, k_cmp1, k_yes, k_seq, k_seq1, k_seq2, k_seq3, k_seq4, k_next, k_brk, k_cont, k_retN, k_asg, k_asg1, k_asgV, k_asgV1, k_asgV2, k_asgV3, k_asgO, k_asgO1, k_asgG, k_asgG1, k_nx, k_gN, k_gT, k_gC, k_g1, k_g0, k_par, k_par1, k_par2, k_drop, k_drop1, k_ret, k_ret1, k_retV, k_retV1, k_ifS, k_ifS1, k_ifS0, k_ifSD, k_fz_ap, k_app, k_app1, k_for, k_for1, k_aug1, k_fun1, k_fun2, k_idx, k_idx1, k_idx2, k_lenC, k_lenC1, k_popC, k_bset, k_getC, k_getC1, k_getC2, k_at0, k_at1, k_at2, k_bg1, k_bg2, k_bs1, k_bs2, k_bc, k_pop1, k_chn, k_chn1, k_chn2, k_chn3t, k_chn3f, k_chn4, k_tfo, k_chnB, k_chB, k_rev, k_rev1, k_revL, k_revL1, k_rg1, k_rg1', k_tupRg, k_tupRg1, k_lstRg, k_lstRg1, k_srt, k_srt1, k_parLE, k_parLE1, k_parLE2, k_augA, k_augA1, sz0, sz1, sz2, sz3, sz4, sz5, sz6, k_fun, eqI, neI, addI, subI, ltI, leI, gtI, geI, truD, isTy, tyName, pyLen, pyAbs, pyMin2, pyMax2, pyInt, pyTuple, pyList, pyIx, pyIs, pyIsNot, isNon, nown, wipeD, Option.map_some, List.getElem?_cons_zero, List.getElem?_cons_succ, List.set_cons_zero, List.set_cons_succ, List.map_cons, List.map_nil, List.cons_append, List.nil_append, List.length_cons, List.length_nil, List.all_cons, List.all_nil, List.replicate_succ, List.replicate_zero, Bool.and_true, Bool.true_and, Bool.and_self, Bool.not_true, Bool.not_false, and_self, and_true, true_and, if_true, if_false, reduceIte, reduceCtorEq, decide_true, decide_false, Bool.false_eq_true, Nat.reduceAdd, Nat.reduceEqDiff, d_law_widest, b_law_widest, h1, nD_len, h3, hz, h4, h5, h6]
theorem sp_rows_by (ws v : List Nat) (hr : RowOk ws v) (hl : v.length ≤ 62) (B : Bx) : d_rows_by [.dat (.tuple (nD ws)), .dat (.tuple (nD v))] B = some (.dat (.list (nD (traysW ws v))), B) := by
  have h1 := drop_dat v
  have h2 : (((nD (v.drop 1)).length + 1 ≤ sizeLine)) = True := eq_true (by rw [nD_len, List.length_drop]; exact sz (by omega))
  have h3 : pyAdd (.list (nD (v.drop 1))) (.list [.int (ws.length : Int)]) = some (.list (nD (v.drop 1 ++ [ws.length]))) := by
    show (if (nD (v.drop 1)).length + 1 ≤ sizeLine then _ else _) = _
    rw [if_pos (of_eq_true h2), nD_snoc]
  have h4 := cm_trays ws v hr _ rfl B
  have hz : ((zipD (nD v) (nD (v.drop 1 ++ [ws.length]))).length < sizeLine) = True := eq_true (by rw [zipD_nD, List.length_map, List.length_zip]; refine szlt ?_; omega)
  simp only [k_dC, k_var_ap, k_varO_ap, k_varV_ap, k_op, k_op1, k_op2, k_fin, k_tst, k_t1, k_t2, k_tF, k_opB, k_B, k_neg, k_neg1, k_andT, k_orT, k_notT, k_and1, k_and0, k_or1, k_or0, k_not1, k_tru, k_tru1, k_andV, k_orV, k_notV, k_andV1, k_andV0, k_orV1, k_orV0, k_notV1, k_if, k_if1, k_if0, k_ifD, k_nil, k_cons, k_cons1, k_cons2, k_nilA, k_consA, k_consA1, k_consA2, k_V, k_V1, k_F, k_F1, k_tup, k_tup1, k_lst, k_lst1, k_cl, k_cl1, k_clL, k_clL1, k_finL, k_isi, k_isi1, k_fn, k_fn1, k_dat, k_fnV, k_fnV1, k_seqI, k_seqI1, k_seqI2, k_rng1, k_rng1', k_rng2, k_rng2a, k_rng2b, k_enum, k_enum1, k_zip, k_zip1, k_zip2, k_P, k_P1, k_noP, k_sl, k_sl1, k_sl2, k_sl3, k_cmp, k_cmp1, k_yes, k_seq, k_seq1, k_seq2, k_seq3, k_seq4, k_next, k_brk, k_cont, k_retN, k_asg, k_asg1, k_asgV, k_asgV1, k_asgV2, k_asgV3, k_asgO, k_asgO1, k_asgG, k_asgG1, k_nx, k_gN, k_gT, k_gC, k_g1, k_g0, k_par, k_par1, k_par2, k_drop, k_drop1, k_ret, k_ret1, k_retV, k_retV1, k_ifS, k_ifS1, k_ifS0, k_ifSD, k_fz_ap, k_app, k_app1, k_for, k_for1, k_aug1, k_fun1, k_fun2, k_idx, k_idx1, k_idx2, k_lenC, k_lenC1, k_popC, k_bset, k_getC, k_getC1, k_getC2, k_at0, k_at1, k_at2, k_bg1, k_bg2, k_bs1, k_bs2, k_bc, k_pop1, k_chn, k_chn1, k_chn2, k_chn3t, k_chn3f, k_chn4, k_tfo, k_chnB, k_chB, k_rev, k_rev1, k_revL, k_revL1, k_rg1, k_rg1', k_tupRg, k_tupRg1, k_lstRg, k_lstRg1, k_srt, k_srt1, k_parLE, k_parLE1, k_parLE2, k_augA, k_augA1, sz0, sz1, sz2, sz3, sz4, sz5, sz6, k_fun, eqI, neI, addI, subI, ltI, leI, gtI, geI, truD, isTy, tyName, pyLen, pyAbs, pyMin2, pyMax2, pyInt, pyTuple, pyList, pyIx, pyIs, pyIsNot, isNon, nown, wipeD, Option.map_some, List.getElem?_cons_zero, List.getElem?_cons_succ, List.set_cons_zero, List.set_cons_succ, List.map_cons, List.map_nil, List.cons_append, List.nil_append, List.length_cons, List.length_nil, List.all_cons, List.all_nil, List.replicate_succ, List.replicate_zero, Bool.and_true, Bool.true_and, Bool.and_self, Bool.not_true, Bool.not_false, and_self, and_true, true_and, if_true, if_false, reduceIte, reduceCtorEq, decide_true, decide_false, Bool.false_eq_true, Nat.reduceAdd, Nat.reduceEqDiff, d_rows_by, b_rows_by, h1, nD_len, h3, hz, h4]
end Dn

-- dk2
set_option Elab.async false
set_option linter.all false
set_option autoImplicit false
set_option maxRecDepth 100000
set_option maxHeartbeats 4000000
set_option exponentiation.threshold 100000
namespace Dn
open PySem Tr
theorem rowOf_is {n : Nat} {d : PyData} {v : List Nat} (h : rowOf n d = some v) : d = .tuple (nD v) ∧ v.Pairwise (· < ·) ∧ ∀ x ∈ v, x < n := by
  cases d with
  | tuple xs =>
    obtain ⟨u, h1, h2⟩ := bnd (show (natsOf n xs).bind (fun v => if ascB v = true then some v else none) = some v from h)
    obtain ⟨e1, e2⟩ := natsOf_is h1
    by_cases hc : ascB u = true
    · rw [if_pos hc] at h2
      cases h2
      exact ⟨by rw [e1], of_decide_eq_true hc, e2⟩
    · rw [if_neg hc] at h2; cases h2
  | _ => cases h
theorem rowOf_nD {n : Nat} {v : List Nat} (h1 : v.Pairwise (· < ·)) (h2 : ∀ x ∈ v, x < n) : rowOf n (.tuple (nD v)) = some v := by
  show (natsOf n (nD v)).bind _ = _
  rw [natsOf_nD h2]
  show (if ascB v = true then some v else none) = _
  rw [if_pos (show ascB v = true from decide_eq_true h1)]
theorem bq1 : (true == false) = false := id rfl
theorem bq2 : (false == false) = true := id rfl
def layB (w : Int) (ws v : List Nat) : Bool := if ws.isEmpty then v.isEmpty else (!v.isEmpty) && (decide (v.getD 0 0 = 0) && decide ((mx (traysW ws v) : Int) ≤ w))
def stopB (w : Int) (ws v : List Nat) : Bool := (rngD 0 (v.length - 1)).all fun x => match x with | .int k => decide (w < ((P ws (v.getD (k.toNat + 1) 0 + 1) - P ws (v.getD k.toNat 0) : Nat) : Int)) | _ => false
def judL (w : Int) (ws : List Nat) (d : PyData) : Bool := match rowOf ws.length d with
  | some v => layB w ws v
  | none => false
def judS (w : Int) (ws : List Nat) (d : PyData) : Bool := match rowOf ws.length d with
  | some v => stopB w ws v
  | none => false
theorem sh_nil : SeqAt.shaped (.tuple []) = true := by decide
theorem eqTE (v : List Nat) : pyEq (.tuple (nD v)) (.tuple []) = some v.isEmpty := by rw [eqTN (nD_lay v), nD_emp]
theorem neTE (v : List Nat) : pyNe (.tuple (nD v)) (.tuple []) = some (!v.isEmpty) := by
  have := eqTE v
  unfold pyEq at this
  unfold pyNe
  split at this
  · rename_i h
    rw [if_pos h, Option.some.inj this]
  · cases this
theorem neBB (a b : Bool) : pyNe (.bool a) (.bool b) = some (!(a == b)) := by
  unfold pyNe
  rw [if_pos ⟨sh_bool, sh_bool⟩, eqv_bb]
theorem ix0 {v : List Nat} (h : v.isEmpty = false) : pyIx (.tuple (nD v)) (.int 0) = some (.int (v.getD 0 0 : Nat)) := by
  cases v with
  | nil => cases h
  | cons x r => exact ixT (i := 0) (nD_at (xs := x :: r) (i := 0) (by simp))
theorem cast_zero (n : Nat) : decide ((n : Int) = 0) = decide (n = 0) := decide_eq_decide.mpr (by omega)
theorem sp_law_is_laying (w : Int) (ws : List Nat) (d : PyData) (hj : jk d = true) (hn : ws.length < 1000) (B : Bx) : d_law_is_laying [.dat (.int w), .dat (.tuple (nD ws)), .dat d] B = some (.dat (.bool (judL w ws d)), B) := by
  have e1 := sp_law_is_row ws.length d hj hn B
  unfold judL
  cases hr : rowOf ws.length d with
  | none =>
    rw [hr] at e1
    simp only [k_dC, k_var_ap, k_varO_ap, k_varV_ap, k_op, k_op1, k_op2, k_fin, k_tst, k_t1, k_t2, k_tF, k_opB, k_B, k_neg, k_neg1, k_andT, k_orT, k_notT, k_and1, k_and0, k_or1, k_or0, k_not1, k_tru, k_tru1, k_andV, k_orV, k_notV, k_andV1, k_andV0, k_orV1, k_orV0, k_notV1, k_if, k_if1, k_if0, k_ifD, k_nil, k_cons, k_cons1, k_cons2, k_nilA, k_consA, k_consA1, k_consA2, k_V, k_V1, k_F, k_F1, k_tup, k_tup1, k_lst, k_lst1, k_cl, k_cl1, k_clL, k_clL1, k_finL, k_isi, k_isi1, k_fn, k_fn1, k_dat, k_fnV, k_fnV1, k_seqI, k_seqI1, k_seqI2, k_rng1, k_rng1', k_rng2, k_rng2a, k_rng2b, k_enum, k_enum1, k_zip, k_zip1, k_zip2, k_P, k_P1, k_noP, k_sl, k_sl1, k_sl2, k_sl3, k_cmp, k_cmp1, k_yes, k_seq, k_seq1, k_seq2, k_seq3, k_seq4, k_next, k_brk, k_cont, k_retN, k_asg, k_asg1, k_asgV, k_asgV1, k_asgV2, k_asgV3, k_asgO, k_asgO1, k_asgG, k_asgG1, k_nx, k_gN, k_gT, k_gC, k_g1, k_g0, k_par, k_par1, k_par2, k_drop, k_drop1, k_ret, k_ret1, k_retV, k_retV1, k_ifS, k_ifS1, k_ifS0, k_ifSD, k_fz_ap, k_app, k_app1, k_for, k_for1, k_aug1, k_fun1, k_fun2, k_idx, k_idx1, k_idx2, k_lenC, k_lenC1, k_popC, k_bset, k_getC, k_getC1, k_getC2, k_at0, k_at1, k_at2, k_bg1, k_bg2, k_bs1, k_bs2, k_bc, k_pop1, k_chn, k_chn1, k_chn2, k_chn3t, k_chn3f, k_chn4, k_tfo, k_chnB, k_chB, k_rev, k_rev1, k_revL, k_revL1, k_rg1, k_rg1', k_tupRg, k_tupRg1, k_lstRg, k_lstRg1, k_srt, k_srt1, k_parLE, k_parLE1, k_parLE2, k_augA, k_augA1, sz0, sz1, sz2, sz3, sz4, sz5, sz6, k_fun, eqI, neI, addI, subI, ltI, leI, gtI, geI, truD, isTy, tyName, pyLen, pyAbs, pyMin2, pyMax2, pyInt, pyTuple, pyList, pyIx, pyIs, pyIsNot, isNon, nown, wipeD, Option.map_some, List.getElem?_cons_zero, List.getElem?_cons_succ, List.set_cons_zero, List.set_cons_succ, List.map_cons, List.map_nil, List.cons_append, List.nil_append, List.length_cons, List.length_nil, List.all_cons, List.all_nil, List.replicate_succ, List.replicate_zero, Bool.and_true, Bool.true_and, Bool.and_self, Bool.not_true, Bool.not_false, and_self, and_true, true_and, if_true, if_false, reduceIte, reduceCtorEq, decide_true, decide_false, Bool.false_eq_true, Nat.reduceAdd, Nat.reduceEqDiff, d_law_is_laying, b_law_is_laying, nD_len, e1, Option.isSome_none]
  | some v =>
    rw [hr] at e1
    obtain ⟨rfl, h1, h2⟩ := rowOf_is hr
    have hl := (jk_tuple hj).1
    rw [nD_len] at hl
    have e2 := sp_widest ws v ⟨h1, h2⟩ hl B
    unfold layB
    cases hw : ws.isEmpty with
    | true =>
      have hv : v = [] := by
        cases v with
        | nil => rfl
        | cons x r =>
          have := h2 x List.mem_cons_self
          rw [List.isEmpty_iff.mp hw] at this
          exact absurd this (Nat.not_lt_zero _)
      subst hv
      simp only [k_dC, k_var_ap, k_varO_ap, k_varV_ap, k_op, k_op1, k_op2, k_fin, k_tst, k_t1, k_t2, k_tF, k_opB, k_B, k_neg, k_neg1, k_andT, k_orT, k_notT, k_and1, k_and0, k_or1, k_or0, k_not1, k_tru, k_tru1, k_andV, k_orV, k_notV, k_andV1, k_andV0, k_orV1, k_orV0, k_notV1, k_if, k_if1, k_if0, k_ifD, k_nil, k_cons, k_cons1, k_cons2, k_nilA, k_consA, k_consA1, k_consA2, k_V, k_V1, k_F, k_F1, k_tup, k_tup1, k_lst, k_lst1, k_cl, k_cl1, k_clL, k_clL1, k_finL, k_isi, k_isi1, k_fn, k_fn1, k_dat, k_fnV, k_fnV1, k_seqI, k_seqI1, k_seqI2, k_rng1, k_rng1', k_rng2, k_rng2a, k_rng2b, k_enum, k_enum1, k_zip, k_zip1, k_zip2, k_P, k_P1, k_noP, k_sl, k_sl1, k_sl2, k_sl3, k_cmp, k_cmp1, k_yes, k_seq, k_seq1, k_seq2, k_seq3, k_seq4, k_next, k_brk, k_cont, k_retN, k_asg, k_asg1, k_asgV, k_asgV1, k_asgV2, k_asgV3, k_asgO, k_asgO1, k_asgG, k_asgG1, k_nx, k_gN, k_gT, k_gC, k_g1, k_g0, k_par, k_par1, k_par2, k_drop, k_drop1, k_ret, k_ret1, k_retV, k_retV1, k_ifS, k_ifS1, k_ifS0, k_ifSD, k_fz_ap, k_app, k_app1, k_for, k_for1, k_aug1, k_fun1, k_fun2, k_idx, k_idx1, k_idx2, k_lenC, k_lenC1, k_popC, k_bset, k_getC, k_getC1, k_getC2, k_bg1, k_bg2, k_bs1, k_bs2, k_bc, k_pop1, k_chn, k_chn1, k_chn2, k_chn3t, k_chn3f, k_chn4, k_tfo, k_chnB, k_chB, k_rev, k_rev1, k_revL, k_revL1, k_rg1, k_rg1', k_tupRg, k_tupRg1, k_lstRg, k_lstRg1, k_srt, k_srt1, k_parLE, k_parLE1, k_parLE2, k_augA, k_augA1, sz0, sz1, sz2, sz3, sz4, sz5, sz6, k_fun, eqI, neI, addI, subI, ltI, leI, gtI, geI, truD, isTy, tyName, pyLen, pyAbs, pyMin2, pyMax2, pyInt, pyTuple, pyList, pyIs, pyIsNot, isNon, nown, wipeD, Option.map_some, List.getElem?_cons_zero, List.getElem?_cons_succ, List.set_cons_zero, List.set_cons_succ, List.map_cons, List.map_nil, List.cons_append, List.nil_append, List.length_cons, List.length_nil, List.all_cons, List.all_nil, List.replicate_succ, List.replicate_zero, Bool.and_true, Bool.true_and, Bool.and_self, Bool.not_true, Bool.not_false, and_self, and_true, true_and, if_true, if_false, reduceIte, reduceCtorEq, decide_true, decide_false, Bool.false_eq_true, Nat.reduceAdd, Nat.reduceEqDiff, d_law_is_laying, b_law_is_laying, nD_len, e1, Option.isSome_some, eqTE, hw, neBB, sz0, List.isEmpty_nil, beq_self_eq_true]
    | false =>
      cases hv : v.isEmpty with
      | true => simp only [k_dC, k_var_ap, k_varO_ap, k_varV_ap, k_op, k_op1, k_op2, k_fin, k_tst, k_t1, k_t2, k_tF, k_opB, k_B, k_neg, k_neg1, k_andT, k_orT, k_notT, k_and1, k_and0, k_or1, k_or0, k_not1, k_tru, k_tru1, k_andV, k_orV, k_notV, k_andV1, k_andV0, k_orV1, k_orV0, k_notV1, k_if, k_if1, k_if0, k_ifD, k_nil, k_cons, k_cons1, k_cons2, k_nilA, k_consA, k_consA1, k_consA2, k_V, k_V1, k_F, k_F1, k_tup, k_tup1, k_lst, k_lst1, k_cl, k_cl1, k_clL, k_clL1, k_finL, k_isi, k_isi1, k_fn, k_fn1, k_dat, k_fnV, k_fnV1, k_seqI, k_seqI1, k_seqI2, k_rng1, k_rng1', k_rng2, k_rng2a, k_rng2b, k_enum, k_enum1, k_zip, k_zip1, k_zip2, k_P, k_P1, k_noP, k_sl, k_sl1, k_sl2, k_sl3, k_cmp, k_cmp1, k_yes, k_seq, k_seq1, k_seq2, k_seq3, k_seq4, k_next, k_brk, k_cont, k_retN, k_asg, k_asg1, k_asgV, k_asgV1, k_asgV2, k_asgV3, k_asgO, k_asgO1, k_asgG, k_asgG1, k_nx, k_gN, k_gT, k_gC, k_g1, k_g0, k_par, k_par1, k_par2, k_drop, k_drop1, k_ret, k_ret1, k_retV, k_retV1, k_ifS, k_ifS1, k_ifS0, k_ifSD, k_fz_ap, k_app, k_app1, k_for, k_for1, k_aug1, k_fun1, k_fun2, k_idx, k_idx1, k_idx2, k_lenC, k_lenC1, k_popC, k_bset, k_getC, k_getC1, k_getC2, k_bg1, k_bg2, k_bs1, k_bs2, k_bc, k_pop1, k_chn, k_chn1, k_chn2, k_chn3t, k_chn3f, k_chn4, k_tfo, k_chnB, k_chB, k_rev, k_rev1, k_revL, k_revL1, k_rg1, k_rg1', k_tupRg, k_tupRg1, k_lstRg, k_lstRg1, k_srt, k_srt1, k_parLE, k_parLE1, k_parLE2, k_augA, k_augA1, sz0, sz1, sz2, sz3, sz4, sz5, sz6, k_fun, eqI, neI, addI, subI, ltI, leI, gtI, geI, truD, isTy, tyName, pyLen, pyAbs, pyMin2, pyMax2, pyInt, pyTuple, pyList, pyIs, pyIsNot, isNon, nown, wipeD, Option.map_some, List.getElem?_cons_zero, List.getElem?_cons_succ, List.set_cons_zero, List.set_cons_succ, List.map_cons, List.map_nil, List.cons_append, List.nil_append, List.length_cons, List.length_nil, List.all_cons, List.all_nil, List.replicate_succ, List.replicate_zero, Bool.and_true, Bool.true_and, Bool.and_self, Bool.not_true, Bool.not_false, and_self, and_true, true_and, if_true, if_false, reduceIte, reduceCtorEq, decide_true, decide_false, Bool.false_eq_true, Nat.reduceAdd, Nat.reduceEqDiff, d_law_is_laying, b_law_is_laying, nD_len, e1, Option.isSome_some, eqTE, hw, hv, neBB, sz0, bq1, bq2, Bool.false_and]
      | false =>
        have e3 := ix0 hv
        have e4 := cast_zero (v.getD 0 0)
        by_cases hz : v.getD 0 0 = 0
        · have hz' := eq_true hz
          simp only [k_dC, k_var_ap, k_varO_ap, k_varV_ap, k_op, k_op1, k_op2, k_fin, k_tst, k_t1, k_t2, k_tF, k_opB, k_B, k_neg, k_neg1, k_andT, k_orT, k_notT, k_and1, k_and0, k_or1, k_or0, k_not1, k_tru, k_tru1, k_andV, k_orV, k_notV, k_andV1, k_andV0, k_orV1, k_orV0, k_notV1, k_if, k_if1, k_if0, k_ifD, k_nil, k_cons, k_cons1, k_cons2, k_nilA, k_consA, k_consA1, k_consA2, k_V, k_V1, k_F, k_F1, k_tup, k_tup1, k_lst, k_lst1, k_cl, k_cl1, k_clL, k_clL1, k_finL, k_isi, k_isi1, k_fn, k_fn1, k_dat, k_fnV, k_fnV1, k_seqI, k_seqI1, k_seqI2, k_rng1, k_rng1', k_rng2, k_rng2a, k_rng2b, k_enum, k_enum1, k_zip, k_zip1, k_zip2, k_P, k_P1, k_noP, k_sl, k_sl1, k_sl2, k_sl3, k_cmp, k_cmp1, k_yes, k_seq, k_seq1, k_seq2, k_seq3, k_seq4, k_next, k_brk, k_cont, k_retN, k_asg, k_asg1, k_asgV, k_asgV1, k_asgV2, k_asgV3, k_asgO, k_asgO1, k_asgG, k_asgG1, k_nx, k_gN, k_gT, k_gC, k_g1, k_g0, k_par, k_par1, k_par2, k_drop, k_drop1, k_ret, k_ret1, k_retV, k_retV1, k_ifS, k_ifS1, k_ifS0, k_ifSD, k_fz_ap, k_app, k_app1, k_for, k_for1, k_aug1, k_fun1, k_fun2, k_idx, k_idx1, k_idx2, k_lenC, k_lenC1, k_popC, k_bset, k_getC, k_getC1, k_getC2, k_bg1, k_bg2, k_bs1, k_bs2, k_bc, k_pop1, k_chn, k_chn1, k_chn2, k_chn3t, k_chn3f, k_chn4, k_tfo, k_chnB, k_chB, k_rev, k_rev1, k_revL, k_revL1, k_rg1, k_rg1', k_tupRg, k_tupRg1, k_lstRg, k_lstRg1, k_srt, k_srt1, k_parLE, k_parLE1, k_parLE2, k_augA, k_augA1, sz0, sz1, sz2, sz3, sz4, sz5, sz6, k_fun, eqI, neI, addI, subI, ltI, leI, gtI, geI, truD, isTy, tyName, pyLen, pyAbs, pyMin2, pyMax2, pyInt, pyTuple, pyList, pyIs, pyIsNot, isNon, nown, wipeD, Option.map_some, List.getElem?_cons_zero, List.getElem?_cons_succ, List.set_cons_zero, List.set_cons_succ, List.map_cons, List.map_nil, List.cons_append, List.nil_append, List.length_cons, List.length_nil, List.all_cons, List.all_nil, List.replicate_succ, List.replicate_zero, Bool.and_true, Bool.true_and, Bool.and_self, Bool.not_true, Bool.not_false, and_self, and_true, true_and, if_true, if_false, reduceIte, reduceCtorEq, decide_true, decide_false, Bool.false_eq_true, Nat.reduceAdd, Nat.reduceEqDiff, d_law_is_laying, b_law_is_laying, nD_len, e1, Option.isSome_some, eqTE, hw, hv, neBB, sz0, bq1, bq2, e3, e4, hz', e2]
        · have hz' := eq_false hz
          simp only [k_dC, k_var_ap, k_varO_ap, k_varV_ap, k_op, k_op1, k_op2, k_fin, k_tst, k_t1, k_t2, k_tF, k_opB, k_B, k_neg, k_neg1, k_andT, k_orT, k_notT, k_and1, k_and0, k_or1, k_or0, k_not1, k_tru, k_tru1, k_andV, k_orV, k_notV, k_andV1, k_andV0, k_orV1, k_orV0, k_notV1, k_if, k_if1, k_if0, k_ifD, k_nil, k_cons, k_cons1, k_cons2, k_nilA, k_consA, k_consA1, k_consA2, k_V, k_V1, k_F, k_F1, k_tup, k_tup1, k_lst, k_lst1, k_cl, k_cl1, k_clL, k_clL1, k_finL, k_isi, k_isi1, k_fn, k_fn1, k_dat, k_fnV, k_fnV1, k_seqI, k_seqI1, k_seqI2, k_rng1, k_rng1', k_rng2, k_rng2a, k_rng2b, k_enum, k_enum1, k_zip, k_zip1, k_zip2, k_P, k_P1, k_noP, k_sl, k_sl1, k_sl2, k_sl3, k_cmp, k_cmp1, k_yes, k_seq, k_seq1, k_seq2, k_seq3, k_seq4, k_next, k_brk, k_cont, k_retN, k_asg, k_asg1, k_asgV, k_asgV1, k_asgV2, k_asgV3, k_asgO, k_asgO1, k_asgG, k_asgG1, k_nx, k_gN, k_gT, k_gC, k_g1, k_g0, k_par, k_par1, k_par2, k_drop, k_drop1, k_ret, k_ret1, k_retV, k_retV1, k_ifS, k_ifS1, k_ifS0, k_ifSD, k_fz_ap, k_app, k_app1, k_for, k_for1, k_aug1, k_fun1, k_fun2, k_idx, k_idx1, k_idx2, k_lenC, k_lenC1, k_popC, k_bset, k_getC, k_getC1, k_getC2, k_bg1, k_bg2, k_bs1, k_bs2, k_bc, k_pop1, k_chn, k_chn1, k_chn2, k_chn3t, k_chn3f, k_chn4, k_tfo, k_chnB, k_chB, k_rev, k_rev1, k_revL, k_revL1, k_rg1, k_rg1', k_tupRg, k_tupRg1, k_lstRg, k_lstRg1, k_srt, k_srt1, k_parLE, k_parLE1, k_parLE2, k_augA, k_augA1, sz0, sz1, sz2, sz3, sz4, sz5, sz6, k_fun, eqI, neI, addI, subI, ltI, leI, gtI, geI, truD, isTy, tyName, pyLen, pyAbs, pyMin2, pyMax2, pyInt, pyTuple, pyList, pyIs, pyIsNot, isNon, nown, wipeD, Option.map_some, List.getElem?_cons_zero, List.getElem?_cons_succ, List.set_cons_zero, List.set_cons_succ, List.map_cons, List.map_nil, List.cons_append, List.nil_append, List.length_cons, List.length_nil, List.all_cons, List.all_nil, List.replicate_succ, List.replicate_zero, Bool.and_true, Bool.true_and, Bool.and_self, Bool.not_true, Bool.not_false, and_self, and_true, true_and, if_true, if_false, reduceIte, reduceCtorEq, decide_true, decide_false, Bool.false_eq_true, Nat.reduceAdd, Nat.reduceEqDiff, d_law_is_laying, b_law_is_laying, nD_len, e1, Option.isSome_some, eqTE, hw, hv, neBB, sz0, bq1, bq2, e3, e4, hz', e2, Bool.false_and]
theorem sp_is_laying (w : Int) (ws : List Nat) (d : PyData) (hj : jk d = true) (hn : ws.length < 1000) (B : Bx) : d_is_laying [.dat (.int w), .dat (.tuple (nD ws)), .dat d] B = some (.dat (.bool (judL w ws d)), B) := by
  have e1 := sp_index_row ws.length d hj hn B
  unfold judL
  cases hr : rowOf ws.length d with
  | none =>
    rw [hr] at e1
    simp only [k_dC, k_var_ap, k_varO_ap, k_varV_ap, k_op, k_op1, k_op2, k_fin, k_tst, k_t1, k_t2, k_tF, k_opB, k_B, k_neg, k_neg1, k_andT, k_orT, k_notT, k_and1, k_and0, k_or1, k_or0, k_not1, k_tru, k_tru1, k_andV, k_orV, k_notV, k_andV1, k_andV0, k_orV1, k_orV0, k_notV1, k_if, k_if1, k_if0, k_ifD, k_nil, k_cons, k_cons1, k_cons2, k_nilA, k_consA, k_consA1, k_consA2, k_V, k_V1, k_F, k_F1, k_tup, k_tup1, k_lst, k_lst1, k_cl, k_cl1, k_clL, k_clL1, k_finL, k_isi, k_isi1, k_fn, k_fn1, k_dat, k_fnV, k_fnV1, k_seqI, k_seqI1, k_seqI2, k_rng1, k_rng1', k_rng2, k_rng2a, k_rng2b, k_enum, k_enum1, k_zip, k_zip1, k_zip2, k_P, k_P1, k_noP, k_sl, k_sl1, k_sl2, k_sl3, k_cmp, k_cmp1, k_yes, k_seq, k_seq1, k_seq2, k_seq3, k_seq4, k_next, k_brk, k_cont, k_retN, k_asg, k_asg1, k_asgV, k_asgV1, k_asgV2, k_asgV3, k_asgO, k_asgO1, k_asgG, k_asgG1, k_nx, k_gN, k_gT, k_gC, k_g1, k_g0, k_par, k_par1, k_par2, k_drop, k_drop1, k_ret, k_ret1, k_retV, k_retV1, k_ifS, k_ifS1, k_ifS0, k_ifSD, k_fz_ap, k_app, k_app1, k_for, k_for1, k_aug1, k_fun1, k_fun2, k_idx, k_idx1, k_idx2, k_lenC, k_lenC1, k_popC, k_bset, k_getC, k_getC1, k_getC2, k_at0, k_at1, k_at2, k_bg1, k_bg2, k_bs1, k_bs2, k_bc, k_pop1, k_chn, k_chn1, k_chn2, k_chn3t, k_chn3f, k_chn4, k_tfo, k_chnB, k_chB, k_rev, k_rev1, k_revL, k_revL1, k_rg1, k_rg1', k_tupRg, k_tupRg1, k_lstRg, k_lstRg1, k_srt, k_srt1, k_parLE, k_parLE1, k_parLE2, k_augA, k_augA1, sz0, sz1, sz2, sz3, sz4, sz5, sz6, k_fun, eqI, neI, addI, subI, ltI, leI, gtI, geI, truD, isTy, tyName, pyLen, pyAbs, pyMin2, pyMax2, pyInt, pyTuple, pyList, pyIx, pyIs, pyIsNot, isNon, nown, wipeD, Option.map_some, List.getElem?_cons_zero, List.getElem?_cons_succ, List.set_cons_zero, List.set_cons_succ, List.map_cons, List.map_nil, List.cons_append, List.nil_append, List.length_cons, List.length_nil, List.all_cons, List.all_nil, List.replicate_succ, List.replicate_zero, Bool.and_true, Bool.true_and, Bool.and_self, Bool.not_true, Bool.not_false, and_self, and_true, true_and, if_true, if_false, reduceIte, reduceCtorEq, decide_true, decide_false, Bool.false_eq_true, Nat.reduceAdd, Nat.reduceEqDiff, d_is_laying, b_is_laying, nD_len, e1, Option.isSome_none]
  | some v =>
    rw [hr] at e1
    obtain ⟨rfl, h1, h2⟩ := rowOf_is hr
    have hl := (jk_tuple hj).1
    rw [nD_len] at hl
    have e2 := sp_rows_by ws v ⟨h1, h2⟩ hl B
    unfold layB
    cases hw : ws.isEmpty with
    | true => simp only [k_dC, k_var_ap, k_varO_ap, k_varV_ap, k_op, k_op1, k_op2, k_fin, k_tst, k_t1, k_t2, k_tF, k_opB, k_B, k_neg, k_neg1, k_andT, k_orT, k_notT, k_and1, k_and0, k_or1, k_or0, k_not1, k_tru, k_tru1, k_andV, k_orV, k_notV, k_andV1, k_andV0, k_orV1, k_orV0, k_notV1, k_if, k_if1, k_if0, k_ifD, k_nil, k_cons, k_cons1, k_cons2, k_nilA, k_consA, k_consA1, k_consA2, k_V, k_V1, k_F, k_F1, k_tup, k_tup1, k_lst, k_lst1, k_cl, k_cl1, k_clL, k_clL1, k_finL, k_isi, k_isi1, k_fn, k_fn1, k_dat, k_fnV, k_fnV1, k_seqI, k_seqI1, k_seqI2, k_rng1, k_rng1', k_rng2, k_rng2a, k_rng2b, k_enum, k_enum1, k_zip, k_zip1, k_zip2, k_P, k_P1, k_noP, k_sl, k_sl1, k_sl2, k_sl3, k_cmp, k_cmp1, k_yes, k_seq, k_seq1, k_seq2, k_seq3, k_seq4, k_next, k_brk, k_cont, k_retN, k_asg, k_asg1, k_asgV, k_asgV1, k_asgV2, k_asgV3, k_asgO, k_asgO1, k_asgG, k_asgG1, k_nx, k_gN, k_gT, k_gC, k_g1, k_g0, k_par, k_par1, k_par2, k_drop, k_drop1, k_ret, k_ret1, k_retV, k_retV1, k_ifS, k_ifS1, k_ifS0, k_ifSD, k_fz_ap, k_app, k_app1, k_for, k_for1, k_aug1, k_fun1, k_fun2, k_idx, k_idx1, k_idx2, k_lenC, k_lenC1, k_popC, k_bset, k_getC, k_getC1, k_getC2, k_bg1, k_bg2, k_bs1, k_bs2, k_bc, k_pop1, k_chn, k_chn1, k_chn2, k_chn3t, k_chn3f, k_chn4, k_tfo, k_chnB, k_chB, k_rev, k_rev1, k_revL, k_revL1, k_rg1, k_rg1', k_tupRg, k_tupRg1, k_lstRg, k_lstRg1, k_srt, k_srt1, k_parLE, k_parLE1, k_parLE2, k_augA, k_augA1, sz0, sz1, sz2, sz3, sz4, sz5, sz6, k_fun, eqI, neI, addI, subI, ltI, leI, gtI, geI, truD, isTy, tyName, pyLen, pyAbs, pyMin2, pyMax2, pyInt, pyTuple, pyList, pyIs, pyIsNot, isNon, nown, wipeD, Option.map_some, List.getElem?_cons_zero, List.getElem?_cons_succ, List.set_cons_zero, List.set_cons_succ, List.map_cons, List.map_nil, List.cons_append, List.nil_append, List.length_cons, List.length_nil, List.all_cons, List.all_nil, List.replicate_succ, List.replicate_zero, Bool.and_true, Bool.true_and, Bool.and_self, Bool.not_true, Bool.not_false, and_self, and_true, true_and, if_true, if_false, reduceIte, reduceCtorEq, decide_true, decide_false, Bool.false_eq_true, Nat.reduceAdd, Nat.reduceEqDiff, d_is_laying, b_is_laying, nD_len, e1, Option.isSome_some, eqTE, hw, sz0]
    | false =>
      cases hv : v.isEmpty with
      | true => simp only [k_dC, k_var_ap, k_varO_ap, k_varV_ap, k_op, k_op1, k_op2, k_fin, k_tst, k_t1, k_t2, k_tF, k_opB, k_B, k_neg, k_neg1, k_andT, k_orT, k_notT, k_and1, k_and0, k_or1, k_or0, k_not1, k_tru, k_tru1, k_andV, k_orV, k_notV, k_andV1, k_andV0, k_orV1, k_orV0, k_notV1, k_if, k_if1, k_if0, k_ifD, k_nil, k_cons, k_cons1, k_cons2, k_nilA, k_consA, k_consA1, k_consA2, k_V, k_V1, k_F, k_F1, k_tup, k_tup1, k_lst, k_lst1, k_cl, k_cl1, k_clL, k_clL1, k_finL, k_isi, k_isi1, k_fn, k_fn1, k_dat, k_fnV, k_fnV1, k_seqI, k_seqI1, k_seqI2, k_rng1, k_rng1', k_rng2, k_rng2a, k_rng2b, k_enum, k_enum1, k_zip, k_zip1, k_zip2, k_P, k_P1, k_noP, k_sl, k_sl1, k_sl2, k_sl3, k_cmp, k_cmp1, k_yes, k_seq, k_seq1, k_seq2, k_seq3, k_seq4, k_next, k_brk, k_cont, k_retN, k_asg, k_asg1, k_asgV, k_asgV1, k_asgV2, k_asgV3, k_asgO, k_asgO1, k_asgG, k_asgG1, k_nx, k_gN, k_gT, k_gC, k_g1, k_g0, k_par, k_par1, k_par2, k_drop, k_drop1, k_ret, k_ret1, k_retV, k_retV1, k_ifS, k_ifS1, k_ifS0, k_ifSD, k_fz_ap, k_app, k_app1, k_for, k_for1, k_aug1, k_fun1, k_fun2, k_idx, k_idx1, k_idx2, k_lenC, k_lenC1, k_popC, k_bset, k_getC, k_getC1, k_getC2, k_bg1, k_bg2, k_bs1, k_bs2, k_bc, k_pop1, k_chn, k_chn1, k_chn2, k_chn3t, k_chn3f, k_chn4, k_tfo, k_chnB, k_chB, k_rev, k_rev1, k_revL, k_revL1, k_rg1, k_rg1', k_tupRg, k_tupRg1, k_lstRg, k_lstRg1, k_srt, k_srt1, k_parLE, k_parLE1, k_parLE2, k_augA, k_augA1, sz0, sz1, sz2, sz3, sz4, sz5, sz6, k_fun, eqI, neI, addI, subI, ltI, leI, gtI, geI, truD, isTy, tyName, pyLen, pyAbs, pyMin2, pyMax2, pyInt, pyTuple, pyList, pyIs, pyIsNot, isNon, nown, wipeD, Option.map_some, List.getElem?_cons_zero, List.getElem?_cons_succ, List.set_cons_zero, List.set_cons_succ, List.map_cons, List.map_nil, List.cons_append, List.nil_append, List.length_cons, List.length_nil, List.all_cons, List.all_nil, List.replicate_succ, List.replicate_zero, Bool.and_true, Bool.true_and, Bool.and_self, Bool.not_true, Bool.not_false, and_self, and_true, true_and, if_true, if_false, reduceIte, reduceCtorEq, decide_true, decide_false, Bool.false_eq_true, Nat.reduceAdd, Nat.reduceEqDiff, d_is_laying, b_is_laying, nD_len, e1, Option.isSome_some, eqTE, neTE, hw, hv, sz0, Bool.false_and]
      | false =>
        have e3 := ix0 hv
        have e4 := cast_zero (v.getD 0 0)
        have e5 : pyMax1 [.list (nD (traysW ws v))] = some (.int (mx (traysW ws v) : Nat)) := by
          have := trays_len ws v
          cases ht : traysW ws v with
          | nil =>
            rw [ht] at this
            rw [List.eq_nil_of_length_eq_zero this.symm] at hv
            cases hv
          | cons x r => exact (max1_nD x r).1
        by_cases hz : v.getD 0 0 = 0
        · have hz' := eq_true hz
          simp only [k_dC, k_var_ap, k_varO_ap, k_varV_ap, k_op, k_op1, k_op2, k_fin, k_tst, k_t1, k_t2, k_tF, k_opB, k_B, k_neg, k_neg1, k_andT, k_orT, k_notT, k_and1, k_and0, k_or1, k_or0, k_not1, k_tru, k_tru1, k_andV, k_orV, k_notV, k_andV1, k_andV0, k_orV1, k_orV0, k_notV1, k_if, k_if1, k_if0, k_ifD, k_nil, k_cons, k_cons1, k_cons2, k_nilA, k_consA, k_consA1, k_consA2, k_V, k_V1, k_F, k_F1, k_tup, k_tup1, k_lst, k_lst1, k_cl, k_cl1, k_clL, k_clL1, k_finL, k_isi, k_isi1, k_fn, k_fn1, k_dat, k_fnV, k_fnV1, k_seqI, k_seqI1, k_seqI2, k_rng1, k_rng1', k_rng2, k_rng2a, k_rng2b, k_enum, k_enum1, k_zip, k_zip1, k_zip2, k_P, k_P1, k_noP, k_sl, k_sl1, k_sl2, k_sl3, k_cmp, k_cmp1, k_yes, k_seq, k_seq1, k_seq2, k_seq3, k_seq4, k_next, k_brk, k_cont, k_retN, k_asg, k_asg1, k_asgV, k_asgV1, k_asgV2, k_asgV3, k_asgO, k_asgO1, k_asgG, k_asgG1, k_nx, k_gN, k_gT, k_gC, k_g1, k_g0, k_par, k_par1, k_par2, k_drop, k_drop1, k_ret, k_ret1, k_retV, k_retV1, k_ifS, k_ifS1, k_ifS0, k_ifSD, k_fz_ap, k_app, k_app1, k_for, k_for1, k_aug1, k_fun1, k_fun2, k_idx, k_idx1, k_idx2, k_lenC, k_lenC1, k_popC, k_bset, k_getC, k_getC1, k_getC2, k_bg1, k_bg2, k_bs1, k_bs2, k_bc, k_pop1, k_chn, k_chn1, k_chn2, k_chn3t, k_chn3f, k_chn4, k_tfo, k_chnB, k_chB, k_rev, k_rev1, k_revL, k_revL1, k_rg1, k_rg1', k_tupRg, k_tupRg1, k_lstRg, k_lstRg1, k_srt, k_srt1, k_parLE, k_parLE1, k_parLE2, k_augA, k_augA1, sz0, sz1, sz2, sz3, sz4, sz5, sz6, k_fun, eqI, neI, addI, subI, ltI, leI, gtI, geI, truD, isTy, tyName, pyLen, pyAbs, pyMin2, pyMax2, pyInt, pyTuple, pyList, pyIs, pyIsNot, isNon, nown, wipeD, Option.map_some, List.getElem?_cons_zero, List.getElem?_cons_succ, List.set_cons_zero, List.set_cons_succ, List.map_cons, List.map_nil, List.cons_append, List.nil_append, List.length_cons, List.length_nil, List.all_cons, List.all_nil, List.replicate_succ, List.replicate_zero, Bool.and_true, Bool.true_and, Bool.and_self, Bool.not_true, Bool.not_false, and_self, and_true, true_and, if_true, if_false, reduceIte, reduceCtorEq, decide_true, decide_false, Bool.false_eq_true, Nat.reduceAdd, Nat.reduceEqDiff, d_is_laying, b_is_laying, nD_len, e1, Option.isSome_some, eqTE, neTE, hw, hv, sz0, e3, e4, hz', e2, e5]
        · have hz' := eq_false hz
          simp only [k_dC, k_var_ap, k_varO_ap, k_varV_ap, k_op, k_op1, k_op2, k_fin, k_tst, k_t1, k_t2, k_tF, k_opB, k_B, k_neg, k_neg1, k_andT, k_orT, k_notT, k_and1, k_and0, k_or1, k_or0, k_not1, k_tru, k_tru1, k_andV, k_orV, k_notV, k_andV1, k_andV0, k_orV1, k_orV0, k_notV1, k_if, k_if1, k_if0, k_ifD, k_nil, k_cons, k_cons1, k_cons2, k_nilA, k_consA, k_consA1, k_consA2, k_V, k_V1, k_F, k_F1, k_tup, k_tup1, k_lst, k_lst1, k_cl, k_cl1, k_clL, k_clL1, k_finL, k_isi, k_isi1, k_fn, k_fn1, k_dat, k_fnV, k_fnV1, k_seqI, k_seqI1, k_seqI2, k_rng1, k_rng1', k_rng2, k_rng2a, k_rng2b, k_enum, k_enum1, k_zip, k_zip1, k_zip2, k_P, k_P1, k_noP, k_sl, k_sl1, k_sl2, k_sl3, k_cmp, k_cmp1, k_yes, k_seq, k_seq1, k_seq2, k_seq3, k_seq4, k_next, k_brk, k_cont, k_retN, k_asg, k_asg1, k_asgV, k_asgV1, k_asgV2, k_asgV3, k_asgO, k_asgO1, k_asgG, k_asgG1, k_nx, k_gN, k_gT, k_gC, k_g1, k_g0, k_par, k_par1, k_par2, k_drop, k_drop1, k_ret, k_ret1, k_retV, k_retV1, k_ifS, k_ifS1, k_ifS0, k_ifSD, k_fz_ap, k_app, k_app1, k_for, k_for1, k_aug1, k_fun1, k_fun2, k_idx, k_idx1, k_idx2, k_lenC, k_lenC1, k_popC, k_bset, k_getC, k_getC1, k_getC2, k_bg1, k_bg2, k_bs1, k_bs2, k_bc, k_pop1, k_chn, k_chn1, k_chn2, k_chn3t, k_chn3f, k_chn4, k_tfo, k_chnB, k_chB, k_rev, k_rev1, k_revL, k_revL1, k_rg1, k_rg1', k_tupRg, k_tupRg1, k_lstRg, k_lstRg1, k_srt, k_srt1, k_parLE, k_parLE1, k_parLE2, k_augA, k_augA1, sz0, sz1, sz2, sz3, sz4, sz5, sz6, k_fun, eqI, neI, addI, subI, ltI, leI, gtI, geI, truD, isTy, tyName, pyLen, pyAbs, pyMin2, pyMax2, pyInt, pyTuple, pyList, pyIs, pyIsNot, isNon, nown, wipeD, Option.map_some, List.getElem?_cons_zero, List.getElem?_cons_succ, List.set_cons_zero, List.set_cons_succ, List.map_cons, List.map_nil, List.cons_append, List.nil_append, List.length_cons, List.length_nil, List.all_cons, List.all_nil, List.replicate_succ, List.replicate_zero, Bool.and_true, Bool.true_and, Bool.and_self, Bool.not_true, Bool.not_false, and_self, and_true, true_and, if_true, if_false, reduceIte, reduceCtorEq, decide_true, decide_false, Bool.false_eq_true, Nat.reduceAdd, Nat.reduceEqDiff, d_is_laying, b_is_laying, nD_len, e1, Option.isSome_some, eqTE, neTE, hw, hv, sz0, e3, e4, hz', e2, e5, Bool.false_and]
theorem cm_stops (w : Int) (ws v : List Nat) (hr : RowOk ws v) (sl : Sl) (h0 : sl = [some (.dat (.int w)), some (.dat (.tuple (nD ws))), some (.dat (.tuple (nD v))), none]) (B : Bx) :
    cmpGo (gN 3) dYes (dOpB pyGt (dCl pySumA (dCons (dSl pySl (dVarO 1) (dPart (dOp pyIx (dVarO 2) (dVarO 3))) (dPart (dOp pyAdd (dOp pyIx (dVarO 2) (dOp pyAdd (dVarO 3) (dC (.int 1)))) (dC (.int 1))))) dNil)) (dVarO 0)) sl (rngD 0 (v.length - 1)) B = some ((rngD 0 (v.length - 1)).map fun x => .bool (match x with | .int k => decide (w < ((P ws (v.getD (k.toNat + 1) 0 + 1) - P ws (v.getD k.toNat 0) : Nat) : Int)) | _ => false), B) := by
  subst h0
  refine cmpGo_map _ _ fun x hx => ?_
  obtain ⟨i, hi, rfl⟩ := rngD_mem hx
  refine ⟨_, k_gN, ?_⟩
  have h1 := ixT (nD_at (xs := v) (i := i) (by omega))
  have h2 := ixT (nD_at (xs := v) (i := i + 1) (by omega))
  have hup := (asc_iff v).mp hr.1 i (by omega)
  rw [show ((i + 1 : Nat) : Int) = (i : Int) + 1 from rfl] at h2
  obtain ⟨h3, h4⟩ := sl_sum ws (v.getD i 0) (v.getD (i + 1) 0 + 1) (by omega)
  rw [show ((v.getD (i + 1) 0 + 1 : Nat) : Int) = ((v.getD (i + 1) 0 : Nat) : Int) + 1 from rfl] at h3
  simp only [k_dC, k_var_ap, k_varO_ap, k_varV_ap, k_op, k_op1, k_op2, k_fin, k_tst, k_t1, k_t2, k_tF, k_opB, k_B, k_neg, k_neg1, k_andT, k_orT, k_notT, k_and1, k_and0, k_or1, k_or0, k_not1, k_tru, k_tru1, k_andV, k_orV, k_notV, k_andV1, k_andV0, k_orV1, k_orV0, k_notV1, k_if, k_if1, k_if0, k_ifD, k_nil, k_cons, k_cons1, k_cons2, k_nilA, k_consA, k_consA1, k_consA2, k_V, k_V1, k_F, k_F1, k_tup, k_tup1, k_lst, k_lst1, k_cl, k_cl1, k_clL, k_clL1, k_finL, k_isi, k_isi1, k_fn, k_fn1, k_dat, k_fnV, k_fnV1, k_seqI, k_seqI1, k_seqI2, k_rng1, k_rng1', k_rng2, k_rng2a, k_rng2b, k_enum, k_enum1, k_zip, k_zip1, k_zip2, k_P, k_P1, k_noP, k_sl, k_sl1, k_sl2, k_sl3, k_cmp, k_cmp1, k_yes, k_seq, k_seq1, k_seq2, k_seq3, k_seq4, k_next, k_brk, k_cont, k_retN, k_asg, k_asg1, k_asgV, k_asgV1, k_asgV2, k_asgV3, k_asgO, k_asgO1, k_asgG, k_asgG1, k_nx, k_gN, k_gT, k_gC, k_g1, k_g0, k_par, k_par1, k_par2, k_drop, k_drop1, k_ret, k_ret1, k_retV, k_retV1, k_ifS, k_ifS1, k_ifS0, k_ifSD, k_fz_ap, k_app, k_app1, k_for, k_for1, k_aug1, k_fun1, k_fun2, k_idx, k_idx1, k_idx2, k_lenC, k_lenC1, k_popC, k_bset, k_getC, k_getC1, k_getC2, k_bg1, k_bg2, k_bs1, k_bs2, k_bc, k_pop1, k_chn, k_chn1, k_chn2, k_chn3t, k_chn3f, k_chn4, k_tfo, k_chnB, k_chB, k_rev, k_rev1, k_revL, k_revL1, k_rg1, k_rg1', k_tupRg, k_tupRg1, k_lstRg, k_lstRg1, k_srt, k_srt1, k_parLE, k_parLE1, k_parLE2, k_augA, k_augA1, sz0, sz1, sz2, sz3, sz4, sz5, sz6, k_fun, eqI, neI, addI, subI, ltI, leI, gtI, geI, truD, isTy, tyName, pyLen, pyAbs, pyMin2, pyMax2, pyInt, pyTuple, pyList, pyIs, pyIsNot, isNon, nown, wipeD, Option.map_some, List.getElem?_cons_zero, List.getElem?_cons_succ, List.set_cons_zero, List.set_cons_succ, List.map_cons, List.map_nil, List.cons_append, List.nil_append, List.length_cons, List.length_nil, List.all_cons, List.all_nil, List.replicate_succ, List.replicate_zero, Bool.and_true, Bool.true_and, Bool.and_self, Bool.not_true, Bool.not_false, and_self, and_true, true_and, if_true, if_false, reduceIte, reduceCtorEq, decide_true, decide_false, Bool.false_eq_true, Nat.reduceAdd, Nat.reduceEqDiff, Int.zero_add, h1, h2, h3, h4, Int.toNat_natCast]
theorem sp_law_are_stops (w : Int) (ws : List Nat) (d : PyData) (hj : jk d = true) (hn : ws.length < 1000) (B : Bx) : d_law_are_stops [.dat (.int w), .dat (.tuple (nD ws)), .dat d] B = some (.dat (.bool (judS w ws d)), B) := by
  have e1 := sp_law_is_row ws.length d hj hn B
  unfold judS
  cases hr : rowOf ws.length d with
  | none =>
    rw [hr] at e1
    simp only [k_dC, k_var_ap, k_varO_ap, k_varV_ap, k_op, k_op1, k_op2, k_fin, k_tst, k_t1, k_t2, k_tF, k_opB, k_B, k_neg, k_neg1, k_andT, k_orT, k_notT, k_and1, k_and0, k_or1, k_or0, k_not1, k_tru, k_tru1, k_andV, k_orV, k_notV, k_andV1, k_andV0, k_orV1, k_orV0, k_notV1, k_if, k_if1, k_if0, k_ifD, k_nil, k_cons, k_cons1, k_cons2, k_nilA, k_consA, k_consA1, k_consA2, k_V, k_V1, k_F, k_F1, k_tup, k_tup1, k_lst, k_lst1, k_cl, k_cl1, k_clL, k_clL1, k_finL, k_isi, k_isi1, k_fn, k_fn1, k_dat, k_fnV, k_fnV1, k_seqI, k_seqI1, k_seqI2, k_rng1, k_rng1', k_rng2, k_rng2a, k_rng2b, k_enum, k_enum1, k_zip, k_zip1, k_zip2, k_P, k_P1, k_noP, k_sl, k_sl1, k_sl2, k_sl3, k_cmp, k_cmp1, k_yes, k_seq, k_seq1, k_seq2, k_seq3, k_seq4, k_next, k_brk, k_cont, k_retN, k_asg, k_asg1, k_asgV, k_asgV1, k_asgV2, k_asgV3, k_asgO, k_asgO1, k_asgG, k_asgG1, k_nx, k_gN, k_gT, k_gC, k_g1, k_g0, k_par, k_par1, k_par2, k_drop, k_drop1, k_ret, k_ret1, k_retV, k_retV1, k_ifS, k_ifS1, k_ifS0, k_ifSD, k_fz_ap, k_app, k_app1, k_for, k_for1, k_aug1, k_fun1, k_fun2, k_idx, k_idx1, k_idx2, k_lenC, k_lenC1, k_popC, k_bset, k_getC, k_getC1, k_getC2, k_at0, k_at1, k_at2, k_bg1, k_bg2, k_bs1, k_bs2, k_bc, k_pop1, k_chn, k_chn1, k_chn2, k_chn3t, k_chn3f, k_chn4, k_tfo, k_chnB, k_chB, k_rev, k_rev1, k_revL, k_revL1, k_rg1, k_rg1', k_tupRg, k_tupRg1, k_lstRg, k_lstRg1, k_srt, k_srt1, k_parLE, k_parLE1, k_parLE2, k_augA, k_augA1, sz0, sz1, sz2, sz3, sz4, sz5, sz6, k_fun, eqI, neI, addI, subI, ltI, leI, gtI, geI, truD, isTy, tyName, pyLen, pyAbs, pyMin2, pyMax2, pyInt, pyTuple, pyList, pyIx, pyIs, pyIsNot, isNon, nown, wipeD, Option.map_some, List.getElem?_cons_zero, List.getElem?_cons_succ, List.set_cons_zero, List.set_cons_succ, List.map_cons, List.map_nil, List.cons_append, List.nil_append, List.length_cons, List.length_nil, List.all_cons, List.all_nil, List.replicate_succ, List.replicate_zero, Bool.and_true, Bool.true_and, Bool.and_self, Bool.not_true, Bool.not_false, and_self, and_true, true_and, if_true, if_false, reduceIte, reduceCtorEq, decide_true, decide_false, Bool.false_eq_true, Nat.reduceAdd, Nat.reduceEqDiff, d_law_are_stops, b_law_are_stops, nD_len, e1, Option.isSome_none]
  | some v =>
    rw [hr] at e1
    obtain ⟨rfl, h1, h2⟩ := rowOf_is hr
    have hl := (jk_tuple hj).1
    rw [nD_len] at hl
    have e2 := cm_stops w ws v ⟨h1, h2⟩ _ rfl B
    have ha := all_bools (fun x : PyData => match x with | .int k => decide (w < ((P ws (v.getD (k.toNat + 1) 0 + 1) - P ws (v.getD k.toNat 0) : Nat) : Int)) | _ => false) (rngD 0 (v.length - 1))
    rw [show ((rngD 0 (v.length - 1)).all fun x : PyData => match x with | .int k => decide (w < ((P ws (v.getD (k.toNat + 1) 0 + 1) - P ws (v.getD k.toNat 0) : Nat) : Int)) | _ => false) = stopB w ws v from rfl] at ha
    have hr1 : ((v.length : Int) - 1).toNat = v.length - 1 := by omega
    have r1 := rng_okI (i := (v.length : Int) - 1) (by omega) (by omega)
    have r2 : (v.length - 1 < sizeLine) = True := eq_true (szlt (by omega))
    simp only [k_dC, k_var_ap, k_varO_ap, k_varV_ap, k_op, k_op1, k_op2, k_fin, k_tst, k_t1, k_t2, k_tF, k_opB, k_B, k_neg, k_neg1, k_andT, k_orT, k_notT, k_and1, k_and0, k_or1, k_or0, k_not1, k_tru, k_tru1, k_andV, k_orV, k_notV, k_andV1, k_andV0, k_orV1, k_orV0, k_notV1, k_if, k_if1, k_if0, k_ifD, k_nil, k_cons, k_cons1, k_cons2, k_nilA, k_consA, k_consA1, k_consA2, k_V, k_V1, k_F, k_F1, k_tup, k_tup1, k_lst, k_lst1, k_cl, k_cl1, k_clL, k_clL1, k_finL, k_isi, k_isi1, k_fn, k_fn1, k_dat, k_fnV, k_fnV1, k_seqI, k_seqI1, k_seqI2, k_rng1, k_rng1', k_rng2, k_rng2a, k_rng2b, k_enum, k_enum1, k_zip, k_zip1, k_zip2, k_P, k_P1, k_noP, k_sl, k_sl1, k_sl2, k_sl3, k_cmp, k_cmp1, k_yes, k_seq, k_seq1, k_seq2, k_seq3, k_seq4, k_next, k_brk, k_cont, k_retN, k_asg, k_asg1, k_asgV, k_asgV1, k_asgV2, k_asgV3, k_asgO, k_asgO1, k_asgG, k_asgG1, k_nx, k_gN, k_gT, k_gC, k_g1, k_g0, k_par, k_par1, k_par2, k_drop, k_drop1, k_ret, k_ret1, k_retV, k_retV1, k_ifS, k_ifS1, k_ifS0, k_ifSD, k_fz_ap, k_app, k_app1, k_for, k_for1, k_aug1, k_fun1, k_fun2, k_idx, k_idx1, k_idx2, k_lenC, k_lenC1, k_popC, k_bset, k_getC, k_getC1, k_getC2, k_at0, k_at1, k_at2, k_bg1, k_bg2, k_bs1, k_bs2, k_bc, k_pop1, k_chn, k_chn1, k_chn2, k_chn3t, k_chn3f, k_chn4, k_tfo, k_chnB, k_chB, k_rev, k_rev1, k_revL, k_revL1, k_rg1, k_rg1', k_tupRg, k_tupRg1, k_lstRg, k_lstRg1, k_srt, k_srt1, k_parLE, k_parLE1, k_parLE2, k_augA, k_augA1, sz0, sz1, sz2, sz3, sz4, sz5, sz6, k_fun, eqI, neI, addI, subI, ltI, leI, gtI, geI, truD, isTy, tyName, pyLen, pyAbs, pyMin2, pyMax2, pyInt, pyTuple, pyList, pyIx, pyIs, pyIsNot, isNon, nown, wipeD, Option.map_some, List.getElem?_cons_zero, List.getElem?_cons_succ, List.set_cons_zero, List.set_cons_succ, List.map_cons, List.map_nil, List.cons_append, List.nil_append, List.length_cons, List.length_nil, List.all_cons, List.all_nil, List.replicate_succ, List.replicate_zero, Bool.and_true, Bool.true_and, Bool.and_self, Bool.not_true, Bool.not_false, and_self, and_true, true_and, if_true, if_false, reduceIte, reduceCtorEq, decide_true, decide_false, Bool.false_eq_true, Nat.reduceAdd, Nat.reduceEqDiff, d_law_are_stops, b_law_are_stops, nD_len, e1, Option.isSome_some, r1, hr1, rngD_length, r2, e2, ha]
theorem sp_are_stops (w : Int) (ws : List Nat) (d : PyData) (hj : jk d = true) (hn : ws.length < 1000) (B : Bx) : d_are_stops [.dat (.int w), .dat (.tuple (nD ws)), .dat d] B = some (.dat (.bool (judS w ws d)), B) := by
  have e1 := sp_index_row ws.length d hj hn B
  unfold judS
  cases hr : rowOf ws.length d with
  | none =>
    rw [hr] at e1
    simp only [k_dC, k_var_ap, k_varO_ap, k_varV_ap, k_op, k_op1, k_op2, k_fin, k_tst, k_t1, k_t2, k_tF, k_opB, k_B, k_neg, k_neg1, k_andT, k_orT, k_notT, k_and1, k_and0, k_or1, k_or0, k_not1, k_tru, k_tru1, k_andV, k_orV, k_notV, k_andV1, k_andV0, k_orV1, k_orV0, k_notV1, k_if, k_if1, k_if0, k_ifD, k_nil, k_cons, k_cons1, k_cons2, k_nilA, k_consA, k_consA1, k_consA2, k_V, k_V1, k_F, k_F1, k_tup, k_tup1, k_lst, k_lst1, k_cl, k_cl1, k_clL, k_clL1, k_finL, k_isi, k_isi1, k_fn, k_fn1, k_dat, k_fnV, k_fnV1, k_seqI, k_seqI1, k_seqI2, k_rng1, k_rng1', k_rng2, k_rng2a, k_rng2b, k_enum, k_enum1, k_zip, k_zip1, k_zip2, k_P, k_P1, k_noP, k_sl, k_sl1, k_sl2, k_sl3, k_cmp, k_cmp1, k_yes, k_seq, k_seq1, k_seq2, k_seq3, k_seq4, k_next, k_brk, k_cont, k_retN, k_asg, k_asg1, k_asgV, k_asgV1, k_asgV2, k_asgV3, k_asgO, k_asgO1, k_asgG, k_asgG1, k_nx, k_gN, k_gT, k_gC, k_g1, k_g0, k_par, k_par1, k_par2, k_drop, k_drop1, k_ret, k_ret1, k_retV, k_retV1, k_ifS, k_ifS1, k_ifS0, k_ifSD, k_fz_ap, k_app, k_app1, k_for, k_for1, k_aug1, k_fun1, k_fun2, k_idx, k_idx1, k_idx2, k_lenC, k_lenC1, k_popC, k_bset, k_getC, k_getC1, k_getC2, k_at0, k_at1, k_at2, k_bg1, k_bg2, k_bs1, k_bs2, k_bc, k_pop1, k_chn, k_chn1, k_chn2, k_chn3t, k_chn3f, k_chn4, k_tfo, k_chnB, k_chB, k_rev, k_rev1, k_revL, k_revL1, k_rg1, k_rg1', k_tupRg, k_tupRg1, k_lstRg, k_lstRg1, k_srt, k_srt1, k_parLE, k_parLE1, k_parLE2, k_augA, k_augA1, sz0, sz1, sz2, sz3, sz4, sz5, sz6, k_fun, eqI, neI, addI, subI, ltI, leI, gtI, geI, truD, isTy, tyName, pyLen, pyAbs, pyMin2, pyMax2, pyInt, pyTuple, pyList, pyIx, pyIs, pyIsNot, isNon, nown, wipeD, Option.map_some, List.getElem?_cons_zero, List.getElem?_cons_succ, List.set_cons_zero, List.set_cons_succ, List.map_cons, List.map_nil, List.cons_append, List.nil_append, List.length_cons, List.length_nil, List.all_cons, List.all_nil, List.replicate_succ, List.replicate_zero, Bool.and_true, Bool.true_and, Bool.and_self, Bool.not_true, Bool.not_false, and_self, and_true, true_and, if_true, if_false, reduceIte, reduceCtorEq, decide_true, decide_false, Bool.false_eq_true, Nat.reduceAdd, Nat.reduceEqDiff, d_are_stops, b_are_stops, nD_len, e1, Option.isSome_none]
  | some v =>
    rw [hr] at e1
    obtain ⟨rfl, h1, h2⟩ := rowOf_is hr
    have hl := (jk_tuple hj).1
    rw [nD_len] at hl
    have e2 := cm_stops w ws v ⟨h1, h2⟩ _ rfl B
    have ha := all_bools (fun x : PyData => match x with | .int k => decide (w < ((P ws (v.getD (k.toNat + 1) 0 + 1) - P ws (v.getD k.toNat 0) : Nat) : Int)) | _ => false) (rngD 0 (v.length - 1))
    rw [show ((rngD 0 (v.length - 1)).all fun x : PyData => match x with | .int k => decide (w < ((P ws (v.getD (k.toNat + 1) 0 + 1) - P ws (v.getD k.toNat 0) : Nat) : Int)) | _ => false) = stopB w ws v from rfl] at ha
    have hr1 : ((v.length : Int) - 1).toNat = v.length - 1 := by omega
    have r1 := rng_okI (i := (v.length : Int) - 1) (by omega) (by omega)
    have r2 : (v.length - 1 < sizeLine) = True := eq_true (szlt (by omega))
    simp only [k_dC, k_var_ap, k_varO_ap, k_varV_ap, k_op, k_op1, k_op2, k_fin, k_tst, k_t1, k_t2, k_tF, k_opB, k_B, k_neg, k_neg1, k_andT, k_orT, k_notT, k_and1, k_and0, k_or1, k_or0, k_not1, k_tru, k_tru1, k_andV, k_orV, k_notV, k_andV1, k_andV0, k_orV1, k_orV0, k_notV1, k_if, k_if1, k_if0, k_ifD, k_nil, k_cons, k_cons1, k_cons2, k_nilA, k_consA, k_consA1, k_consA2, k_V, k_V1, k_F, k_F1, k_tup, k_tup1, k_lst, k_lst1, k_cl, k_cl1, k_clL, k_clL1, k_finL, k_isi, k_isi1, k_fn, k_fn1, k_dat, k_fnV, k_fnV1, k_seqI, k_seqI1, k_seqI2, k_rng1, k_rng1', k_rng2, k_rng2a, k_rng2b, k_enum, k_enum1, k_zip, k_zip1, k_zip2, k_P, k_P1, k_noP, k_sl, k_sl1, k_sl2, k_sl3, k_cmp, k_cmp1, k_yes, k_seq, k_seq1, k_seq2, k_seq3, k_seq4, k_next, k_brk, k_cont, k_retN, k_asg, k_asg1, k_asgV, k_asgV1, k_asgV2, k_asgV3, k_asgO, k_asgO1, k_asgG, k_asgG1, k_nx, k_gN, k_gT, k_gC, k_g1, k_g0, k_par, k_par1, k_par2, k_drop, k_drop1, k_ret, k_ret1, k_retV, k_retV1, k_ifS, k_ifS1, k_ifS0, k_ifSD, k_fz_ap, k_app, k_app1, k_for, k_for1, k_aug1, k_fun1, k_fun2, k_idx, k_idx1, k_idx2, k_lenC, k_lenC1, k_popC, k_bset, k_getC, k_getC1, k_getC2, k_at0, k_at1, k_at2, k_bg1, k_bg2, k_bs1, k_bs2, k_bc, k_pop1, k_chn, k_chn1, k_chn2, k_chn3t, k_chn3f, k_chn4, k_tfo, k_chnB, k_chB, k_rev, k_rev1, k_revL, k_revL1, k_rg1, k_rg1', k_tupRg, k_tupRg1, k_lstRg, k_lstRg1, k_srt, k_srt1, k_parLE, k_parLE1, k_parLE2, k_augA, k_augA1, sz0, sz1, sz2, sz3, sz4, sz5, sz6, k_fun, eqI, neI, addI, subI, ltI, leI, gtI, geI, truD, isTy, tyName, pyLen, pyAbs, pyMin2, pyMax2, pyInt, pyTuple, pyList, pyIx, pyIs, pyIsNot, isNon, nown, wipeD, Option.map_some, List.getElem?_cons_zero, List.getElem?_cons_succ, List.set_cons_zero, List.set_cons_succ, List.map_cons, List.map_nil, List.cons_append, List.nil_append, List.length_cons, List.length_nil, List.all_cons, List.all_nil, List.replicate_succ, List.replicate_zero, Bool.and_true, Bool.true_and, Bool.and_self, Bool.not_true, Bool.not_false, and_self, and_true, true_and, if_true, if_false, reduceIte, reduceCtorEq, decide_true, decide_false, Bool.false_eq_true, Nat.reduceAdd, Nat.reduceEqDiff, d_are_stops, b_are_stops, nD_len, e1, Option.isSome_some, r1, hr1, rngD_length, r2, e2, ha]
end Dn

-- dk2
set_option Elab.async false
set_option linter.all false
set_option autoImplicit false
set_option maxRecDepth 100000
set_option maxHeartbeats 4000000
set_option exponentiation.threshold 100000
namespace Dn
open PySem Tr
theorem ix_in {L : List PyData} {r : Int} (h0 : 0 ≤ r) (h1 : r < (L.length : Int)) : ∃ y, pyIx (.list L) (.int r) = some y ∧ y ∈ L := by
  obtain ⟨n, rfl⟩ := Int.eq_ofNat_of_zero_le h0
  have hn : n < L.length := by omega
  refine ⟨L[n], ?_, List.getElem_mem hn⟩
  show L2.atI L (n : Int) = _
  exact at_nat hn
theorem ix_inT {L : List PyData} {r : Int} (h0 : 0 ≤ r) (h1 : r < (L.length : Int)) : ∃ y, pyIx (.tuple L) (.int r) = some y ∧ y ∈ L := by
  obtain ⟨n, rfl⟩ := Int.eq_ofNat_of_zero_le h0
  have hn : n < L.length := by omega
  refine ⟨L[n], ?_, List.getElem_mem hn⟩
  show L2.atI L (n : Int) = _
  exact at_nat hn
theorem addL {xs ys : List PyData} (h : xs.length + ys.length ≤ sizeLine) : pyAdd (.list xs) (.list ys) = some (.list (xs ++ ys)) := if_pos h
theorem addT {xs ys : List PyData} (h : xs.length + ys.length ≤ sizeLine) : pyAdd (.tuple xs) (.tuple ys) = some (.tuple (xs ++ ys)) := if_pos h
theorem slT {xs : List PyData} {lo hi : Option Int} : pySl (.tuple xs) lo hi = some (.tuple (cutD xs lo hi)) := id rfl
theorem cut_len (xs : List PyData) (lo hi : Option Int) : (cutD xs lo hi).length ≤ xs.length := by
  unfold cutD
  rw [List.length_take, List.length_drop]
  omega
theorem cut_mem {xs : List PyData} {lo hi : Option Int} {x : PyData} (h : x ∈ cutD xs lo hi) : x ∈ xs := List.mem_of_mem_drop (List.mem_of_mem_take h)
theorem jk_mk {xs : List PyData} (hl : xs.length ≤ 62) (h : ∀ x ∈ xs, jk x = true) : jk (.tuple xs) = true := by
  unfold jk
  rw [Bool.and_eq_true, decide_eq_true_eq]
  refine ⟨hl, ?_⟩
  clear hl
  induction xs with
  | nil => rfl
  | cons x r ih =>
    unfold jkAll
    rw [Bool.and_eq_true]
    exact ⟨h x List.mem_cons_self, ih fun y hy => h y (List.mem_cons_of_mem _ hy)⟩
theorem jk_nD (v : List Nat) : ∀ x ∈ nD v, jk x = true := fun x hx => by
  obtain ⟨n, _, rfl⟩ := List.mem_map.mp hx
  rfl
def rows0 : List PyData := [.none, .tuple [], .int 0, .int 1, .bool true, .bool false, .str (PySem.Str.ofString "a"), .int (-1), .tuple [.int 0], .tuple [.tuple [.int 0, .int 0]]]
theorem jk_rows0 : ∀ x ∈ rows0, jk x = true := by decide +kernel
theorem szn {n : Nat} (h : n ≤ 1000) : (n ≤ sizeLine) = True := eq_true (sz (by omega))
theorem jk_app {xs ys : List PyData} (h1 : ∀ x ∈ xs, jk x = true) (h2 : ∀ x ∈ ys, jk x = true) : ∀ x ∈ xs ++ ys, jk x = true := fun x hx => by
  rcases List.mem_append.mp hx with h | h
  · exact h1 x h
  · exact h2 x h
theorem sp_spoilt_int (n : Nat) (i : Int) (B : Bx) (hb : TI B) : ∃ d B', jk d = true ∧ TI B' ∧ d_law_spoilt (n + 1) [.box, .dat (.int i)] B = some (.dat d, B') := by
  obtain ⟨r, B1, b1, h1, h2, e1⟩ := sp_take 14 B hb (by decide) (by decide)
  have hL : (rows0 ++ [PyData.int (i + 1), .int (i - 1), .bool (decide (i = 1)), .int (i + 1)]).length = 14 := rfl
  obtain ⟨y, e2, hy⟩ := ix_in (L := rows0 ++ [PyData.int (i + 1), .int (i - 1), .bool (decide (i = 1)), .int (i + 1)]) h1 (by rw [hL]; omega)
  refine ⟨y, B1, jk_app jk_rows0 (fun x hx => by
    simp only [List.mem_cons, List.not_mem_nil, or_false] at hx
    rcases hx with rfl | rfl | rfl | rfl <;> rfl) y hy, b1, ?_⟩
  have q10 := szn (n := 10) (by decide)
  have q14 := szn (n := 14) (by decide)
  have el : pyAdd (.list rows0) (.list [.int (i + 1), .int (i - 1), .bool (decide (i = 1)), .int (i + 1)]) = some (.list (rows0 ++ [.int (i + 1), .int (i - 1), .bool (decide (i = 1)), .int (i + 1)])) := addL (of_eq_true q14)
  have e0 : ∀ sl B2, (dF (dLst (dCons (dC .none) (dCons (dTup dNil) (dCons (dC (.int 0)) (dCons (dC (.int 1)) (dCons (dC (.bool true)) (dCons (dC (.bool false)) (dCons (dC (.str (PySem.Str.ofString "a"))) (dCons (dNeg (dC (.int 1))) (dCons (dTup (dCons (dC (.int 0)) dNil)) (dCons (dTup (dCons (dTup (dCons (dC (.int 0)) (dCons (dC (.int 0)) dNil))) dNil)) dNil)))))))))))) sl B2 = some (.list rows0, B2) := fun sl B2 => by
    simp only [k_dC, k_var_ap, k_varO_ap, k_varV_ap, k_op, k_op1, k_op2, k_fin, k_tst, k_t1, k_t2, k_tF, k_opB, k_B, k_neg, k_neg1, k_andT, k_orT, k_notT, k_and1, k_and0, k_or1, k_or0, k_not1, k_tru, k_tru1, k_andV, k_orV, k_notV, k_andV1, k_andV0, k_orV1, k_orV0, k_notV1, k_if, k_if1, k_if0, k_ifD, k_nil, k_cons, k_cons1, k_cons2, k_nilA, k_consA, k_consA1, k_consA2, k_V, k_V1, k_F, k_F1, k_tup, k_tup1, k_lst, k_lst1, k_cl, k_cl1, k_clL, k_clL1, k_finL, k_isi, k_isi1, k_fn, k_fn1, k_dat, k_fnV, k_fnV1, k_seqI, k_seqI1, k_seqI2, k_rng1, k_rng1', k_rng2, k_rng2a, k_rng2b, k_enum, k_enum1, k_zip, k_zip1, k_zip2, k_P, k_P1, k_noP, k_sl, k_sl1, k_sl2, k_sl3, k_cmp, k_cmp1, k_yes, k_seq, k_seq1, k_seq2, k_seq3, k_seq4, k_next, k_brk, k_cont, k_retN, k_asg, k_asg1, k_asgV, k_asgV1, k_asgV2, k_asgV3, k_asgO, k_asgO1, k_asgG, k_asgG1, k_nx, k_gN, k_gT, k_gC, k_g1, k_g0, k_par, k_par1, k_par2, k_drop, k_drop1, k_ret, k_ret1, k_retV, k_retV1, k_ifS, k_ifS1, k_ifS0, k_ifSD, k_fz_ap, k_app, k_app1, k_for, k_for1, k_aug1, k_fun1, k_fun2, k_idx, k_idx1, k_idx2, k_lenC, k_lenC1, k_popC, k_bset, k_getC, k_getC1, k_getC2, k_at0, k_at1, k_at2, k_bg1, k_bg2, k_bs1, k_bs2, k_bc, k_pop1, k_chn, k_chn1, k_chn2, k_chn3t, k_chn3f, k_chn4, k_tfo, k_chnB, k_chB, k_rev, k_rev1, k_revL, k_revL1, k_rg1, k_rg1', k_tupRg, k_tupRg1, k_lstRg, k_lstRg1, k_srt, k_srt1, k_parLE, k_parLE1, k_parLE2, k_augA, k_augA1, sz0, sz1, sz2, sz3, sz4, sz5, sz6, k_fun, eqI, neI, addI, subI, ltI, leI, gtI, geI, truD, isTy, tyName, pyLen, pyAbs, pyMin2, pyMax2, pyInt, pyTuple, pyList, pyIx, pyIs, pyIsNot, isNon, nown, wipeD, Option.map_some, List.getElem?_cons_zero, List.getElem?_cons_succ, List.set_cons_zero, List.set_cons_succ, List.map_cons, List.map_nil, List.cons_append, List.nil_append, List.length_cons, List.length_nil, List.all_cons, List.all_nil, List.replicate_succ, List.replicate_zero, Bool.and_true, Bool.true_and, Bool.and_self, Bool.not_true, Bool.not_false, and_self, and_true, true_and, if_true, if_false, reduceIte, reduceCtorEq, decide_true, decide_false, Bool.false_eq_true, Nat.reduceAdd, Nat.reduceEqDiff, q10, rows0]
  have hn : ((rows0 ++ [PyData.int (i + 1), .int (i - 1), .bool (decide (i = 1)), .int (i + 1)]).length : Int) = 14 := by rw [hL]; rfl
  rw [d_law_spoilt, b_law_spoilt]
  generalize dF (dLst (dCons (dC .none) _)) = R0 at e0 ⊢
  have e2' : L2.atI (rows0 ++ [PyData.int (i + 1), .int (i - 1), .bool (decide (i = 1)), .int (i + 1)]) r = some y := e2
  simp only [k_dC, k_var_ap, k_varO_ap, k_varV_ap, k_op, k_op1, k_op2, k_fin, k_tst, k_t1, k_t2, k_tF, k_opB, k_B, k_neg, k_neg1, k_andT, k_orT, k_notT, k_and1, k_and0, k_or1, k_or0, k_not1, k_tru, k_tru1, k_andV, k_orV, k_notV, k_andV1, k_andV0, k_orV1, k_orV0, k_notV1, k_if, k_if1, k_if0, k_ifD, k_nil, k_cons, k_cons1, k_cons2, k_nilA, k_consA, k_consA1, k_consA2, k_V, k_V1, k_F, k_F1, k_tup, k_tup1, k_lst, k_lst1, k_cl, k_cl1, k_clL, k_clL1, k_finL, k_isi, k_isi1, k_fn, k_fn1, k_dat, k_fnV, k_fnV1, k_seqI, k_seqI1, k_seqI2, k_rng1, k_rng1', k_rng2, k_rng2a, k_rng2b, k_enum, k_enum1, k_zip, k_zip1, k_zip2, k_P, k_P1, k_noP, k_sl, k_sl1, k_sl2, k_sl3, k_cmp, k_cmp1, k_yes, k_seq, k_seq1, k_seq2, k_seq3, k_seq4, k_next, k_brk, k_cont, k_retN, k_asg, k_asg1, k_asgV, k_asgV1, k_asgV2, k_asgV3, k_asgO, k_asgO1, k_asgG, k_asgG1, k_nx, k_gN, k_gT, k_gC, k_g1, k_g0, k_par, k_par1, k_par2, k_drop, k_drop1, k_ret, k_ret1, k_retV, k_retV1, k_ifS, k_ifS1, k_ifS0, k_ifSD, k_fz_ap, k_app, k_app1, k_for, k_for1, k_aug1, k_fun1, k_fun2, k_idx, k_idx1, k_idx2, k_lenC, k_lenC1, k_popC, k_bset, k_getC, k_getC1, k_getC2, k_at0, k_at1, k_at2, k_bg1, k_bg2, k_bs1, k_bs2, k_bc, k_pop1, k_chn, k_chn1, k_chn2, k_chn3t, k_chn3f, k_chn4, k_tfo, k_chnB, k_chB, k_rev, k_rev1, k_revL, k_revL1, k_rg1, k_rg1', k_tupRg, k_tupRg1, k_lstRg, k_lstRg1, k_srt, k_srt1, k_parLE, k_parLE1, k_parLE2, k_augA, k_augA1, sz0, sz1, sz2, sz3, sz4, sz5, sz6, k_fun, eqI, neI, addI, subI, ltI, leI, gtI, geI, truD, pyLen, pyAbs, pyMin2, pyMax2, pyInt, pyTuple, pyList, pyIx, pyIs, pyIsNot, isNon, nown, wipeD, Option.map_some, List.getElem?_cons_zero, List.getElem?_cons_succ, List.set_cons_zero, List.set_cons_succ, List.map_cons, List.map_nil, List.cons_append, List.nil_append, List.length_cons, List.length_nil, List.all_cons, List.all_nil, List.replicate_succ, List.replicate_zero, Bool.and_true, Bool.true_and, Bool.and_self, Bool.not_true, Bool.not_false, and_self, and_true, true_and, if_true, if_false, reduceIte, reduceCtorEq, decide_true, decide_false, Bool.false_eq_true, Nat.reduceAdd, Nat.reduceEqDiff, ty_none_tuple, ty_none_list, ty_none_bool, ty_none_int, ty_none_str, ty_bool_tuple, ty_bool_list, ty_bool_bool, ty_bool_int, ty_bool_str, ty_int_tuple, ty_int_list, ty_int_bool, ty_int_int, ty_int_str, ty_str_tuple, ty_str_list, ty_str_bool, ty_str_int, ty_str_str, ty_list_tuple, ty_list_list, ty_list_bool, ty_list_int, ty_list_str, ty_tuple_tuple, ty_tuple_list, ty_tuple_bool, ty_tuple_int, ty_tuple_str, e0, el, hn, e1, e2']
def rows1 (xs : List PyData) : List PyData := [.tuple (cutD xs none (some (-1))), .tuple (xs ++ cutD xs (some (-1)) none), .tuple xs.reverse, .tuple (xs ++ [.tuple [.int 0, .int 0]]), .tuple [.tuple xs], .tuple (cutD xs (some 1) none)]
theorem jk_rows1 {xs : List PyData} (hl : xs.length ≤ 60) (h : ∀ x ∈ xs, jk x = true) (h2 : (cutD xs (some (-1)) none).length ≤ 1) : ∀ x ∈ rows1 xs, jk x = true := fun x hx => by
  simp only [rows1, List.mem_cons, List.not_mem_nil, or_false] at hx
  rcases hx with rfl | rfl | rfl | rfl | rfl | rfl
  · exact jk_mk (Nat.le_trans (cut_len _ _ _) (by omega)) fun y hy => h y (cut_mem hy)
  · exact jk_mk (by rw [List.length_append]; omega) (jk_app h fun y hy => h y (cut_mem hy))
  · exact jk_mk (by rw [List.length_reverse]; omega) fun y hy => h y (List.mem_reverse.mp hy)
  · exact jk_mk (by rw [List.length_append]; simp; omega) (jk_app h fun y hy => by
      simp only [List.mem_cons, List.not_mem_nil, or_false] at hy
      subst hy; decide +kernel)
  · exact jk_mk (by simp) fun y hy => by
      simp only [List.mem_cons, List.not_mem_nil, or_false] at hy
      subst hy; exact jk_mk (by omega) h
  · exact jk_mk (Nat.le_trans (cut_len _ _ _) (by omega)) fun y hy => h y (cut_mem hy)
theorem cut_last (xs : List PyData) : (cutD xs (some (-1)) none).length ≤ 1 := by
  unfold cutD
  have e : HT.sIx xs.length 0 (some (-1)) = xs.length - 1 := by
    show (if (-1 : Int) < 0 then ((-1 : Int) + (xs.length : Int)).toNat else min (-1 : Int).toNat xs.length) = _
    rw [if_pos (by decide)]
    omega
  rw [HT.sIx_none, List.length_take, List.length_drop, e]
  omega
/-- what is picked out of the rows for a tuple -/
theorem spoilt_pick (n : Nat) (v : List Nat) (hv : v.length ≤ 60) (B0 B : Bx) (hb : TI B) (c : Option (Bool × Bx))
    (hc : (dAndT (dTru (dIsi "tuple" (dVarO 1))) (dAndT (dTst pyGt (dCl pyLen (dCons (dVarO 1) dNil)) (dC (.int 0))) (dTst pyGt (dFn (d_law_take) (dConsA (dVarV 0) (dConsA (dV (dC (.int 4))) dNilA))) (dC (.int 0))))) [some .box, some (.dat (.tuple (nD v))), none, none] B0 = some (false, B)) :
    ∃ d B', jk d = true ∧ TI B' ∧ d_law_spoilt (n + 1) [.box, .dat (.tuple (nD v))] B0 = some (.dat d, B') := by
  obtain ⟨r, B1, b1, h1, h2, e1⟩ := sp_take 16 B hb (by decide) (by decide)
  have hL : (rows0 ++ rows1 (nD v)).length = 16 := rfl
  obtain ⟨y, e2, hy⟩ := ix_in (L := rows0 ++ rows1 (nD v)) h1 (by rw [hL]; omega)
  refine ⟨y, B1, jk_app jk_rows0 (jk_rows1 (by rw [nD_len]; exact hv) (jk_nD v) (cut_last _)) y hy, b1, ?_⟩
  have q10 := szn (n := 10) (by decide)
  have el : pyAdd (.list rows0) (.list (rows1 (nD v))) = some (.list (rows0 ++ rows1 (nD v))) := addL (by rw [← List.length_append, hL]; exact sz (by decide))
  have e0 : ∀ sl B2, (dF (dLst (dCons (dC .none) (dCons (dTup dNil) (dCons (dC (.int 0)) (dCons (dC (.int 1)) (dCons (dC (.bool true)) (dCons (dC (.bool false)) (dCons (dC (.str (PySem.Str.ofString "a"))) (dCons (dNeg (dC (.int 1))) (dCons (dTup (dCons (dC (.int 0)) dNil)) (dCons (dTup (dCons (dTup (dCons (dC (.int 0)) (dCons (dC (.int 0)) dNil))) dNil)) dNil)))))))))))) sl B2 = some (.list rows0, B2) := fun sl B2 => by
    simp only [k_dC, k_var_ap, k_varO_ap, k_varV_ap, k_op, k_op1, k_op2, k_fin, k_tst, k_t1, k_t2, k_tF, k_opB, k_B, k_neg, k_neg1, k_andT, k_orT, k_notT, k_and1, k_and0, k_or1, k_or0, k_not1, k_tru, k_tru1, k_andV, k_orV, k_notV, k_andV1, k_andV0, k_orV1, k_orV0, k_notV1, k_if, k_if1, k_if0, k_ifD, k_nil, k_cons, k_cons1, k_cons2, k_nilA, k_consA, k_consA1, k_consA2, k_V, k_V1, k_F, k_F1, k_tup, k_tup1, k_lst, k_lst1, k_cl, k_cl1, k_clL, k_clL1, k_finL, k_isi, k_isi1, k_fn, k_fn1, k_dat, k_fnV, k_fnV1, k_seqI, k_seqI1, k_seqI2, k_rng1, k_rng1', k_rng2, k_rng2a, k_rng2b, k_enum, k_enum1, k_zip, k_zip1, k_zip2, k_P, k_P1, k_noP, k_sl, k_sl1, k_sl2, k_sl3, k_cmp, k_cmp1, k_yes, k_seq, k_seq1, k_seq2, k_seq3, k_seq4, k_next, k_brk, k_cont, k_retN, k_asg, k_asg1, k_asgV, k_asgV1, k_asgV2, k_asgV3, k_asgO, k_asgO1, k_asgG, k_asgG1, k_nx, k_gN, k_gT, k_gC, k_g1, k_g0, k_par, k_par1, k_par2, k_drop, k_drop1, k_ret, k_ret1, k_retV, k_retV1, k_ifS, k_ifS1, k_ifS0, k_ifSD, k_fz_ap, k_app, k_app1, k_for, k_for1, k_aug1, k_fun1, k_fun2, k_idx, k_idx1, k_idx2, k_lenC, k_lenC1, k_popC, k_bset, k_getC, k_getC1, k_getC2, k_at0, k_at1, k_at2, k_bg1, k_bg2, k_bs1, k_bs2, k_bc, k_pop1, k_chn, k_chn1, k_chn2, k_chn3t, k_chn3f, k_chn4, k_tfo, k_chnB, k_chB, k_rev, k_rev1, k_revL, k_revL1, k_rg1, k_rg1', k_tupRg, k_tupRg1, k_lstRg, k_lstRg1, k_srt, k_srt1, k_parLE, k_parLE1, k_parLE2, k_augA, k_augA1, sz0, sz1, sz2, sz3, sz4, sz5, sz6, k_fun, eqI, neI, addI, subI, ltI, leI, gtI, geI, truD, isTy, tyName, pyLen, pyAbs, pyMin2, pyMax2, pyInt, pyTuple, pyList, pyIx, pyIs, pyIsNot, isNon, nown, wipeD, Option.map_some, List.getElem?_cons_zero, List.getElem?_cons_succ, List.set_cons_zero, List.set_cons_succ, List.map_cons, List.map_nil, List.cons_append, List.nil_append, List.length_cons, List.length_nil, List.all_cons, List.all_nil, List.replicate_succ, List.replicate_zero, Bool.and_true, Bool.true_and, Bool.and_self, Bool.not_true, Bool.not_false, and_self, and_true, true_and, if_true, if_false, reduceIte, reduceCtorEq, decide_true, decide_false, Bool.false_eq_true, Nat.reduceAdd, Nat.reduceEqDiff, q10, rows0]
  have a1 : pyAdd (.tuple (nD v)) (.tuple (cutD (nD v) (some (-1)) none)) = some (.tuple (nD v ++ cutD (nD v) (some (-1)) none)) := addT (sz (by have := cut_last (nD v); rw [nD_len]; omega))
  have a2 : pyAdd (.tuple (nD v)) (.tuple [.tuple [.int 0, .int 0]]) = some (.tuple (nD v ++ [.tuple [.int 0, .int 0]])) := addT (sz (by rw [nD_len]; simp; omega))
  have e3 : ∀ a b B2, (dF (dLst (dCons (dSl pySl (dVarO 1) dNoP (dPart (dNeg (dC (.int 1))))) (dCons (dOp pyAdd (dVarO 1) (dSl pySl (dVarO 1) (dPart (dNeg (dC (.int 1)))) dNoP)) (dCons (dRev (dVarO 1)) (dCons (dOp pyAdd (dVarO 1) (dTup (dCons (dTup (dCons (dC (.int 0)) (dCons (dC (.int 0)) dNil))) dNil))) (dCons (dTup (dCons (dVar 1) dNil)) (dCons (dSl pySl (dVarO 1) (dPart (dC (.int 1))) dNoP) dNil)))))))) [some .box, some (.dat (.tuple (nD v))), a, b] B2 = some (.list (rows1 (nD v)), B2) := fun a b B2 => by
    simp only [k_dC, k_var_ap, k_varO_ap, k_varV_ap, k_op, k_op1, k_op2, k_fin, k_tst, k_t1, k_t2, k_tF, k_opB, k_B, k_neg, k_neg1, k_andT, k_orT, k_notT, k_and1, k_and0, k_or1, k_or0, k_not1, k_tru, k_tru1, k_andV, k_orV, k_notV, k_andV1, k_andV0, k_orV1, k_orV0, k_notV1, k_if, k_if1, k_if0, k_ifD, k_nil, k_cons, k_cons1, k_cons2, k_nilA, k_consA, k_consA1, k_consA2, k_V, k_V1, k_F, k_F1, k_tup, k_tup1, k_lst, k_lst1, k_cl, k_cl1, k_clL, k_clL1, k_finL, k_isi, k_isi1, k_fn, k_fn1, k_dat, k_fnV, k_fnV1, k_seqI, k_seqI1, k_seqI2, k_rng1, k_rng1', k_rng2, k_rng2a, k_rng2b, k_enum, k_enum1, k_zip, k_zip1, k_zip2, k_P, k_P1, k_noP, k_sl, k_sl1, k_sl2, k_sl3, k_cmp, k_cmp1, k_yes, k_seq, k_seq1, k_seq2, k_seq3, k_seq4, k_next, k_brk, k_cont, k_retN, k_asg, k_asg1, k_asgV, k_asgV1, k_asgV2, k_asgV3, k_asgO, k_asgO1, k_asgG, k_asgG1, k_nx, k_gN, k_gT, k_gC, k_g1, k_g0, k_par, k_par1, k_par2, k_drop, k_drop1, k_ret, k_ret1, k_retV, k_retV1, k_ifS, k_ifS1, k_ifS0, k_ifSD, k_fz_ap, k_app, k_app1, k_for, k_for1, k_aug1, k_fun1, k_fun2, k_idx, k_idx1, k_idx2, k_lenC, k_lenC1, k_popC, k_bset, k_getC, k_getC1, k_getC2, k_at0, k_at1, k_at2, k_bg1, k_bg2, k_bs1, k_bs2, k_bc, k_pop1, k_chn, k_chn1, k_chn2, k_chn3t, k_chn3f, k_chn4, k_tfo, k_chnB, k_chB, k_rev, k_rev1, k_revL, k_revL1, k_rg1, k_rg1', k_tupRg, k_tupRg1, k_lstRg, k_lstRg1, k_srt, k_srt1, k_parLE, k_parLE1, k_parLE2, k_augA, k_augA1, sz0, sz1, sz2, sz3, sz4, sz5, sz6, k_fun, eqI, neI, addI, subI, ltI, leI, gtI, geI, truD, isTy, tyName, pyLen, pyAbs, pyMin2, pyMax2, pyInt, pyTuple, pyList, pyIx, pyIs, pyIsNot, isNon, nown, wipeD, Option.map_some, List.getElem?_cons_zero, List.getElem?_cons_succ, List.set_cons_zero, List.set_cons_succ, List.map_cons, List.map_nil, List.cons_append, List.nil_append, List.length_cons, List.length_nil, List.all_cons, List.all_nil, List.replicate_succ, List.replicate_zero, Bool.and_true, Bool.true_and, Bool.and_self, Bool.not_true, Bool.not_false, and_self, and_true, true_and, if_true, if_false, reduceIte, reduceCtorEq, decide_true, decide_false, Bool.false_eq_true, Nat.reduceAdd, Nat.reduceEqDiff, slT, a1, a2, rows1]
  have hn : ((rows0 ++ rows1 (nD v)).length : Int) = 16 := by rw [hL]; rfl
  have e2' : L2.atI (rows0 ++ rows1 (nD v)) r = some y := e2
  rw [d_law_spoilt, b_law_spoilt]
  generalize dF (dLst (dCons (dC .none) _)) = R0 at e0 ⊢
  generalize dF (dLst (dCons (dSl pySl (dVarO 1) dNoP _) _)) = R1 at e3 ⊢
  generalize dAndT _ _ = Cn at hc ⊢
  simp only [k_dC, k_var_ap, k_varO_ap, k_varV_ap, k_op, k_op1, k_op2, k_fin, k_tst, k_t1, k_t2, k_tF, k_opB, k_B, k_neg, k_neg1, k_andT, k_orT, k_notT, k_and1, k_and0, k_or1, k_or0, k_not1, k_tru, k_tru1, k_andV, k_orV, k_notV, k_andV1, k_andV0, k_orV1, k_orV0, k_notV1, k_if, k_if1, k_if0, k_ifD, k_nil, k_cons, k_cons1, k_cons2, k_nilA, k_consA, k_consA1, k_consA2, k_V, k_V1, k_F, k_F1, k_tup, k_tup1, k_lst, k_lst1, k_cl, k_cl1, k_clL, k_clL1, k_finL, k_isi, k_isi1, k_fn, k_fn1, k_dat, k_fnV, k_fnV1, k_seqI, k_seqI1, k_seqI2, k_rng1, k_rng1', k_rng2, k_rng2a, k_rng2b, k_enum, k_enum1, k_zip, k_zip1, k_zip2, k_P, k_P1, k_noP, k_sl, k_sl1, k_sl2, k_sl3, k_cmp, k_cmp1, k_yes, k_seq, k_seq1, k_seq2, k_seq3, k_seq4, k_next, k_brk, k_cont, k_retN, k_asg, k_asg1, k_asgV, k_asgV1, k_asgV2, k_asgV3, k_asgO, k_asgO1, k_asgG, k_asgG1, k_nx, k_gN, k_gT, k_gC, k_g1, k_g0, k_par, k_par1, k_par2, k_drop, k_drop1, k_ret, k_ret1, k_retV, k_retV1, k_ifS, k_ifS1, k_ifS0, k_ifSD, k_fz_ap, k_app, k_app1, k_for, k_for1, k_aug1, k_fun1, k_fun2, k_idx, k_idx1, k_idx2, k_lenC, k_lenC1, k_popC, k_bset, k_getC, k_getC1, k_getC2, k_at0, k_at1, k_at2, k_bg1, k_bg2, k_bs1, k_bs2, k_bc, k_pop1, k_chn, k_chn1, k_chn2, k_chn3t, k_chn3f, k_chn4, k_tfo, k_chnB, k_chB, k_rev, k_rev1, k_revL, k_revL1, k_rg1, k_rg1', k_tupRg, k_tupRg1, k_lstRg, k_lstRg1, k_srt, k_srt1, k_parLE, k_parLE1, k_parLE2, k_augA, k_augA1, sz0, sz1, sz2, sz3, sz4, sz5, sz6, k_fun, eqI, neI, addI, subI, ltI, leI, gtI, geI, truD, pyLen, pyAbs, pyMin2, pyMax2, pyInt, pyTuple, pyList, pyIx, pyIs, pyIsNot, isNon, nown, wipeD, Option.map_some, List.getElem?_cons_zero, List.getElem?_cons_succ, List.set_cons_zero, List.set_cons_succ, List.map_cons, List.map_nil, List.cons_append, List.nil_append, List.length_cons, List.length_nil, List.all_cons, List.all_nil, List.replicate_succ, List.replicate_zero, Bool.and_true, Bool.true_and, Bool.and_self, Bool.not_true, Bool.not_false, and_self, and_true, true_and, if_true, if_false, reduceIte, reduceCtorEq, decide_true, decide_false, Bool.false_eq_true, Nat.reduceAdd, Nat.reduceEqDiff, ty_none_tuple, ty_none_list, ty_none_bool, ty_none_int, ty_none_str, ty_bool_tuple, ty_bool_list, ty_bool_bool, ty_bool_int, ty_bool_str, ty_int_tuple, ty_int_list, ty_int_bool, ty_int_int, ty_int_str, ty_str_tuple, ty_str_list, ty_str_bool, ty_str_int, ty_str_str, ty_list_tuple, ty_list_list, ty_list_bool, ty_list_int, ty_list_str, ty_tuple_tuple, ty_tuple_list, ty_tuple_bool, ty_tuple_int, ty_tuple_str, hc, e0, e3, el, hn, e1, e2']
theorem sp_spoilt (n : Nat) (v : List Nat) (hv : v.length ≤ 60) (B : Bx) (hb : TI B) : ∃ d B', jk d = true ∧ TI B' ∧ d_law_spoilt (n + 1 + 1) [.box, .dat (.tuple (nD v))] B = some (.dat d, B') := by
  have hnl := nD_len v
  by_cases h0 : v.length = 0
  · refine spoilt_pick (n + 1) v hv B B hb none ?_
    have q : (0 < ((nD v).length : Int)) = False := eq_false (by rw [nD_len]; omega)
    simp only [k_dC, k_var_ap, k_varO_ap, k_varV_ap, k_op, k_op1, k_op2, k_fin, k_tst, k_t1, k_t2, k_tF, k_opB, k_B, k_neg, k_neg1, k_andT, k_orT, k_notT, k_and1, k_and0, k_or1, k_or0, k_not1, k_tru, k_tru1, k_andV, k_orV, k_notV, k_andV1, k_andV0, k_orV1, k_orV0, k_notV1, k_if, k_if1, k_if0, k_ifD, k_nil, k_cons, k_cons1, k_cons2, k_nilA, k_consA, k_consA1, k_consA2, k_V, k_V1, k_F, k_F1, k_tup, k_tup1, k_lst, k_lst1, k_cl, k_cl1, k_clL, k_clL1, k_finL, k_isi, k_isi1, k_fn, k_fn1, k_dat, k_fnV, k_fnV1, k_seqI, k_seqI1, k_seqI2, k_rng1, k_rng1', k_rng2, k_rng2a, k_rng2b, k_enum, k_enum1, k_zip, k_zip1, k_zip2, k_P, k_P1, k_noP, k_sl, k_sl1, k_sl2, k_sl3, k_cmp, k_cmp1, k_yes, k_seq, k_seq1, k_seq2, k_seq3, k_seq4, k_next, k_brk, k_cont, k_retN, k_asg, k_asg1, k_asgV, k_asgV1, k_asgV2, k_asgV3, k_asgO, k_asgO1, k_asgG, k_asgG1, k_nx, k_gN, k_gT, k_gC, k_g1, k_g0, k_par, k_par1, k_par2, k_drop, k_drop1, k_ret, k_ret1, k_retV, k_retV1, k_ifS, k_ifS1, k_ifS0, k_ifSD, k_fz_ap, k_app, k_app1, k_for, k_for1, k_aug1, k_fun1, k_fun2, k_idx, k_idx1, k_idx2, k_lenC, k_lenC1, k_popC, k_bset, k_getC, k_getC1, k_getC2, k_at0, k_at1, k_at2, k_bg1, k_bg2, k_bs1, k_bs2, k_bc, k_pop1, k_chn, k_chn1, k_chn2, k_chn3t, k_chn3f, k_chn4, k_tfo, k_chnB, k_chB, k_rev, k_rev1, k_revL, k_revL1, k_rg1, k_rg1', k_tupRg, k_tupRg1, k_lstRg, k_lstRg1, k_srt, k_srt1, k_parLE, k_parLE1, k_parLE2, k_augA, k_augA1, sz0, sz1, sz2, sz3, sz4, sz5, sz6, k_fun, eqI, neI, addI, subI, ltI, leI, gtI, geI, truD, pyLen, pyAbs, pyMin2, pyMax2, pyInt, pyTuple, pyList, pyIx, pyIs, pyIsNot, isNon, nown, wipeD, Option.map_some, List.getElem?_cons_zero, List.getElem?_cons_succ, List.set_cons_zero, List.set_cons_succ, List.map_cons, List.map_nil, List.cons_append, List.nil_append, List.length_cons, List.length_nil, List.all_cons, List.all_nil, List.replicate_succ, List.replicate_zero, Bool.and_true, Bool.true_and, Bool.and_self, Bool.not_true, Bool.not_false, and_self, and_true, true_and, if_true, if_false, reduceIte, reduceCtorEq, decide_true, decide_false, Bool.false_eq_true, Nat.reduceAdd, Nat.reduceEqDiff, ty_none_tuple, ty_none_list, ty_none_bool, ty_none_int, ty_none_str, ty_bool_tuple, ty_bool_list, ty_bool_bool, ty_bool_int, ty_bool_str, ty_int_tuple, ty_int_list, ty_int_bool, ty_int_int, ty_int_str, ty_str_tuple, ty_str_list, ty_str_bool, ty_str_int, ty_str_str, ty_list_tuple, ty_list_list, ty_list_bool, ty_list_int, ty_list_str, ty_tuple_tuple, ty_tuple_list, ty_tuple_bool, ty_tuple_int, ty_tuple_str, q]
  · have q : (0 < ((nD v).length : Int)) = True := eq_true (by rw [nD_len]; omega)
    obtain ⟨r, B1, b1, h1, h2, e1⟩ := sp_take 4 B hb (by decide) (by decide)
    by_cases hr : 0 < r
    · have hq := eq_true hr
      obtain ⟨a, B2, b2, h3, h4, e2⟩ := sp_take ((nD v).length : Int) B1 b1 (of_eq_true q) (by rw [nD_len]; omega)
      obtain ⟨r8, B3, b3, h5, h6, e3⟩ := sp_take 8 B2 b2 (by decide) (by decide)
      by_cases h8 : r8 = 0
      · have hq8 := eq_true h8
        have hl : (cutD (nD v) none (some a)).length + (cutD (nD v) (some (a + 1)) none).length ≤ 62 := by
          have l1 : (cutD (nD v) none (some a)).length ≤ a.toNat := by
            unfold cutD
            rw [HT.sIx_none, List.length_take]
            obtain ⟨m, rfl⟩ := Int.eq_ofNat_of_zero_le h3
            rw [HT.sIx_nat]
            omega
          have l2 : (cutD (nD v) (some (a + 1)) none).length ≤ (nD v).length - a.toNat := by
            unfold cutD
            obtain ⟨m, rfl⟩ := Int.eq_ofNat_of_zero_le h3
            rw [HT.sIx_none, List.length_take, List.length_drop, show ((m : Int) + 1) = ((m + 1 : Nat) : Int) from rfl, HT.sIx_nat]
            omega
          rw [nD_len] at l2
          omega
        refine ⟨.tuple (cutD (nD v) none (some a) ++ cutD (nD v) (some (a + 1)) none), B3, jk_mk (by rw [List.length_append]; exact hl) (jk_app (fun y hy => jk_nD v y (cut_mem hy)) fun y hy => jk_nD v y (cut_mem hy)), b3, ?_⟩
        have ad := addT (xs := cutD (nD v) none (some a)) (ys := cutD (nD v) (some (a + 1)) none) (sz (by omega))
        simp only [k_dC, k_var_ap, k_varO_ap, k_varV_ap, k_op, k_op1, k_op2, k_fin, k_tst, k_t1, k_t2, k_tF, k_opB, k_B, k_neg, k_neg1, k_andT, k_orT, k_notT, k_and1, k_and0, k_or1, k_or0, k_not1, k_tru, k_tru1, k_andV, k_orV, k_notV, k_andV1, k_andV0, k_orV1, k_orV0, k_notV1, k_if, k_if1, k_if0, k_ifD, k_nil, k_cons, k_cons1, k_cons2, k_nilA, k_consA, k_consA1, k_consA2, k_V, k_V1, k_F, k_F1, k_tup, k_tup1, k_lst, k_lst1, k_cl, k_cl1, k_clL, k_clL1, k_finL, k_isi, k_isi1, k_fn, k_fn1, k_dat, k_fnV, k_fnV1, k_seqI, k_seqI1, k_seqI2, k_rng1, k_rng1', k_rng2, k_rng2a, k_rng2b, k_enum, k_enum1, k_zip, k_zip1, k_zip2, k_P, k_P1, k_noP, k_sl, k_sl1, k_sl2, k_sl3, k_cmp, k_cmp1, k_yes, k_seq, k_seq1, k_seq2, k_seq3, k_seq4, k_next, k_brk, k_cont, k_retN, k_asg, k_asg1, k_asgV, k_asgV1, k_asgV2, k_asgV3, k_asgO, k_asgO1, k_asgG, k_asgG1, k_nx, k_gN, k_gT, k_gC, k_g1, k_g0, k_par, k_par1, k_par2, k_drop, k_drop1, k_ret, k_ret1, k_retV, k_retV1, k_ifS, k_ifS1, k_ifS0, k_ifSD, k_fz_ap, k_app, k_app1, k_for, k_for1, k_aug1, k_fun1, k_fun2, k_idx, k_idx1, k_idx2, k_lenC, k_lenC1, k_popC, k_bset, k_getC, k_getC1, k_getC2, k_at0, k_at1, k_at2, k_bg1, k_bg2, k_bs1, k_bs2, k_bc, k_pop1, k_chn, k_chn1, k_chn2, k_chn3t, k_chn3f, k_chn4, k_tfo, k_chnB, k_chB, k_rev, k_rev1, k_revL, k_revL1, k_rg1, k_rg1', k_tupRg, k_tupRg1, k_lstRg, k_lstRg1, k_srt, k_srt1, k_parLE, k_parLE1, k_parLE2, k_augA, k_augA1, sz0, sz1, sz2, sz3, sz4, sz5, sz6, k_fun, eqI, neI, addI, subI, ltI, leI, gtI, geI, truD, pyLen, pyAbs, pyMin2, pyMax2, pyInt, pyTuple, pyList, pyIx, pyIs, pyIsNot, isNon, nown, wipeD, Option.map_some, List.getElem?_cons_zero, List.getElem?_cons_succ, List.set_cons_zero, List.set_cons_succ, List.map_cons, List.map_nil, List.cons_append, List.nil_append, List.length_cons, List.length_nil, List.all_cons, List.all_nil, List.replicate_succ, List.replicate_zero, Bool.and_true, Bool.true_and, Bool.and_self, Bool.not_true, Bool.not_false, and_self, and_true, true_and, if_true, if_false, reduceIte, reduceCtorEq, decide_true, decide_false, Bool.false_eq_true, Nat.reduceAdd, Nat.reduceEqDiff, ty_none_tuple, ty_none_list, ty_none_bool, ty_none_int, ty_none_str, ty_bool_tuple, ty_bool_list, ty_bool_bool, ty_bool_int, ty_bool_str, ty_int_tuple, ty_int_list, ty_int_bool, ty_int_int, ty_int_str, ty_str_tuple, ty_str_list, ty_str_bool, ty_str_int, ty_str_str, ty_list_tuple, ty_list_list, ty_list_bool, ty_list_int, ty_list_str, ty_tuple_tuple, ty_tuple_list, ty_tuple_bool, ty_tuple_int, ty_tuple_str, d_law_spoilt, b_law_spoilt, q, e1, hq, e2, e3, hq8, slT, ad]
      · have hq8 := eq_false h8
        obtain ⟨y, e4, hy⟩ := ix_inT (L := nD v) h3 h4
        have e4' : L2.atI (nD v) a = some y := e4
        obtain ⟨i, _, rfl⟩ := List.mem_map.mp hy
        obtain ⟨d, B4, hd, b4, e5⟩ := sp_spoilt_int n (i : Int) B3 b3
        have l1 : (cutD (nD v) none (some a)).length ≤ 60 := Nat.le_trans (cut_len _ _ _) (by rw [nD_len]; exact hv)
        have hl : (cutD (nD v) none (some a)).length + 1 + (cutD (nD v) (some (a + 1)) none).length ≤ 62 := by
          have l1 : (cutD (nD v) none (some a)).length ≤ a.toNat := by
            unfold cutD
            rw [HT.sIx_none, List.length_take]
            obtain ⟨m, rfl⟩ := Int.eq_ofNat_of_zero_le h3
            rw [HT.sIx_nat]
            omega
          have l2 : (cutD (nD v) (some (a + 1)) none).length ≤ (nD v).length - a.toNat := by
            unfold cutD
            obtain ⟨m, rfl⟩ := Int.eq_ofNat_of_zero_le h3
            rw [HT.sIx_none, List.length_take, List.length_drop, show ((m : Int) + 1) = ((m + 1 : Nat) : Int) from rfl, HT.sIx_nat]
            omega
          rw [nD_len] at l2
          omega
        have ad1 := addT (xs := cutD (nD v) none (some a)) (ys := [d]) (sz (by simp; omega))
        have ad2 := addT (xs := cutD (nD v) none (some a) ++ [d]) (ys := cutD (nD v) (some (a + 1)) none) (sz (by rw [List.length_append]; simp; omega))
        refine ⟨.tuple (cutD (nD v) none (some a) ++ [d] ++ cutD (nD v) (some (a + 1)) none), B4, jk_mk (by rw [List.length_append, List.length_append]; simpa using hl) (jk_app (jk_app (fun y hy => jk_nD v y (cut_mem hy)) fun y hy => by
          simp only [List.mem_cons, List.not_mem_nil, or_false] at hy
          subst hy; exact hd) fun y hy => jk_nD v y (cut_mem hy)), b4, ?_⟩
        rw [d_law_spoilt, b_law_spoilt]
        simp only [k_dC, k_var_ap, k_varO_ap, k_varV_ap, k_op, k_op1, k_op2, k_fin, k_tst, k_t1, k_t2, k_tF, k_opB, k_B, k_neg, k_neg1, k_andT, k_orT, k_notT, k_and1, k_and0, k_or1, k_or0, k_not1, k_tru, k_tru1, k_andV, k_orV, k_notV, k_andV1, k_andV0, k_orV1, k_orV0, k_notV1, k_if, k_if1, k_if0, k_ifD, k_nil, k_cons, k_cons1, k_cons2, k_nilA, k_consA, k_consA1, k_consA2, k_V, k_V1, k_F, k_F1, k_tup, k_tup1, k_lst, k_lst1, k_cl, k_cl1, k_clL, k_clL1, k_finL, k_isi, k_isi1, k_fn, k_fn1, k_dat, k_fnV, k_fnV1, k_seqI, k_seqI1, k_seqI2, k_rng1, k_rng1', k_rng2, k_rng2a, k_rng2b, k_enum, k_enum1, k_zip, k_zip1, k_zip2, k_P, k_P1, k_noP, k_sl, k_sl1, k_sl2, k_sl3, k_cmp, k_cmp1, k_yes, k_seq, k_seq1, k_seq2, k_seq3, k_seq4, k_next, k_brk, k_cont, k_retN, k_asg, k_asg1, k_asgV, k_asgV1, k_asgV2, k_asgV3, k_asgO, k_asgO1, k_asgG, k_asgG1, k_nx, k_gN, k_gT, k_gC, k_g1, k_g0, k_par, k_par1, k_par2, k_drop, k_drop1, k_ret, k_ret1, k_retV, k_retV1, k_ifS, k_ifS1, k_ifS0, k_ifSD, k_fz_ap, k_app, k_app1, k_for, k_for1, k_aug1, k_fun1, k_fun2, k_idx, k_idx1, k_idx2, k_lenC, k_lenC1, k_popC, k_bset, k_getC, k_getC1, k_getC2, k_at0, k_at1, k_at2, k_bg1, k_bg2, k_bs1, k_bs2, k_bc, k_pop1, k_chn, k_chn1, k_chn2, k_chn3t, k_chn3f, k_chn4, k_tfo, k_chnB, k_chB, k_rev, k_rev1, k_revL, k_revL1, k_rg1, k_rg1', k_tupRg, k_tupRg1, k_lstRg, k_lstRg1, k_srt, k_srt1, k_parLE, k_parLE1, k_parLE2, k_augA, k_augA1, sz0, sz1, sz2, sz3, sz4, sz5, sz6, k_fun, eqI, neI, addI, subI, ltI, leI, gtI, geI, truD, pyLen, pyAbs, pyMin2, pyMax2, pyInt, pyTuple, pyList, pyIx, pyIs, pyIsNot, isNon, nown, wipeD, Option.map_some, List.getElem?_cons_zero, List.getElem?_cons_succ, List.set_cons_zero, List.set_cons_succ, List.map_cons, List.map_nil, List.cons_append, List.nil_append, List.length_cons, List.length_nil, List.all_cons, List.all_nil, List.replicate_succ, List.replicate_zero, Bool.and_true, Bool.true_and, Bool.and_self, Bool.not_true, Bool.not_false, and_self, and_true, true_and, if_true, if_false, reduceIte, reduceCtorEq, decide_true, decide_false, Bool.false_eq_true, Nat.reduceAdd, Nat.reduceEqDiff, ty_none_tuple, ty_none_list, ty_none_bool, ty_none_int, ty_none_str, ty_bool_tuple, ty_bool_list, ty_bool_bool, ty_bool_int, ty_bool_str, ty_int_tuple, ty_int_list, ty_int_bool, ty_int_int, ty_int_str, ty_str_tuple, ty_str_list, ty_str_bool, ty_str_int, ty_str_str, ty_list_tuple, ty_list_list, ty_list_bool, ty_list_int, ty_list_str, ty_tuple_tuple, ty_tuple_list, ty_tuple_bool, ty_tuple_int, ty_tuple_str, q, e1, hq, e2, e3, hq8, slT, e4', e5, ad1, ad2]
    · refine spoilt_pick (n + 1) v hv B B1 b1 none ?_
      have hq := eq_false hr
      simp only [k_dC, k_var_ap, k_varO_ap, k_varV_ap, k_op, k_op1, k_op2, k_fin, k_tst, k_t1, k_t2, k_tF, k_opB, k_B, k_neg, k_neg1, k_andT, k_orT, k_notT, k_and1, k_and0, k_or1, k_or0, k_not1, k_tru, k_tru1, k_andV, k_orV, k_notV, k_andV1, k_andV0, k_orV1, k_orV0, k_notV1, k_if, k_if1, k_if0, k_ifD, k_nil, k_cons, k_cons1, k_cons2, k_nilA, k_consA, k_consA1, k_consA2, k_V, k_V1, k_F, k_F1, k_tup, k_tup1, k_lst, k_lst1, k_cl, k_cl1, k_clL, k_clL1, k_finL, k_isi, k_isi1, k_fn, k_fn1, k_dat, k_fnV, k_fnV1, k_seqI, k_seqI1, k_seqI2, k_rng1, k_rng1', k_rng2, k_rng2a, k_rng2b, k_enum, k_enum1, k_zip, k_zip1, k_zip2, k_P, k_P1, k_noP, k_sl, k_sl1, k_sl2, k_sl3, k_cmp, k_cmp1, k_yes, k_seq, k_seq1, k_seq2, k_seq3, k_seq4, k_next, k_brk, k_cont, k_retN, k_asg, k_asg1, k_asgV, k_asgV1, k_asgV2, k_asgV3, k_asgO, k_asgO1, k_asgG, k_asgG1, k_nx, k_gN, k_gT, k_gC, k_g1, k_g0, k_par, k_par1, k_par2, k_drop, k_drop1, k_ret, k_ret1, k_retV, k_retV1, k_ifS, k_ifS1, k_ifS0, k_ifSD, k_fz_ap, k_app, k_app1, k_for, k_for1, k_aug1, k_fun1, k_fun2, k_idx, k_idx1, k_idx2, k_lenC, k_lenC1, k_popC, k_bset, k_getC, k_getC1, k_getC2, k_at0, k_at1, k_at2, k_bg1, k_bg2, k_bs1, k_bs2, k_bc, k_pop1, k_chn, k_chn1, k_chn2, k_chn3t, k_chn3f, k_chn4, k_tfo, k_chnB, k_chB, k_rev, k_rev1, k_revL, k_revL1, k_rg1, k_rg1', k_tupRg, k_tupRg1, k_lstRg, k_lstRg1, k_srt, k_srt1, k_parLE, k_parLE1, k_parLE2, k_augA, k_augA1, sz0, sz1, sz2, sz3, sz4, sz5, sz6, k_fun, eqI, neI, addI, subI, ltI, leI, gtI, geI, truD, pyLen, pyAbs, pyMin2, pyMax2, pyInt, pyTuple, pyList, pyIx, pyIs, pyIsNot, isNon, nown, wipeD, Option.map_some, List.getElem?_cons_zero, List.getElem?_cons_succ, List.set_cons_zero, List.set_cons_succ, List.map_cons, List.map_nil, List.cons_append, List.nil_append, List.length_cons, List.length_nil, List.all_cons, List.all_nil, List.replicate_succ, List.replicate_zero, Bool.and_true, Bool.true_and, Bool.and_self, Bool.not_true, Bool.not_false, and_self, and_true, true_and, if_true, if_false, reduceIte, reduceCtorEq, decide_true, decide_false, Bool.false_eq_true, Nat.reduceAdd, Nat.reduceEqDiff, ty_none_tuple, ty_none_list, ty_none_bool, ty_none_int, ty_none_str, ty_bool_tuple, ty_bool_list, ty_bool_bool, ty_bool_int, ty_bool_str, ty_int_tuple, ty_int_list, ty_int_bool, ty_int_int, ty_int_str, ty_str_tuple, ty_str_list, ty_str_bool, ty_str_int, ty_str_str, ty_list_tuple, ty_list_list, ty_list_bool, ty_list_int, ty_list_str, ty_tuple_tuple, ty_tuple_list, ty_tuple_bool, ty_tuple_int, ty_tuple_str, q, e1, hq]
end Dn

-- dk2
set_option Elab.async false
set_option linter.all false
set_option autoImplicit false
set_option maxRecDepth 100000
set_option maxHeartbeats 4000000
namespace Dn
open PySem Tr
theorem gd_el {v : List Nat} {k : Nat} (h : k < v.length) : v.getD k 0 = v[k] := by
  rw [List.getD_eq_getElem?_getD, List.getElem?_eq_getElem h]; rfl
theorem foldl_max_le : ∀ (xs : List Nat) (a w : Nat), xs.foldl max a ≤ w ↔ a ≤ w ∧ ∀ x ∈ xs, x ≤ w
  | [], a, w => ⟨fun h => ⟨h, fun _ h => absurd h List.not_mem_nil⟩, fun h => h.1⟩
  | y :: r, a, w => by
    rw [List.foldl_cons, foldl_max_le r (max a y) w]
    constructor
    · rintro ⟨h1, h2⟩
      refine ⟨by omega, fun x hx => ?_⟩
      rcases List.mem_cons.mp hx with e | e
      · rw [e]; omega
      · exact h2 x e
    · rintro ⟨h1, h2⟩
      have := h2 y List.mem_cons_self
      exact ⟨by omega, fun x hx => h2 x (List.mem_cons_of_mem _ hx)⟩
theorem mx_le (xs : List Nat) (w : Nat) : mx xs ≤ w ↔ ∀ x ∈ xs, x ≤ w := by
  unfold mx
  rw [foldl_max_le]
  exact ⟨fun h => h.2, fun h => ⟨Nat.zero_le _, h⟩⟩
theorem ends_at (v : List Nat) (n k : Nat) (h : k < v.length) : (v.drop 1 ++ [n]).getD k 0 = if k + 1 < v.length then v.getD (k + 1) 0 else n := by
  rw [List.getD_eq_getElem?_getD]
  by_cases hk : k + 1 < v.length
  · rw [if_pos hk, List.getElem?_append_left (by rw [List.length_drop]; omega), List.getElem?_drop, List.getD_eq_getElem?_getD, Nat.add_comm]
  · rw [if_neg hk, List.getElem?_append_right (by rw [List.length_drop]; omega), List.length_drop, show k - (v.length - 1) = 0 by omega]
    rfl
theorem trays_all (ws v : List Nat) (w : Nat) : (∀ x ∈ traysW ws v, x ≤ w) ↔ ∀ k, k < v.length → P ws (if k + 1 < v.length then v.getD (k + 1) 0 else ws.length) - P ws (v.getD k 0) ≤ w := by
  have hlen : (v.zip (v.drop 1 ++ [ws.length])).length = v.length := by
    have := trays_len ws v
    unfold traysW at this
    rw [List.length_map] at this
    exact this
  constructor
  · intro h k hk
    refine h _ ?_
    unfold traysW
    refine List.mem_map.mpr ⟨(v.getD k 0, if k + 1 < v.length then v.getD (k + 1) 0 else ws.length), ?_, rfl⟩
    rw [← ends_at v ws.length k hk]
    have h2 : k < (v.drop 1 ++ [ws.length]).length := by rw [List.length_append, List.length_drop]; simp; omega
    rw [gd_el hk, gd_el h2]
    have : (v.zip (v.drop 1 ++ [ws.length]))[k]'(by omega) = (v[k], (v.drop 1 ++ [ws.length])[k]) := List.getElem_zip
    rw [← this]
    exact List.getElem_mem _
  · intro h x hx
    unfold traysW at hx
    obtain ⟨p, hp, rfl⟩ := List.mem_map.mp hx
    obtain ⟨k, hk, rfl⟩ := List.getElem_of_mem hp
    have hk' : k < v.length := by omega
    have h2 : k < (v.drop 1 ++ [ws.length]).length := by rw [List.length_append, List.length_drop]; simp; omega
    rw [List.getElem_zip]
    have := h k hk'
    rw [← ends_at v ws.length k hk', gd_el hk', gd_el h2] at this
    exact this
theorem lay_iff {ws v : List Nat} {w : Nat} (hr : RowOk ws v) : layB (w : Int) ws v = true ↔ Lay w ws ws.length v := by
  obtain ⟨h1, h2⟩ := hr
  have up := (asc_iff v).mp h1
  have lt : ∀ k, k < v.length → v.getD k 0 < ws.length := fun k hk => by rw [gd_el hk]; exact h2 _ (List.getElem_mem hk)
  unfold layB
  cases hw : ws.isEmpty with
  | true =>
    rw [if_pos rfl]
    have hws := List.isEmpty_iff.mp hw
    subst hws
    constructor
    · intro h
      have hv := List.isEmpty_iff.mp h
      subst hv
      refine ⟨fun h => absurd h (by simp), fun h => absurd h (by simp), fun k h => absurd h (by simp), fun k h => absurd h (by simp), fun k h => absurd h (by simp), fun h => absurd h (by simp)⟩
    · intro h
      rw [List.isEmpty_iff]
      cases v with
      | nil => rfl
      | cons x r => exact absurd (lt 0 (by simp)) (Nat.not_lt_zero _)
  | false =>
    have hn : 0 < ws.length := by
      cases ws with
      | nil => cases hw
      | cons _ _ => simp
    rw [if_neg Bool.false_ne_true, Bool.and_eq_true, Bool.and_eq_true, decide_eq_true_eq, decide_eq_true_eq]
    have hm : ((mx (traysW ws v) : Int) ≤ w) ↔ ∀ k, k < v.length → P ws (if k + 1 < v.length then v.getD (k + 1) 0 else ws.length) - P ws (v.getD k 0) ≤ w := by
      rw [← trays_all, ← mx_le]
      omega
    rw [hm]
    constructor
    · rintro ⟨hv, hz, hf⟩
      have hv' : 0 < v.length := by
        cases v with
        | nil => cases hv
        | cons _ _ => simp
      refine ⟨fun _ => hv', fun _ => hz, up, lt, fun k hk => ?_, fun _ => ?_⟩
      · have := hf k (by omega)
        rw [if_pos hk] at this
        omega
      · have := hf (v.length - 1) (by omega)
        rw [if_neg (by omega)] at this
        omega
    · intro h
      have hv' := h.ne hn
      refine ⟨?_, h.z hv', fun k hk => ?_⟩
      · cases v with
        | nil => exact absurd hv' (by simp)
        | cons _ _ => rfl
      · split
        · rename_i hk2
          have := h.fit k hk2
          omega
        · have e : k = v.length - 1 := by omega
          have := h.last hv'
          rw [e]
          omega
theorem stop_iff {ws v : List Nat} {w : Nat} (hr : RowOk ws v) : stopB (w : Int) ws v = true ↔ Stops w ws ws.length v := by
  obtain ⟨h1, h2⟩ := hr
  have up := (asc_iff v).mp h1
  have lt : ∀ k, k < v.length → v.getD k 0 < ws.length := fun k hk => by rw [gd_el hk]; exact h2 _ (List.getElem_mem hk)
  unfold stopB
  rw [List.all_eq_true]
  constructor
  · intro h
    refine ⟨up, lt, fun k hk => ?_⟩
    have hm : PyData.int (0 + (k : Int)) ∈ rngD 0 (v.length - 1) := by
      unfold rngD
      exact List.mem_map.mpr ⟨k, List.mem_range.mpr (by omega), rfl⟩
    have := h _ hm
    simp only [Int.zero_add, Int.toNat_natCast, decide_eq_true_eq] at this
    omega
  · intro h x hx
    obtain ⟨i, hi, rfl⟩ := rngD_mem hx
    simp only [Int.zero_add, Int.toNat_natCast, decide_eq_true_eq]
    have := h.stop i (by omega)
    omega
/-- what is so of judged values -/
theorem judL_le {w : Nat} {ws : List Nat} {d : PyData} (hw : ∀ x ∈ ws, x ≤ w) (h : judL (w : Int) ws d = true) : ∃ v, d = .tuple (nD v) ∧ (filled (w : Int) ws).length ≤ v.length := by
  unfold judL at h
  split at h
  · rename_i v hv
    obtain ⟨e, r1, r2⟩ := rowOf_is hv
    exact ⟨v, e, stops_le_lay (filled_stops hw) ((lay_iff ⟨r1, r2⟩).mp h)⟩
  · cases h
theorem judS_le {w : Nat} {ws : List Nat} {d : PyData} (hw : ∀ x ∈ ws, x ≤ w) (h : judS (w : Int) ws d = true) : ∃ v, d = .tuple (nD v) ∧ v.length ≤ (filled (w : Int) ws).length := by
  unfold judS at h
  split at h
  · rename_i v hv
    obtain ⟨e, r1, r2⟩ := rowOf_is hv
    exact ⟨v, e, stops_le_lay ((stop_iff ⟨r1, r2⟩).mp h) (filled_lay hw)⟩
  · cases h
theorem filled_row {w : Nat} {ws : List Nat} (hw : ∀ x ∈ ws, x ≤ w) : RowOk ws (filled (w : Int) ws) := by
  have h := filled_lay hw
  refine ⟨(asc_iff _).mpr h.up, fun x hx => ?_⟩
  obtain ⟨k, hk, rfl⟩ := List.getElem_of_mem hx
  have := h.lt k hk
  rw [gd_el hk] at this
  exact this
theorem filled_judL {w : Nat} {ws : List Nat} (hw : ∀ x ∈ ws, x ≤ w) : judL (w : Int) ws (.tuple (nD (filled (w : Int) ws))) = true := by
  have hr := filled_row hw
  unfold judL
  rw [rowOf_nD hr.1 hr.2]
  exact (lay_iff hr).mpr (filled_lay hw)
theorem filled_judS {w : Nat} {ws : List Nat} (hw : ∀ x ∈ ws, x ≤ w) : judS (w : Int) ws (.tuple (nD (filled (w : Int) ws))) = true := by
  have hr := filled_row hw
  unfold judS
  rw [rowOf_nD hr.1 hr.2]
  exact (stop_iff hr).mpr (filled_stops hw)
end Dn

set_option Elab.async false
set_option linter.all false
set_option autoImplicit false
set_option maxRecDepth 100000
set_option maxHeartbeats 4000000
namespace Dn
namespace Tr
theorem P_drop (ws : List Nat) (a i : Nat) : P ws (a + i) = P ws a + P (ws.drop a) i := by
  unfold P
  rw [List.take_add, List.sum_append]
theorem P_dropI (ws : List Nat) {a i : Nat} (h : a ≤ i) : P ws i = P ws a + P (ws.drop a) (i - a) := by
  have := P_drop ws a (i - a)
  rw [show a + (i - a) = i by omega] at this
  exact this
theorem gd_map {r : List Nat} {f : Nat → Nat} {j : Nat} (h : j < r.length) : (r.map f).getD j 0 = f (r.getD j 0) := by
  rw [List.getD_eq_getElem?_getD, List.getElem?_map, List.getD_eq_getElem?_getD, List.getElem?_eq_getElem h]
  rfl
theorem gd_drop {r : List Nat} {k j : Nat} : (r.drop k).getD j 0 = r.getD (k + j) 0 := by
  rw [List.getD_eq_getElem?_getD, List.getElem?_drop, List.getD_eq_getElem?_getD]
theorem up_le {r : List Nat} (up : ∀ k, k + 1 < r.length → r.getD k 0 < r.getD (k + 1) 0) : ∀ k j, k + j < r.length → r.getD k 0 + j ≤ r.getD (k + j) 0 := by
  intro k j
  induction j with
  | zero => intro _; exact Nat.le_refl _
  | succ j ih =>
    intro h
    have h1 := ih (by omega)
    have h2 := up (k + j) (by omega)
    rw [show k + (j + 1) = k + j + 1 from rfl]
    omega
theorem lay_tail {w n : Nat} {ws r : List Nat} (h : Lay w ws n r) {k : Nat} (hk : k < r.length) : Lay w (ws.drop (r.getD k 0)) (n - r.getD k 0) ((r.drop k).map fun x => x - r.getD k 0) := by
  have hlen : ((r.drop k).map fun x => x - r.getD k 0).length = r.length - k := by rw [List.length_map, List.length_drop]
  have gd : ∀ j, j < r.length - k → ((r.drop k).map fun x => x - r.getD k 0).getD j 0 = r.getD (k + j) 0 - r.getD k 0 := fun j hj => by
    rw [gd_map (by rw [List.length_drop]; exact hj), gd_drop]
  have mono : ∀ j, k + j < r.length → r.getD k 0 + j ≤ r.getD (k + j) 0 := fun j hj => up_le h.up k j hj
  refine ⟨fun _ => by rw [hlen]; omega, fun _ => by rw [gd 0 (by omega)]; simp, fun j hj => ?_, fun j hj => ?_, fun j hj => ?_, fun hj => ?_⟩
  · rw [hlen] at hj
    rw [gd j (by omega), gd (j + 1) hj]
    have h1 := h.up (k + j) (by omega)
    have h2 := mono j (by omega)
    rw [show k + (j + 1) = k + j + 1 from rfl]
    omega
  · rw [hlen] at hj
    rw [gd j hj]
    have h1 := h.lt (k + j) (by omega)
    have h2 := mono j (by omega)
    omega
  · rw [hlen] at hj
    rw [gd j (by omega), gd (j + 1) hj]
    have h1 := h.fit (k + j) (by omega)
    have h2 := mono j (by omega)
    have h3 := mono (j + 1) (by omega)
    have p1 := P_dropI ws (a := r.getD k 0) (i := r.getD (k + j) 0) (by omega)
    have p2 := P_dropI ws (a := r.getD k 0) (i := r.getD (k + (j + 1)) 0) (by omega)
    rw [show k + j + 1 = k + (j + 1) from rfl] at h1
    omega
  · rw [hlen]
    rw [gd (r.length - k - 1) (by omega)]
    have h1 := h.last (by omega)
    have h2 := h.lt k hk
    have h3 := mono (r.length - k - 1) (by omega)
    rw [show k + (r.length - k - 1) = r.length - 1 by omega] at h3 ⊢
    have p1 := P_dropI ws (a := r.getD k 0) (i := r.getD (r.length - 1) 0) (by omega)
    have p2 := P_dropI ws (a := r.getD k 0) (i := n) (by omega)
    omega
theorem lay_cons {w : Nat} {ws d : List Nat} {a i : Nat} (ha : a < i) (hi : i < ws.length) (hf : P ws i ≤ P ws a + w) (h : Lay w (ws.drop i) (ws.length - i) d) : Lay w (ws.drop a) (ws.length - a) (0 :: d.map fun x => x + (i - a)) := by
  have hd := h.ne (by omega)
  have gd : ∀ j, j < d.length → (0 :: d.map fun x => x + (i - a)).getD (j + 1) 0 = d.getD j 0 + (i - a) := fun j hj => by
    show (d.map fun x => x + (i - a)).getD j 0 = _
    rw [gd_map hj]
  have g0 : (0 :: d.map fun x => x + (i - a)).getD 0 0 = 0 := rfl
  have hlen : (0 :: d.map fun x => x + (i - a)).length = d.length + 1 := by rw [List.length_cons, List.length_map]
  have pi : ∀ j, P (ws.drop a) (j + (i - a)) + P ws a = P ws i + P (ws.drop i) j := fun j => by
    have p1 := P_drop ws a (j + (i - a))
    have p2 := P_drop ws i j
    rw [show a + (j + (i - a)) = i + j by omega] at p1
    omega
  refine ⟨fun _ => by rw [hlen]; omega, fun _ => g0, fun j hj => ?_, fun j hj => ?_, fun j hj => ?_, fun hj => ?_⟩
  · rw [hlen] at hj
    cases j with
    | zero => rw [g0, gd 0 (by omega)]; omega
    | succ j =>
      rw [gd j (by omega), gd (j + 1) (by omega)]
      have := h.up j (by omega)
      omega
  · rw [hlen] at hj
    cases j with
    | zero => rw [g0]; omega
    | succ j =>
      rw [gd j (by omega)]
      have := h.lt j (by omega)
      omega
  · rw [hlen] at hj
    cases j with
    | zero =>
      rw [g0, gd 0 (by omega), h.z hd]
      have := pi 0
      rw [P_zero] at this ⊢
      omega
    | succ j =>
      rw [gd j (by omega), gd (j + 1) (by omega)]
      have h1 := h.fit j (by omega)
      have q1 := pi (d.getD j 0)
      have q2 := pi (d.getD (j + 1) 0)
      omega
  · rw [hlen, Nat.add_sub_cancel]
    obtain ⟨m, hm⟩ : ∃ m, d.length = m + 1 := ⟨d.length - 1, by omega⟩
    rw [hm, gd m (by omega)]
    have h1 := h.last hd
    rw [hm, Nat.add_sub_cancel] at h1
    have q1 := pi (d.getD m 0)
    have q2 := pi (ws.length - i)
    rw [show ws.length - i + (i - a) = ws.length - a by omega] at q2
    omega
theorem lay_len {w n : Nat} {ws r : List Nat} (h : Lay w ws n r) : r.length ≤ n := by
  rcases Nat.eq_zero_or_pos r.length with z | z
  · omega
  · have h1 := up_le h.up 0 (r.length - 1) (by omega)
    have h2 := h.lt (r.length - 1) (by omega)
    rw [Nat.zero_add] at h1
    omega
/-- how few trays from a on -/
def F (v : Nat) (ws : List Nat) (a : Nat) : Nat := (filled (v : Int) (ws.drop a)).length
theorem drop_le {ws : List Nat} {v : Nat} (hw : ∀ x ∈ ws, x ≤ v) (a : Nat) : ∀ x ∈ ws.drop a, x ≤ v := fun x hx => hw x (List.mem_of_mem_drop hx)
theorem F_lay {ws : List Nat} {v : Nat} (hw : ∀ x ∈ ws, x ≤ v) (a : Nat) : Lay v (ws.drop a) (ws.length - a) (filled (v : Int) (ws.drop a)) := by
  have := filled_lay (drop_le hw a)
  rw [List.length_drop] at this
  exact this
theorem F_le {ws : List Nat} {v : Nat} (hw : ∀ x ∈ ws, x ≤ v) (a : Nat) {r : List Nat} (h : Lay v (ws.drop a) (ws.length - a) r) : F v ws a ≤ r.length := by
  have := filled_stops (drop_le hw a)
  rw [List.length_drop] at this
  exact stops_le_lay this h
/-- i may come next after a, with l trays from it on -/
def cnd (v : Nat) (ws : List Nat) (a l i : Nat) : Prop := a < i ∧ i < ws.length ∧ P ws i ≤ P ws a + v ∧ F v ws i ≤ l ∧ l ≤ ws.length - i
theorem cnd_row {ws : List Nat} {v : Nat} (hw : ∀ x ∈ ws, x ≤ v) {r : List Nat} (h : Lay v ws ws.length r) {k : Nat} (hk : k + 1 < r.length) : cnd v ws (r.getD k 0) (r.length - (k + 1)) (r.getD (k + 1) 0) := by
  have ht := lay_tail h hk
  have hl := lay_len ht
  have hF := F_le hw _ ht
  rw [List.length_map, List.length_drop] at hl hF
  exact ⟨h.up k hk, h.lt (k + 1) hk, h.fit k hk, hF, hl⟩
theorem P_one {ws : List Nat} {v : Nat} (hw : ∀ x ∈ ws, x ≤ v) {a : Nat} (ha : a < ws.length) : P ws (a + 1) ≤ P ws a + v := by
  rw [P_succ ws a ha]
  have : ws.getD a 0 ≤ v := by
    rw [List.getD_eq_getElem?_getD, List.getElem?_eq_getElem ha]
    exact hw _ (List.getElem_mem ha)
  omega
theorem cnd_ex {ws : List Nat} {v : Nat} (hw : ∀ x ∈ ws, x ≤ v) {a l : Nat} (ha : a < ws.length) (h1 : F v ws a ≤ l + 1) (h2 : l + 1 ≤ ws.length - a) (hl : 1 ≤ l) : ∃ i, cnd v ws a l i := by
  by_cases hc : F v ws (a + 1) ≤ l
  · exact ⟨a + 1, by omega, by omega, P_one hw ha, hc, by omega⟩
  · have hD := F_lay hw a
    have hne := hD.ne (by omega)
    by_cases hlen : 1 < (filled (v : Int) (ws.drop a)).length
    · have hi0 := hD.lt 1 hlen
      have hup := hD.up 0 hlen
      have hz := hD.z hne
      have hfit := hD.fit 0 hlen
      have ht := lay_tail hD hlen
      generalize hd1 : (filled (v : Int) (ws.drop a)).getD 1 0 = d1 at *
      rw [hz] at hup hfit
      rw [P_zero] at hfit
      have p1 := P_drop ws a d1
      rw [List.drop_drop, show ws.length - a - d1 = ws.length - (a + d1) by omega] at ht
      have hF := F_le hw (a + d1) ht
      rw [List.length_map, List.length_drop] at hF
      have hFa : F v ws a = (filled (v : Int) (ws.drop a)).length := rfl
      refine ⟨a + d1, by omega, by omega, by omega, by omega, ?_⟩
      have hFn := lay_len (F_lay hw (a + d1))
      have hge : l ≤ F v ws (a + d1) := by
        by_cases he : d1 = 1
        · subst he
          have := hF
          omega
        · have hcons := lay_cons (a := a + 1) (i := a + d1) (d := filled (v : Int) (ws.drop (a + d1))) (by omega) (by omega) (by
            have := P_step ws a
            omega) (F_lay hw (a + d1))
          have := F_le hw (a + 1) hcons
          rw [List.length_cons, List.length_map] at this
          have e : F v ws (a + d1) = (filled (v : Int) (ws.drop (a + d1))).length := rfl
          omega
      have e : F v ws (a + d1) = (filled (v : Int) (ws.drop (a + d1))).length := rfl
      omega
    · exfalso
      have hone : (filled (v : Int) (ws.drop a)).length = 1 := by omega
      have hlast := hD.last hne
      rw [hone, hD.z hne] at hlast
      have p1 := P_drop ws a (ws.length - a)
      rw [show a + (ws.length - a) = ws.length by omega] at p1
      have p2 := P_drop ws (a + 1) (ws.length - (a + 1))
      rw [show a + 1 + (ws.length - (a + 1)) = ws.length by omega] at p2
      have p3 := P_step ws a
      rw [P_zero] at hlast
      have hsing : Lay v (ws.drop (a + 1)) (ws.length - (a + 1)) [0] := by
        refine ⟨fun _ => by simp, fun _ => rfl, fun k hk => ?_, fun k hk => ?_, fun k hk => ?_, fun _ => ?_⟩
        · simp at hk
        · simp at hk; subst hk; simp; omega
        · simp at hk
        · show P (ws.drop (a + 1)) (ws.length - (a + 1)) ≤ P (ws.drop (a + 1)) 0 + v
          rw [P_zero]; omega
      have := F_le hw (a + 1) hsing
      simp at this
      omega
end Tr
end Dn

-- dk2
set_option Elab.async false
set_option linter.all false
set_option autoImplicit false
set_option maxRecDepth 100000
set_option maxHeartbeats 4000000
set_option exponentiation.threshold 100000
namespace Dn
open PySem Tr
theorem mem_mx {ws : List Nat} : ∀ x ∈ ws, x ≤ mx ws := (mx_le ws (mx ws)).mp (Nat.le_refl _)
theorem filled_le_len (w : Int) (ws : List Nat) : (filled w ws).length ≤ ws.length := fs_len w ws ws.length
theorem nar_loop (ws : List Nat) (many w : Nat) (hn : ws.length < 1000) (hw : (filled (w : Int) ws).length ≤ many) (B : Bx) : ∀ k v, w - v = k → v ≤ w → (∀ u, mx ws ≤ u → u < v → many < (filled (u : Int) ws).length) → mx ws ≤ v →
    ∃ v', mx ws ≤ v' ∧ v' ≤ w ∧ (filled (v' : Int) ws).length ≤ many ∧ (∀ u, mx ws ≤ u → u < v' → many < (filled (u : Int) ws).length) ∧
      dWhile (dTst pyGt (dCl pyLen (dCons (dFn (d_filled_trays) (dConsA (dVarV 2) (dConsA (dVarV 0) dNilA))) dNil)) (dVarO 1)) narrowest_W1 [some (.dat (.tuple (nD ws))), some (.dat (.int many)), some (.dat (.int v))] B = some (.nx [some (.dat (.tuple (nD ws))), some (.dat (.int many)), some (.dat (.int v'))] B) := by
  intro k
  induction k with
  | zero =>
    intro v hk hv hu hm
    have : v = w := by omega
    subst this
    have q : ((many : Int) < ((filled (v : Int) ws).length : Int)) = False := eq_false (by omega)
    exact ⟨v, hm, hv, hw, hu, dWhile_end (by simp only [k_dC, k_var_ap, k_varO_ap, k_varV_ap, k_op, k_op1, k_op2, k_fin, k_tst, k_t1, k_t2, k_tF, k_opB, k_B, k_neg, k_neg1, k_andT, k_orT, k_notT, k_and1, k_and0, k_or1, k_or0, k_not1, k_tru, k_tru1, k_andV, k_orV, k_notV, k_andV1, k_andV0, k_orV1, k_orV0, k_notV1, k_if, k_if1, k_if0, k_ifD, k_nil, k_cons, k_cons1, k_cons2, k_nilA, k_consA, k_consA1, k_consA2, k_V, k_V1, k_F, k_F1, k_tup, k_tup1, k_lst, k_lst1, k_cl, k_cl1, k_clL, k_clL1, k_finL, k_isi, k_isi1, k_fn, k_fn1, k_dat, k_fnV, k_fnV1, k_seqI, k_seqI1, k_seqI2, k_rng1, k_rng1', k_rng2, k_rng2a, k_rng2b, k_enum, k_enum1, k_zip, k_zip1, k_zip2, k_P, k_P1, k_noP, k_sl, k_sl1, k_sl2, k_sl3, k_cmp, k_cmp1, k_yes, k_seq, k_seq1, k_seq2, k_seq3, k_seq4, k_next, k_brk, k_cont, k_retN, k_asg, k_asg1, k_asgV, k_asgV1, k_asgV2, k_asgV3, k_asgO, k_asgO1, k_asgG, k_asgG1, k_nx, k_gN, k_gT, k_gC, k_g1, k_g0, k_par, k_par1, k_par2, k_drop, k_drop1, k_ret, k_ret1, k_retV, k_retV1, k_ifS, k_ifS1, k_ifS0, k_ifSD, k_fz_ap, k_app, k_app1, k_for, k_for1, k_aug1, k_fun1, k_fun2, k_idx, k_idx1, k_idx2, k_lenC, k_lenC1, k_popC, k_bset, k_getC, k_getC1, k_getC2, k_at0, k_at1, k_at2, k_bg1, k_bg2, k_bs1, k_bs2, k_bc, k_pop1, k_chn, k_chn1, k_chn2, k_chn3t, k_chn3f, k_chn4, k_tfo, k_chnB, k_chB, k_rev, k_rev1, k_revL, k_revL1, k_rg1, k_rg1', k_tupRg, k_tupRg1, k_lstRg, k_lstRg1, k_srt, k_srt1, k_parLE, k_parLE1, k_parLE2, k_augA, k_augA1, sz0, sz1, sz2, sz3, sz4, sz5, sz6, k_fun, eqI, neI, addI, subI, ltI, leI, gtI, geI, truD, isTy, tyName, pyLen, pyAbs, pyMin2, pyMax2, pyInt, pyTuple, pyList, pyIx, pyIs, pyIsNot, isNon, nown, wipeD, Option.map_some, List.getElem?_cons_zero, List.getElem?_cons_succ, List.set_cons_zero, List.set_cons_succ, List.map_cons, List.map_nil, List.cons_append, List.nil_append, List.length_cons, List.length_nil, List.all_cons, List.all_nil, List.replicate_succ, List.replicate_zero, Bool.and_true, Bool.true_and, Bool.and_self, Bool.not_true, Bool.not_false, and_self, and_true, true_and, if_true, if_false, reduceIte, reduceCtorEq, decide_true, decide_false, Bool.false_eq_true, Nat.reduceAdd, Nat.reduceEqDiff, sp_filled (v : Int) ws hn B, nD_len, q])⟩
  | succ k ih =>
    intro v hk hv hu hm
    by_cases hc : (filled (v : Int) ws).length ≤ many
    · have q : ((many : Int) < ((filled (v : Int) ws).length : Int)) = False := eq_false (by omega)
      exact ⟨v, hm, hv, hc, hu, dWhile_end (by simp only [k_dC, k_var_ap, k_varO_ap, k_varV_ap, k_op, k_op1, k_op2, k_fin, k_tst, k_t1, k_t2, k_tF, k_opB, k_B, k_neg, k_neg1, k_andT, k_orT, k_notT, k_and1, k_and0, k_or1, k_or0, k_not1, k_tru, k_tru1, k_andV, k_orV, k_notV, k_andV1, k_andV0, k_orV1, k_orV0, k_notV1, k_if, k_if1, k_if0, k_ifD, k_nil, k_cons, k_cons1, k_cons2, k_nilA, k_consA, k_consA1, k_consA2, k_V, k_V1, k_F, k_F1, k_tup, k_tup1, k_lst, k_lst1, k_cl, k_cl1, k_clL, k_clL1, k_finL, k_isi, k_isi1, k_fn, k_fn1, k_dat, k_fnV, k_fnV1, k_seqI, k_seqI1, k_seqI2, k_rng1, k_rng1', k_rng2, k_rng2a, k_rng2b, k_enum, k_enum1, k_zip, k_zip1, k_zip2, k_P, k_P1, k_noP, k_sl, k_sl1, k_sl2, k_sl3, k_cmp, k_cmp1, k_yes, k_seq, k_seq1, k_seq2, k_seq3, k_seq4, k_next, k_brk, k_cont, k_retN, k_asg, k_asg1, k_asgV, k_asgV1, k_asgV2, k_asgV3, k_asgO, k_asgO1, k_asgG, k_asgG1, k_nx, k_gN, k_gT, k_gC, k_g1, k_g0, k_par, k_par1, k_par2, k_drop, k_drop1, k_ret, k_ret1, k_retV, k_retV1, k_ifS, k_ifS1, k_ifS0, k_ifSD, k_fz_ap, k_app, k_app1, k_for, k_for1, k_aug1, k_fun1, k_fun2, k_idx, k_idx1, k_idx2, k_lenC, k_lenC1, k_popC, k_bset, k_getC, k_getC1, k_getC2, k_at0, k_at1, k_at2, k_bg1, k_bg2, k_bs1, k_bs2, k_bc, k_pop1, k_chn, k_chn1, k_chn2, k_chn3t, k_chn3f, k_chn4, k_tfo, k_chnB, k_chB, k_rev, k_rev1, k_revL, k_revL1, k_rg1, k_rg1', k_tupRg, k_tupRg1, k_lstRg, k_lstRg1, k_srt, k_srt1, k_parLE, k_parLE1, k_parLE2, k_augA, k_augA1, sz0, sz1, sz2, sz3, sz4, sz5, sz6, k_fun, eqI, neI, addI, subI, ltI, leI, gtI, geI, truD, isTy, tyName, pyLen, pyAbs, pyMin2, pyMax2, pyInt, pyTuple, pyList, pyIx, pyIs, pyIsNot, isNon, nown, wipeD, Option.map_some, List.getElem?_cons_zero, List.getElem?_cons_succ, List.set_cons_zero, List.set_cons_succ, List.map_cons, List.map_nil, List.cons_append, List.nil_append, List.length_cons, List.length_nil, List.all_cons, List.all_nil, List.replicate_succ, List.replicate_zero, Bool.and_true, Bool.true_and, Bool.and_self, Bool.not_true, Bool.not_false, and_self, and_true, true_and, if_true, if_false, reduceIte, reduceCtorEq, decide_true, decide_false, Bool.false_eq_true, Nat.reduceAdd, Nat.reduceEqDiff, sp_filled (v : Int) ws hn B, nD_len, q])⟩
    · have q : ((many : Int) < ((filled (v : Int) ws).length : Int)) = True := eq_true (by omega)
      obtain ⟨v', a1, a2, a3, a4, a5⟩ := ih (v + 1) (by omega) (by omega) (fun u h1 h2 => by
        rcases Nat.lt_or_ge u v with z | z
        · exact hu u h1 z
        · have : u = v := by omega
          rw [this]; omega) (by omega)
      have ht : (dTst pyGt (dCl pyLen (dCons (dFn (d_filled_trays) (dConsA (dVarV 2) (dConsA (dVarV 0) dNilA))) dNil)) (dVarO 1)) [some (.dat (.tuple (nD ws))), some (.dat (.int many)), some (.dat (.int v))] B = some (true, B) := by
        simp only [k_dC, k_var_ap, k_varO_ap, k_varV_ap, k_op, k_op1, k_op2, k_fin, k_tst, k_t1, k_t2, k_tF, k_opB, k_B, k_neg, k_neg1, k_andT, k_orT, k_notT, k_and1, k_and0, k_or1, k_or0, k_not1, k_tru, k_tru1, k_andV, k_orV, k_notV, k_andV1, k_andV0, k_orV1, k_orV0, k_notV1, k_if, k_if1, k_if0, k_ifD, k_nil, k_cons, k_cons1, k_cons2, k_nilA, k_consA, k_consA1, k_consA2, k_V, k_V1, k_F, k_F1, k_tup, k_tup1, k_lst, k_lst1, k_cl, k_cl1, k_clL, k_clL1, k_finL, k_isi, k_isi1, k_fn, k_fn1, k_dat, k_fnV, k_fnV1, k_seqI, k_seqI1, k_seqI2, k_rng1, k_rng1', k_rng2, k_rng2a, k_rng2b, k_enum, k_enum1, k_zip, k_zip1, k_zip2, k_P, k_P1, k_noP, k_sl, k_sl1, k_sl2, k_sl3, k_cmp, k_cmp1, k_yes, k_seq, k_seq1, k_seq2, k_seq3, k_seq4, k_next, k_brk, k_cont, k_retN, k_asg, k_asg1, k_asgV, k_asgV1, k_asgV2, k_asgV3, k_asgO, k_asgO1, k_asgG, k_asgG1, k_nx, k_gN, k_gT, k_gC, k_g1, k_g0, k_par, k_par1, k_par2, k_drop, k_drop1, k_ret, k_ret1, k_retV, k_retV1, k_ifS, k_ifS1, k_ifS0, k_ifSD, k_fz_ap, k_app, k_app1, k_for, k_for1, k_aug1, k_fun1, k_fun2, k_idx, k_idx1, k_idx2, k_lenC, k_lenC1, k_popC, k_bset, k_getC, k_getC1, k_getC2, k_at0, k_at1, k_at2, k_bg1, k_bg2, k_bs1, k_bs2, k_bc, k_pop1, k_chn, k_chn1, k_chn2, k_chn3t, k_chn3f, k_chn4, k_tfo, k_chnB, k_chB, k_rev, k_rev1, k_revL, k_revL1, k_rg1, k_rg1', k_tupRg, k_tupRg1, k_lstRg, k_lstRg1, k_srt, k_srt1, k_parLE, k_parLE1, k_parLE2, k_augA, k_augA1, sz0, sz1, sz2, sz3, sz4, sz5, sz6, k_fun, eqI, neI, addI, subI, ltI, leI, gtI, geI, truD, isTy, tyName, pyLen, pyAbs, pyMin2, pyMax2, pyInt, pyTuple, pyList, pyIx, pyIs, pyIsNot, isNon, nown, wipeD, Option.map_some, List.getElem?_cons_zero, List.getElem?_cons_succ, List.set_cons_zero, List.set_cons_succ, List.map_cons, List.map_nil, List.cons_append, List.nil_append, List.length_cons, List.length_nil, List.all_cons, List.all_nil, List.replicate_succ, List.replicate_zero, Bool.and_true, Bool.true_and, Bool.and_self, Bool.not_true, Bool.not_false, and_self, and_true, true_and, if_true, if_false, reduceIte, reduceCtorEq, decide_true, decide_false, Bool.false_eq_true, Nat.reduceAdd, Nat.reduceEqDiff, sp_filled (v : Int) ws hn B, nD_len, q]
      have hb : narrowest_W1 [some (.dat (.tuple (nD ws))), some (.dat (.int many)), some (.dat (.int v))] B = some (.nx [some (.dat (.tuple (nD ws))), some (.dat (.int many)), some (.dat (.int ((v + 1 : Nat) : Int)))] B) := by
        rw [show ((v + 1 : Nat) : Int) = (v : Int) + 1 from rfl]
        simp only [k_dC, k_var_ap, k_varO_ap, k_varV_ap, k_op, k_op1, k_op2, k_fin, k_tst, k_t1, k_t2, k_tF, k_opB, k_B, k_neg, k_neg1, k_andT, k_orT, k_notT, k_and1, k_and0, k_or1, k_or0, k_not1, k_tru, k_tru1, k_andV, k_orV, k_notV, k_andV1, k_andV0, k_orV1, k_orV0, k_notV1, k_if, k_if1, k_if0, k_ifD, k_nil, k_cons, k_cons1, k_cons2, k_nilA, k_consA, k_consA1, k_consA2, k_V, k_V1, k_F, k_F1, k_tup, k_tup1, k_lst, k_lst1, k_cl, k_cl1, k_clL, k_clL1, k_finL, k_isi, k_isi1, k_fn, k_fn1, k_dat, k_fnV, k_fnV1, k_seqI, k_seqI1, k_seqI2, k_rng1, k_rng1', k_rng2, k_rng2a, k_rng2b, k_enum, k_enum1, k_zip, k_zip1, k_zip2, k_P, k_P1, k_noP, k_sl, k_sl1, k_sl2, k_sl3, k_cmp, k_cmp1, k_yes, k_seq, k_seq1, k_seq2, k_seq3, k_seq4, k_next, k_brk, k_cont, k_retN, k_asg, k_asg1, k_asgV, k_asgV1, k_asgV2, k_asgV3, k_asgO, k_asgO1, k_asgG, k_asgG1, k_nx, k_gN, k_gT, k_gC, k_g1, k_g0, k_par, k_par1, k_par2, k_drop, k_drop1, k_ret, k_ret1, k_retV, k_retV1, k_ifS, k_ifS1, k_ifS0, k_ifSD, k_fz_ap, k_app, k_app1, k_for, k_for1, k_aug1, k_fun1, k_fun2, k_idx, k_idx1, k_idx2, k_lenC, k_lenC1, k_popC, k_bset, k_getC, k_getC1, k_getC2, k_at0, k_at1, k_at2, k_bg1, k_bg2, k_bs1, k_bs2, k_bc, k_pop1, k_chn, k_chn1, k_chn2, k_chn3t, k_chn3f, k_chn4, k_tfo, k_chnB, k_chB, k_rev, k_rev1, k_revL, k_revL1, k_rg1, k_rg1', k_tupRg, k_tupRg1, k_lstRg, k_lstRg1, k_srt, k_srt1, k_parLE, k_parLE1, k_parLE2, k_augA, k_augA1, sz0, sz1, sz2, sz3, sz4, sz5, sz6, k_fun, eqI, neI, addI, subI, ltI, leI, gtI, geI, truD, isTy, tyName, pyLen, pyAbs, pyMin2, pyMax2, pyInt, pyTuple, pyList, pyIx, pyIs, pyIsNot, isNon, nown, wipeD, Option.map_some, List.getElem?_cons_zero, List.getElem?_cons_succ, List.set_cons_zero, List.set_cons_succ, List.map_cons, List.map_nil, List.cons_append, List.nil_append, List.length_cons, List.length_nil, List.all_cons, List.all_nil, List.replicate_succ, List.replicate_zero, Bool.and_true, Bool.true_and, Bool.and_self, Bool.not_true, Bool.not_false, and_self, and_true, true_and, if_true, if_false, reduceIte, reduceCtorEq, decide_true, decide_false, Bool.false_eq_true, Nat.reduceAdd, Nat.reduceEqDiff, narrowest_W1]
      exact ⟨v', a1, a2, a3, a4, dWhile_turn ht hb a5⟩
theorem sp_narrowest (ws : List Nat) (many w : Nat) (hn : ws.length < 1000) (h0 : ws ≠ []) (hx : ∀ x ∈ ws, x ≤ w) (hw : (filled (w : Int) ws).length ≤ many) (B : Bx) :
    ∃ v, mx ws ≤ v ∧ v ≤ w ∧ (filled (v : Int) ws).length ≤ many ∧ (∀ u, mx ws ≤ u → u < v → many < (filled (u : Int) ws).length) ∧ d_narrowest [.dat (.tuple (nD ws)), .dat (.int many)] B = some (.dat (.int v), B) := by
  obtain ⟨v, a1, a2, a3, a4, a5⟩ := nar_loop ws many w hn hw B (w - mx ws) (mx ws) rfl ((mx_le ws w).mpr hx) (fun u h1 h2 => by omega) (Nat.le_refl _)
  refine ⟨v, a1, a2, a3, a4, ?_⟩
  have hm : pyMax1 [.tuple (nD ws)] = some (.int (mx ws : Nat)) := by
    cases ws with
    | nil => exact absurd rfl h0
    | cons x r => exact (max1_nD x r).2
  simp only [k_dC, k_var_ap, k_varO_ap, k_varV_ap, k_op, k_op1, k_op2, k_fin, k_tst, k_t1, k_t2, k_tF, k_opB, k_B, k_neg, k_neg1, k_andT, k_orT, k_notT, k_and1, k_and0, k_or1, k_or0, k_not1, k_tru, k_tru1, k_andV, k_orV, k_notV, k_andV1, k_andV0, k_orV1, k_orV0, k_notV1, k_if, k_if1, k_if0, k_ifD, k_nil, k_cons, k_cons1, k_cons2, k_nilA, k_consA, k_consA1, k_consA2, k_V, k_V1, k_F, k_F1, k_tup, k_tup1, k_lst, k_lst1, k_cl, k_cl1, k_clL, k_clL1, k_finL, k_isi, k_isi1, k_fn, k_fn1, k_dat, k_fnV, k_fnV1, k_seqI, k_seqI1, k_seqI2, k_rng1, k_rng1', k_rng2, k_rng2a, k_rng2b, k_enum, k_enum1, k_zip, k_zip1, k_zip2, k_P, k_P1, k_noP, k_sl, k_sl1, k_sl2, k_sl3, k_cmp, k_cmp1, k_yes, k_seq, k_seq1, k_seq2, k_seq3, k_seq4, k_next, k_brk, k_cont, k_retN, k_asg, k_asg1, k_asgV, k_asgV1, k_asgV2, k_asgV3, k_asgO, k_asgO1, k_asgG, k_asgG1, k_nx, k_gN, k_gT, k_gC, k_g1, k_g0, k_par, k_par1, k_par2, k_drop, k_drop1, k_ret, k_ret1, k_retV, k_retV1, k_ifS, k_ifS1, k_ifS0, k_ifSD, k_fz_ap, k_app, k_app1, k_for, k_for1, k_aug1, k_fun1, k_fun2, k_idx, k_idx1, k_idx2, k_lenC, k_lenC1, k_popC, k_bset, k_getC, k_getC1, k_getC2, k_at0, k_at1, k_at2, k_bg1, k_bg2, k_bs1, k_bs2, k_bc, k_pop1, k_chn, k_chn1, k_chn2, k_chn3t, k_chn3f, k_chn4, k_tfo, k_chnB, k_chB, k_rev, k_rev1, k_revL, k_revL1, k_rg1, k_rg1', k_tupRg, k_tupRg1, k_lstRg, k_lstRg1, k_srt, k_srt1, k_parLE, k_parLE1, k_parLE2, k_augA, k_augA1, sz0, sz1, sz2, sz3, sz4, sz5, sz6, k_fun, eqI, neI, addI, subI, ltI, leI, gtI, geI, truD, isTy, tyName, pyLen, pyAbs, pyMin2, pyMax2, pyInt, pyTuple, pyList, pyIx, pyIs, pyIsNot, isNon, nown, wipeD, Option.map_some, List.getElem?_cons_zero, List.getElem?_cons_succ, List.set_cons_zero, List.set_cons_succ, List.map_cons, List.map_nil, List.cons_append, List.nil_append, List.length_cons, List.length_nil, List.all_cons, List.all_nil, List.replicate_succ, List.replicate_zero, Bool.and_true, Bool.true_and, Bool.and_self, Bool.not_true, Bool.not_false, and_self, and_true, true_and, if_true, if_false, reduceIte, reduceCtorEq, decide_true, decide_false, Bool.false_eq_true, Nat.reduceAdd, Nat.reduceEqDiff, d_narrowest, b_narrowest, hm, a5]
theorem least_ex {p : Nat → Prop} (h : ∃ i, p i) : ∃ i, p i ∧ ∀ j, p j → i ≤ j := by
  obtain ⟨i, hi⟩ := h
  induction i using Nat.strongRecOn with
  | ind i ih =>
    by_cases hc : ∃ j, j < i ∧ p j
    · obtain ⟨j, hj, hp⟩ := hc
      exact ih j hj hp
    · refine ⟨i, hi, fun j hp => ?_⟩
      rcases Nat.lt_or_ge j i with z | z
      · exact absurd ⟨j, z, hp⟩ hc
      · exact z
/-- rows as the even laying makes them -/
structure EvP (v : Nat) (ws : List Nat) (many : Nat) (f : List Nat) : Prop where
  ne : 0 < f.length
  le : f.length ≤ many
  z : f.getD 0 0 = 0
  st : ∀ k, k + 1 < f.length → cnd v ws (f.getD k 0) (many - (k + 1)) (f.getD (k + 1) 0) ∧ ∀ j, cnd v ws (f.getD k 0) (many - (k + 1)) j → f.getD (k + 1) 0 ≤ j
  lt : f.getD (f.length - 1) 0 < ws.length
  fs : F v ws (f.getD (f.length - 1) 0) ≤ many - f.length + 1
  gr : many - f.length + 1 ≤ ws.length - f.getD (f.length - 1) 0
theorem ev_step {v many : Nat} {ws f : List Nat} (h : EvP v ws many f) (hf : f.length < many) {i : Nat} (hi : cnd v ws (f.getD (f.length - 1) 0) (many - f.length) i) (hl : ∀ j, cnd v ws (f.getD (f.length - 1) 0) (many - f.length) j → i ≤ j) : EvP v ws many (f ++ [i]) := by
  have hlen : (f ++ [i]).length = f.length + 1 := by simp
  have el : (f ++ [i]).getD ((f ++ [i]).length - 1) 0 = i := by rw [hlen, Nat.add_sub_cancel]; exact snoc_eq
  have hn := h.ne
  refine ⟨by omega, by omega, by rw [snoc_lt hn]; exact h.z, fun k hk => ?_, ?_, ?_, ?_⟩
  · rw [hlen] at hk
    rcases Nat.lt_or_ge (k + 1) f.length with z | z
    · rw [snoc_lt (by omega), snoc_lt z]; exact h.st k z
    · have e : k + 1 = f.length := by omega
      rw [snoc_lt (by omega), e, snoc_eq, show k = f.length - 1 by omega]
      exact ⟨hi, hl⟩
  · rw [el]; exact hi.2.1
  · rw [el, hlen]; have := hi.2.2.2.1; omega
  · rw [el, hlen]; have := hi.2.2.2.2; omega
theorem ev_next {v many : Nat} {ws f : List Nat} (hw : ∀ x ∈ ws, x ≤ v) (h : EvP v ws many f) (hf : f.length < many) : ∃ i, cnd v ws (f.getD (f.length - 1) 0) (many - f.length) i ∧ ∀ j, cnd v ws (f.getD (f.length - 1) 0) (many - f.length) j → i ≤ j :=
  least_ex (cnd_ex hw h.lt h.fs h.gr (by omega))
theorem ev_lay {v many : Nat} {ws f : List Nat} (hw : ∀ x ∈ ws, x ≤ v) (h : EvP v ws many f) (hf : f.length = many) : Lay v ws ws.length f := by
  have hn := h.ne
  refine ⟨fun _ => hn, fun _ => h.z, fun k hk => (h.st k hk).1.1, fun k hk => ?_, fun k hk => (h.st k hk).1.2.2.1, fun _ => ?_⟩
  · cases k with
    | zero => rw [h.z]; have := h.lt; omega
    | succ k => exact (h.st k hk).1.2.1
  · have hF := F_lay hw (f.getD (f.length - 1) 0)
    have h1 := h.fs
    have hlt := h.lt
    have hne := hF.ne (by omega)
    have e : F v ws (f.getD (f.length - 1) 0) = (filled (v : Int) (ws.drop (f.getD (f.length - 1) 0))).length := rfl
    have hone : (filled (v : Int) (ws.drop (f.getD (f.length - 1) 0))).length = 1 := by omega
    have hlast := hF.last hne
    rw [hone, hF.z hne, P_zero] at hlast
    have p1 := P_dropI ws (a := f.getD (f.length - 1) 0) (i := ws.length) (by omega)
    omega
/-- no other row of as many comes earlier -/
theorem ev_first {v many : Nat} {ws f r : List Nat} (hw : ∀ x ∈ ws, x ≤ v) (h : EvP v ws many f) (hf : f.length = many) (hr : Lay v ws ws.length r) (hl : r.length = many) (k : Nat) (hk : k < many) (he : ∀ j, j < k → r.getD j 0 = f.getD j 0) : f.getD k 0 ≤ r.getD k 0 := by
  cases k with
  | zero => rw [h.z]; exact Nat.zero_le _
  | succ k =>
    have h1 := cnd_row hw hr (k := k) (by omega)
    rw [he k (by omega), hl] at h1
    exact (h.st k (by omega)).2 _ h1
end Dn

-- dk2
set_option Elab.async false
set_option linter.all false
set_option autoImplicit false
set_option maxRecDepth 100000
set_option maxHeartbeats 4000000
set_option exponentiation.threshold 100000
namespace Dn
open PySem Tr
theorem ixm1 (f : List Nat) (h : 0 < f.length) : pyIx (.list (nD f)) (.int (-1)) = some (.int (f.getD (f.length - 1) 0 : Nat)) := by
  have e : L2.ixN (nD f).length (-1) = some (f.length - 1) := by
    unfold L2.ixN
    rw [nD_len, if_neg (by decide), if_pos (by omega)]
    congr 1
    omega
  show L2.atI (nD f) (-1) = _
  unfold L2.atI
  rw [e]
  exact nD_at (by omega)
theorem cut_from (ws : List Nat) (i : Nat) (h : i ≤ ws.length) : pySl (.tuple (nD ws)) (some (i : Int)) none = some (.tuple (nD (ws.drop i))) := by
  show some (PyData.tuple (cutD _ _ _)) = _
  unfold cutD
  rw [nD_len, HT.sIx_nat, HT.sIx_none, Nat.min_eq_left h]
  unfold nD
  rw [← List.map_drop, ← List.map_take, List.take_of_length_le (by rw [List.length_drop]; exact Nat.le_refl _)]
theorem rngD_succ (s : Nat) (k : Nat) : rngD (s : Int) (k + 1) = .int (s : Int) :: rngD ((s + 1 : Nat) : Int) k := by
  unfold rngD
  rw [List.range_succ_eq_map, List.map_cons, List.map_map]
  rw [show ((s : Int) + ((0 : Nat) : Int)) = (s : Int) by omega]
  refine congrArg (PyData.int (s : Int) :: ·) (List.map_congr_left fun x _ => ?_)
  show PyData.int ((s : Int) + ((x + 1 : Nat) : Int)) = .int (((s + 1 : Nat) : Int) + (x : Int))
  rw [show ((s : Int) + ((x + 1 : Nat) : Int)) = ((s + 1 : Nat) : Int) + (x : Int) by omega]
def eS (w : Int) (ws : List Nat) (many v : Nat) (f : List Nat) (a b c : Option Sv) : Sl := [some (.dat (.int w)), some (.dat (.tuple (nD ws))), some (.dat (.int many)), some (.dat (.int v)), some (.own (nD f)), a, b, c]
theorem ev_body (w : Int) (ws : List Nat) (many v : Nat) (f : List Nat) (hn : ws.length < 1000) (h0 : 0 < f.length) (hf : f.length < many) (hfl : f.length < 1000) (i : Nat) (hi : f.getD (f.length - 1) 0 < i) (hi2 : i < ws.length) (b c : Option Sv) (B : Bx) :
    (¬ cnd v ws (f.getD (f.length - 1) 0) (many - f.length) i → ∃ b' c', even_trays_L1 (eS w ws many v f (some (.dat (.int i))) b c) B = some (.nx (eS w ws many v f (some (.dat (.int i))) b' c') B)) ∧
    (cnd v ws (f.getD (f.length - 1) 0) (many - f.length) i → ∃ b' c', even_trays_L1 (eS w ws many v f (some (.dat (.int i))) b c) B = some (.bk (eS w ws many v (f ++ [i]) (some (.dat (.int i))) b' c') B)) := by
  have e1 := ixm1 f h0
  have e2 := cut_from ws i (by omega)
  have e3 := sp_filled (v : Int) (ws.drop i) (by rw [List.length_drop]; omega) B
  have e4 : (many : Int) - (f.length : Int) = ((many - f.length : Nat) : Int) := by omega
  obtain ⟨s1, s2⟩ := sl_sum ws (f.getD (f.length - 1) 0) i (by omega)
  have hFe : (filled (v : Int) (ws.drop i)).length = F v ws i := rfl
  have hsz : ((nD f).length < sizeLine) = True := eq_true (by rw [nD_len]; exact szlt (by omega))
  have hP := P_mono ws (Nat.le_of_lt hi)
  have hsz2 : (f.length < sizeLine) = True := eq_true (szlt (by omega))
  unfold eS cnd
  generalize f.getD (f.length - 1) 0 = a at *
  generalize many - f.length = l at *
  by_cases c1 : P ws i ≤ P ws a + v
  · have q1 : (((P ws i - P ws a : Nat) : Int) ≤ (v : Int)) = True := eq_true (by omega)
    by_cases c2 : F v ws i ≤ l
    · have q2 : (((F v ws i : Nat) : Int) ≤ (l : Int)) = True := eq_true (by omega)
      by_cases c3 : l ≤ ws.length - i
      · have q3 : ((l : Int) ≤ (ws.length : Int) - (i : Int)) = True := eq_true (by omega)
        refine ⟨fun h => absurd ⟨hi, hi2, c1, c2, c3⟩ h, fun _ => ⟨some (.dat (.int l)), some (.dat (.bool true)), ?_⟩⟩
        simp only [k_dC, k_var_ap, k_varO_ap, k_varV_ap, k_op, k_op1, k_op2, k_fin, k_tst, k_t1, k_t2, k_tF, k_opB, k_B, k_neg, k_neg1, k_andT, k_orT, k_notT, k_and1, k_and0, k_or1, k_or0, k_not1, k_tru, k_tru1, k_andV, k_orV, k_notV, k_andV1, k_andV0, k_orV1, k_orV0, k_notV1, k_if, k_if1, k_if0, k_ifD, k_nil, k_cons, k_cons1, k_cons2, k_nilA, k_consA, k_consA1, k_consA2, k_V, k_V1, k_F, k_F1, k_tup, k_tup1, k_lst, k_lst1, k_cl, k_cl1, k_clL, k_clL1, k_finL, k_isi, k_isi1, k_fn, k_fn1, k_dat, k_fnV, k_fnV1, k_seqI, k_seqI1, k_seqI2, k_rng1, k_rng1', k_rng2, k_rng2a, k_rng2b, k_enum, k_enum1, k_zip, k_zip1, k_zip2, k_P, k_P1, k_noP, k_sl, k_sl1, k_sl2, k_sl3, k_cmp, k_cmp1, k_yes, k_seq, k_seq1, k_seq2, k_seq3, k_seq4, k_next, k_brk, k_cont, k_retN, k_asg, k_asg1, k_asgV, k_asgV1, k_asgV2, k_asgV3, k_asgO, k_asgO1, k_asgG, k_asgG1, k_nx, k_gN, k_gT, k_gC, k_g1, k_g0, k_par, k_par1, k_par2, k_drop, k_drop1, k_ret, k_ret1, k_retV, k_retV1, k_ifS, k_ifS1, k_ifS0, k_ifSD, k_fz_ap, k_app, k_app1, k_for, k_for1, k_aug1, k_fun1, k_fun2, k_idx, k_idx1, k_idx2, k_lenC, k_lenC1, k_popC, k_bset, k_getC, k_getC1, k_getC2, k_bg1, k_bg2, k_bs1, k_bs2, k_bc, k_pop1, k_chn, k_chn1, k_chn2, k_chn3t, k_chn3f, k_chn4, k_tfo, k_chnB, k_chB, k_rev, k_rev1, k_revL, k_revL1, k_rg1, k_rg1', k_tupRg, k_tupRg1, k_lstRg, k_lstRg1, k_srt, k_srt1, k_parLE, k_parLE1, k_parLE2, k_augA, k_augA1, sz0, sz1, sz2, sz3, sz4, sz5, sz6, k_fun, eqI, neI, addI, subI, ltI, leI, gtI, geI, truD, isTy, tyName, pyLen, pyAbs, pyMin2, pyMax2, pyInt, pyTuple, pyList, pyIs, pyIsNot, isNon, nown, wipeD, Option.map_some, List.getElem?_cons_zero, List.getElem?_cons_succ, List.set_cons_zero, List.set_cons_succ, List.map_cons, List.map_nil, List.cons_append, List.nil_append, List.length_cons, List.length_nil, List.all_cons, List.all_nil, List.replicate_succ, List.replicate_zero, Bool.and_true, Bool.true_and, Bool.and_self, Bool.not_true, Bool.not_false, and_self, and_true, true_and, if_true, if_false, reduceIte, reduceCtorEq, decide_true, decide_false, Bool.false_eq_true, Nat.reduceAdd, Nat.reduceEqDiff, even_trays_L1, nD_len, e4, e1, s1, s2, q1, e2, e3, hFe, q2, q3, hsz2, nD_snoc]
      · have q3 : ((l : Int) ≤ (ws.length : Int) - (i : Int)) = False := eq_false (by omega)
        refine ⟨fun _ => ⟨some (.dat (.int l)), some (.dat (.bool true)), ?_⟩, fun h => absurd h.2.2.2.2 c3⟩
        simp only [k_dC, k_var_ap, k_varO_ap, k_varV_ap, k_op, k_op1, k_op2, k_fin, k_tst, k_t1, k_t2, k_tF, k_opB, k_B, k_neg, k_neg1, k_andT, k_orT, k_notT, k_and1, k_and0, k_or1, k_or0, k_not1, k_tru, k_tru1, k_andV, k_orV, k_notV, k_andV1, k_andV0, k_orV1, k_orV0, k_notV1, k_if, k_if1, k_if0, k_ifD, k_nil, k_cons, k_cons1, k_cons2, k_nilA, k_consA, k_consA1, k_consA2, k_V, k_V1, k_F, k_F1, k_tup, k_tup1, k_lst, k_lst1, k_cl, k_cl1, k_clL, k_clL1, k_finL, k_isi, k_isi1, k_fn, k_fn1, k_dat, k_fnV, k_fnV1, k_seqI, k_seqI1, k_seqI2, k_rng1, k_rng1', k_rng2, k_rng2a, k_rng2b, k_enum, k_enum1, k_zip, k_zip1, k_zip2, k_P, k_P1, k_noP, k_sl, k_sl1, k_sl2, k_sl3, k_cmp, k_cmp1, k_yes, k_seq, k_seq1, k_seq2, k_seq3, k_seq4, k_next, k_brk, k_cont, k_retN, k_asg, k_asg1, k_asgV, k_asgV1, k_asgV2, k_asgV3, k_asgO, k_asgO1, k_asgG, k_asgG1, k_nx, k_gN, k_gT, k_gC, k_g1, k_g0, k_par, k_par1, k_par2, k_drop, k_drop1, k_ret, k_ret1, k_retV, k_retV1, k_ifS, k_ifS1, k_ifS0, k_ifSD, k_fz_ap, k_app, k_app1, k_for, k_for1, k_aug1, k_fun1, k_fun2, k_idx, k_idx1, k_idx2, k_lenC, k_lenC1, k_popC, k_bset, k_getC, k_getC1, k_getC2, k_bg1, k_bg2, k_bs1, k_bs2, k_bc, k_pop1, k_chn, k_chn1, k_chn2, k_chn3t, k_chn3f, k_chn4, k_tfo, k_chnB, k_chB, k_rev, k_rev1, k_revL, k_revL1, k_rg1, k_rg1', k_tupRg, k_tupRg1, k_lstRg, k_lstRg1, k_srt, k_srt1, k_parLE, k_parLE1, k_parLE2, k_augA, k_augA1, sz0, sz1, sz2, sz3, sz4, sz5, sz6, k_fun, eqI, neI, addI, subI, ltI, leI, gtI, geI, truD, isTy, tyName, pyLen, pyAbs, pyMin2, pyMax2, pyInt, pyTuple, pyList, pyIs, pyIsNot, isNon, nown, wipeD, Option.map_some, List.getElem?_cons_zero, List.getElem?_cons_succ, List.set_cons_zero, List.set_cons_succ, List.map_cons, List.map_nil, List.cons_append, List.nil_append, List.length_cons, List.length_nil, List.all_cons, List.all_nil, List.replicate_succ, List.replicate_zero, Bool.and_true, Bool.true_and, Bool.and_self, Bool.not_true, Bool.not_false, and_self, and_true, true_and, if_true, if_false, reduceIte, reduceCtorEq, decide_true, decide_false, Bool.false_eq_true, Nat.reduceAdd, Nat.reduceEqDiff, even_trays_L1, nD_len, e4, e1, s1, s2, q1, e2, e3, hFe, q2, q3]
    · have q2 : (((F v ws i : Nat) : Int) ≤ (l : Int)) = False := eq_false (by omega)
      refine ⟨fun _ => ⟨some (.dat (.int l)), some (.dat (.bool false)), ?_⟩, fun h => absurd h.2.2.2.1 c2⟩
      simp only [k_dC, k_var_ap, k_varO_ap, k_varV_ap, k_op, k_op1, k_op2, k_fin, k_tst, k_t1, k_t2, k_tF, k_opB, k_B, k_neg, k_neg1, k_andT, k_orT, k_notT, k_and1, k_and0, k_or1, k_or0, k_not1, k_tru, k_tru1, k_andV, k_orV, k_notV, k_andV1, k_andV0, k_orV1, k_orV0, k_notV1, k_if, k_if1, k_if0, k_ifD, k_nil, k_cons, k_cons1, k_cons2, k_nilA, k_consA, k_consA1, k_consA2, k_V, k_V1, k_F, k_F1, k_tup, k_tup1, k_lst, k_lst1, k_cl, k_cl1, k_clL, k_clL1, k_finL, k_isi, k_isi1, k_fn, k_fn1, k_dat, k_fnV, k_fnV1, k_seqI, k_seqI1, k_seqI2, k_rng1, k_rng1', k_rng2, k_rng2a, k_rng2b, k_enum, k_enum1, k_zip, k_zip1, k_zip2, k_P, k_P1, k_noP, k_sl, k_sl1, k_sl2, k_sl3, k_cmp, k_cmp1, k_yes, k_seq, k_seq1, k_seq2, k_seq3, k_seq4, k_next, k_brk, k_cont, k_retN, k_asg, k_asg1, k_asgV, k_asgV1, k_asgV2, k_asgV3, k_asgO, k_asgO1, k_asgG, k_asgG1, k_nx, k_gN, k_gT, k_gC, k_g1, k_g0, k_par, k_par1, k_par2, k_drop, k_drop1, k_ret, k_ret1, k_retV, k_retV1, k_ifS, k_ifS1, k_ifS0, k_ifSD, k_fz_ap, k_app, k_app1, k_for, k_for1, k_aug1, k_fun1, k_fun2, k_idx, k_idx1, k_idx2, k_lenC, k_lenC1, k_popC, k_bset, k_getC, k_getC1, k_getC2, k_bg1, k_bg2, k_bs1, k_bs2, k_bc, k_pop1, k_chn, k_chn1, k_chn2, k_chn3t, k_chn3f, k_chn4, k_tfo, k_chnB, k_chB, k_rev, k_rev1, k_revL, k_revL1, k_rg1, k_rg1', k_tupRg, k_tupRg1, k_lstRg, k_lstRg1, k_srt, k_srt1, k_parLE, k_parLE1, k_parLE2, k_augA, k_augA1, sz0, sz1, sz2, sz3, sz4, sz5, sz6, k_fun, eqI, neI, addI, subI, ltI, leI, gtI, geI, truD, isTy, tyName, pyLen, pyAbs, pyMin2, pyMax2, pyInt, pyTuple, pyList, pyIs, pyIsNot, isNon, nown, wipeD, Option.map_some, List.getElem?_cons_zero, List.getElem?_cons_succ, List.set_cons_zero, List.set_cons_succ, List.map_cons, List.map_nil, List.cons_append, List.nil_append, List.length_cons, List.length_nil, List.all_cons, List.all_nil, List.replicate_succ, List.replicate_zero, Bool.and_true, Bool.true_and, Bool.and_self, Bool.not_true, Bool.not_false, and_self, and_true, true_and, if_true, if_false, reduceIte, reduceCtorEq, decide_true, decide_false, Bool.false_eq_true, Nat.reduceAdd, Nat.reduceEqDiff, even_trays_L1, nD_len, e4, e1, s1, s2, q1, e2, e3, hFe, q2]
  · have q1 : (((P ws i - P ws a : Nat) : Int) ≤ (v : Int)) = False := eq_false (by omega)
    refine ⟨fun _ => ⟨some (.dat (.int l)), some (.dat (.bool false)), ?_⟩, fun h => absurd h.2.2.1 c1⟩
    simp only [k_dC, k_var_ap, k_varO_ap, k_varV_ap, k_op, k_op1, k_op2, k_fin, k_tst, k_t1, k_t2, k_tF, k_opB, k_B, k_neg, k_neg1, k_andT, k_orT, k_notT, k_and1, k_and0, k_or1, k_or0, k_not1, k_tru, k_tru1, k_andV, k_orV, k_notV, k_andV1, k_andV0, k_orV1, k_orV0, k_notV1, k_if, k_if1, k_if0, k_ifD, k_nil, k_cons, k_cons1, k_cons2, k_nilA, k_consA, k_consA1, k_consA2, k_V, k_V1, k_F, k_F1, k_tup, k_tup1, k_lst, k_lst1, k_cl, k_cl1, k_clL, k_clL1, k_finL, k_isi, k_isi1, k_fn, k_fn1, k_dat, k_fnV, k_fnV1, k_seqI, k_seqI1, k_seqI2, k_rng1, k_rng1', k_rng2, k_rng2a, k_rng2b, k_enum, k_enum1, k_zip, k_zip1, k_zip2, k_P, k_P1, k_noP, k_sl, k_sl1, k_sl2, k_sl3, k_cmp, k_cmp1, k_yes, k_seq, k_seq1, k_seq2, k_seq3, k_seq4, k_next, k_brk, k_cont, k_retN, k_asg, k_asg1, k_asgV, k_asgV1, k_asgV2, k_asgV3, k_asgO, k_asgO1, k_asgG, k_asgG1, k_nx, k_gN, k_gT, k_gC, k_g1, k_g0, k_par, k_par1, k_par2, k_drop, k_drop1, k_ret, k_ret1, k_retV, k_retV1, k_ifS, k_ifS1, k_ifS0, k_ifSD, k_fz_ap, k_app, k_app1, k_for, k_for1, k_aug1, k_fun1, k_fun2, k_idx, k_idx1, k_idx2, k_lenC, k_lenC1, k_popC, k_bset, k_getC, k_getC1, k_getC2, k_bg1, k_bg2, k_bs1, k_bs2, k_bc, k_pop1, k_chn, k_chn1, k_chn2, k_chn3t, k_chn3f, k_chn4, k_tfo, k_chnB, k_chB, k_rev, k_rev1, k_revL, k_revL1, k_rg1, k_rg1', k_tupRg, k_tupRg1, k_lstRg, k_lstRg1, k_srt, k_srt1, k_parLE, k_parLE1, k_parLE2, k_augA, k_augA1, sz0, sz1, sz2, sz3, sz4, sz5, sz6, k_fun, eqI, neI, addI, subI, ltI, leI, gtI, geI, truD, isTy, tyName, pyLen, pyAbs, pyMin2, pyMax2, pyInt, pyTuple, pyList, pyIs, pyIsNot, isNon, nown, wipeD, Option.map_some, List.getElem?_cons_zero, List.getElem?_cons_succ, List.set_cons_zero, List.set_cons_succ, List.map_cons, List.map_nil, List.cons_append, List.nil_append, List.length_cons, List.length_nil, List.all_cons, List.all_nil, List.replicate_succ, List.replicate_zero, Bool.and_true, Bool.true_and, Bool.and_self, Bool.not_true, Bool.not_false, and_self, and_true, true_and, if_true, if_false, reduceIte, reduceCtorEq, decide_true, decide_false, Bool.false_eq_true, Nat.reduceAdd, Nat.reduceEqDiff, even_trays_L1, nD_len, e4, e1, s1, s2, q1, e2]
theorem ev_for (w : Int) (ws : List Nat) (many v : Nat) (f : List Nat) (hn : ws.length < 1000) (h0 : 0 < f.length) (hf : f.length < many) (hfl : f.length < 1000) (i : Nat) (hc : cnd v ws (f.getD (f.length - 1) 0) (many - f.length) i) (hl : ∀ j, cnd v ws (f.getD (f.length - 1) 0) (many - f.length) j → i ≤ j) (B : Bx) :
    ∀ (m s : Nat) (a b c : Option Sv), i - s = m → s ≤ i → f.getD (f.length - 1) 0 < s → ∃ a' b' c', forGo (gN 5) even_trays_L1 (rngD s (ws.length - s)) (eS w ws many v f a b c) B = some (.nx (eS w ws many v (f ++ [i]) a' b' c') B) := by
  intro m
  have hi2 := hc.2.1
  induction m with
  | zero =>
    intro s a b c hm hs hsa
    have : s = i := by omega
    subst this
    obtain ⟨k, hk⟩ : ∃ k, ws.length - s = k + 1 := ⟨ws.length - s - 1, by omega⟩
    obtain ⟨b', c', e⟩ := (ev_body w ws many v f hn h0 hf hfl s hsa hi2 b c B).2 hc
    rw [hk, rngD_succ]
    exact ⟨_, b', c', forGo_brk rfl e⟩
  | succ m ih =>
    intro s a b c hm hs hsa
    have hlt : s < i := by omega
    obtain ⟨k, hk⟩ : ∃ k, ws.length - s = k + 1 := ⟨ws.length - s - 1, by omega⟩
    obtain ⟨b', c', e⟩ := (ev_body w ws many v f hn h0 hf hfl s hsa (by omega) b c B).1 (fun h => by have := hl s h; omega)
    obtain ⟨a2, b2, c2, e2⟩ := ih (s + 1) (some (.dat (.int s))) b' c' (by omega) (by omega) (by omega)
    rw [show ws.length - (s + 1) = k by omega] at e2
    rw [hk, rngD_succ]
    refine ⟨a2, b2, c2, ?_⟩
    rw [forGo_step (s1 := eS w ws many v f (some (.dat (.int s))) b c) (s2 := eS w ws many v f (some (.dat (.int s))) b' c') (B2 := B) rfl e]
    exact e2
theorem ev_while (w : Int) (ws : List Nat) (many v : Nat) (hn : ws.length < 1000) (hm : many ≤ ws.length) (hw : ∀ x ∈ ws, x ≤ v) (B : Bx) : ∀ (k : Nat) (f : List Nat) (a b c : Option Sv), many - f.length = k → EvP v ws many f →
    ∃ R a' b' c', EvP v ws many R ∧ R.length = many ∧ dWhile (dTst pyLt (dCl pyLen (dCons (dVarO 4) dNil)) (dVarO 2)) even_trays_W2 (eS w ws many v f a b c) B = some (.nx (eS w ws many v R a' b' c') B) := by
  intro k
  induction k with
  | zero =>
    intro f a b c hk he
    have hlen : f.length = many := by have := he.le; omega
    have q : ((f.length : Int) < (many : Int)) = False := eq_false (by omega)
    refine ⟨f, a, b, c, he, hlen, dWhile_end ?_⟩
    unfold eS
    simp only [k_dC, k_var_ap, k_varO_ap, k_varV_ap, k_op, k_op1, k_op2, k_fin, k_tst, k_t1, k_t2, k_tF, k_opB, k_B, k_neg, k_neg1, k_andT, k_orT, k_notT, k_and1, k_and0, k_or1, k_or0, k_not1, k_tru, k_tru1, k_andV, k_orV, k_notV, k_andV1, k_andV0, k_orV1, k_orV0, k_notV1, k_if, k_if1, k_if0, k_ifD, k_nil, k_cons, k_cons1, k_cons2, k_nilA, k_consA, k_consA1, k_consA2, k_V, k_V1, k_F, k_F1, k_tup, k_tup1, k_lst, k_lst1, k_cl, k_cl1, k_clL, k_clL1, k_finL, k_isi, k_isi1, k_fn, k_fn1, k_dat, k_fnV, k_fnV1, k_seqI, k_seqI1, k_seqI2, k_rng1, k_rng1', k_rng2, k_rng2a, k_rng2b, k_enum, k_enum1, k_zip, k_zip1, k_zip2, k_P, k_P1, k_noP, k_sl, k_sl1, k_sl2, k_sl3, k_cmp, k_cmp1, k_yes, k_seq, k_seq1, k_seq2, k_seq3, k_seq4, k_next, k_brk, k_cont, k_retN, k_asg, k_asg1, k_asgV, k_asgV1, k_asgV2, k_asgV3, k_asgO, k_asgO1, k_asgG, k_asgG1, k_nx, k_gN, k_gT, k_gC, k_g1, k_g0, k_par, k_par1, k_par2, k_drop, k_drop1, k_ret, k_ret1, k_retV, k_retV1, k_ifS, k_ifS1, k_ifS0, k_ifSD, k_fz_ap, k_app, k_app1, k_for, k_for1, k_aug1, k_fun1, k_fun2, k_idx, k_idx1, k_idx2, k_lenC, k_lenC1, k_popC, k_bset, k_getC, k_getC1, k_getC2, k_at0, k_at1, k_at2, k_bg1, k_bg2, k_bs1, k_bs2, k_bc, k_pop1, k_chn, k_chn1, k_chn2, k_chn3t, k_chn3f, k_chn4, k_tfo, k_chnB, k_chB, k_rev, k_rev1, k_revL, k_revL1, k_rg1, k_rg1', k_tupRg, k_tupRg1, k_lstRg, k_lstRg1, k_srt, k_srt1, k_parLE, k_parLE1, k_parLE2, k_augA, k_augA1, sz0, sz1, sz2, sz3, sz4, sz5, sz6, k_fun, eqI, neI, addI, subI, ltI, leI, gtI, geI, truD, isTy, tyName, pyLen, pyAbs, pyMin2, pyMax2, pyInt, pyTuple, pyList, pyIx, pyIs, pyIsNot, isNon, nown, wipeD, Option.map_some, List.getElem?_cons_zero, List.getElem?_cons_succ, List.set_cons_zero, List.set_cons_succ, List.map_cons, List.map_nil, List.cons_append, List.nil_append, List.length_cons, List.length_nil, List.all_cons, List.all_nil, List.replicate_succ, List.replicate_zero, Bool.and_true, Bool.true_and, Bool.and_self, Bool.not_true, Bool.not_false, and_self, and_true, true_and, if_true, if_false, reduceIte, reduceCtorEq, decide_true, decide_false, Bool.false_eq_true, Nat.reduceAdd, Nat.reduceEqDiff, nD_len, q]
  | succ k ih =>
    intro f a b c hk he
    have hlt : f.length < many := by omega
    have q : ((f.length : Int) < (many : Int)) = True := eq_true (by omega)
    obtain ⟨i, hc, hl⟩ := ev_next hw he hlt
    have h0 := he.ne
    obtain ⟨a2, b2, c2, e2⟩ := ev_for w ws many v f hn h0 hlt (by omega) i hc hl B (i - (f.getD (f.length - 1) 0 + 1)) (f.getD (f.length - 1) 0 + 1) a b c rfl hc.1 (by omega)
    obtain ⟨R, a3, b3, c3, r1, r2, r3⟩ := ih (f ++ [i]) a2 b2 c2 (by simp; omega) (ev_step he hlt hc hl)
    have ht : (dTst pyLt (dCl pyLen (dCons (dVarO 4) dNil)) (dVarO 2)) (eS w ws many v f a b c) B = some (true, B) := by
      unfold eS
      simp only [k_dC, k_var_ap, k_varO_ap, k_varV_ap, k_op, k_op1, k_op2, k_fin, k_tst, k_t1, k_t2, k_tF, k_opB, k_B, k_neg, k_neg1, k_andT, k_orT, k_notT, k_and1, k_and0, k_or1, k_or0, k_not1, k_tru, k_tru1, k_andV, k_orV, k_notV, k_andV1, k_andV0, k_orV1, k_orV0, k_notV1, k_if, k_if1, k_if0, k_ifD, k_nil, k_cons, k_cons1, k_cons2, k_nilA, k_consA, k_consA1, k_consA2, k_V, k_V1, k_F, k_F1, k_tup, k_tup1, k_lst, k_lst1, k_cl, k_cl1, k_clL, k_clL1, k_finL, k_isi, k_isi1, k_fn, k_fn1, k_dat, k_fnV, k_fnV1, k_seqI, k_seqI1, k_seqI2, k_rng1, k_rng1', k_rng2, k_rng2a, k_rng2b, k_enum, k_enum1, k_zip, k_zip1, k_zip2, k_P, k_P1, k_noP, k_sl, k_sl1, k_sl2, k_sl3, k_cmp, k_cmp1, k_yes, k_seq, k_seq1, k_seq2, k_seq3, k_seq4, k_next, k_brk, k_cont, k_retN, k_asg, k_asg1, k_asgV, k_asgV1, k_asgV2, k_asgV3, k_asgO, k_asgO1, k_asgG, k_asgG1, k_nx, k_gN, k_gT, k_gC, k_g1, k_g0, k_par, k_par1, k_par2, k_drop, k_drop1, k_ret, k_ret1, k_retV, k_retV1, k_ifS, k_ifS1, k_ifS0, k_ifSD, k_fz_ap, k_app, k_app1, k_for, k_for1, k_aug1, k_fun1, k_fun2, k_idx, k_idx1, k_idx2, k_lenC, k_lenC1, k_popC, k_bset, k_getC, k_getC1, k_getC2, k_at0, k_at1, k_at2, k_bg1, k_bg2, k_bs1, k_bs2, k_bc, k_pop1, k_chn, k_chn1, k_chn2, k_chn3t, k_chn3f, k_chn4, k_tfo, k_chnB, k_chB, k_rev, k_rev1, k_revL, k_revL1, k_rg1, k_rg1', k_tupRg, k_tupRg1, k_lstRg, k_lstRg1, k_srt, k_srt1, k_parLE, k_parLE1, k_parLE2, k_augA, k_augA1, sz0, sz1, sz2, sz3, sz4, sz5, sz6, k_fun, eqI, neI, addI, subI, ltI, leI, gtI, geI, truD, isTy, tyName, pyLen, pyAbs, pyMin2, pyMax2, pyInt, pyTuple, pyList, pyIx, pyIs, pyIsNot, isNon, nown, wipeD, Option.map_some, List.getElem?_cons_zero, List.getElem?_cons_succ, List.set_cons_zero, List.set_cons_succ, List.map_cons, List.map_nil, List.cons_append, List.nil_append, List.length_cons, List.length_nil, List.all_cons, List.all_nil, List.replicate_succ, List.replicate_zero, Bool.and_true, Bool.true_and, Bool.and_self, Bool.not_true, Bool.not_false, and_self, and_true, true_and, if_true, if_false, reduceIte, reduceCtorEq, decide_true, decide_false, Bool.false_eq_true, Nat.reduceAdd, Nat.reduceEqDiff, nD_len, q]
    have hb : even_trays_W2 (eS w ws many v f a b c) B = some (.nx (eS w ws many v (f ++ [i]) a2 b2 c2) B) := by
      have e1 := ixm1 f h0
      have hlt2 := he.lt
      unfold eS at e2 ⊢
      generalize f.getD (f.length - 1) 0 = s at *
      have r1 := rng_ok2 (i := (s : Int) + 1) (j := (ws.length : Int)) (by omega) (by omega) (by omega) (by omega)
      have r2 : ((ws.length : Int) - ((s : Int) + 1)).toNat = ws.length - (s + 1) := by omega
      rw [show ((s + 1 : Nat) : Int) = (s : Int) + 1 from rfl] at e2
      simp only [k_dC, k_var_ap, k_varO_ap, k_varV_ap, k_op, k_op1, k_op2, k_fin, k_tst, k_t1, k_t2, k_tF, k_opB, k_B, k_neg, k_neg1, k_andT, k_orT, k_notT, k_and1, k_and0, k_or1, k_or0, k_not1, k_tru, k_tru1, k_andV, k_orV, k_notV, k_andV1, k_andV0, k_orV1, k_orV0, k_notV1, k_if, k_if1, k_if0, k_ifD, k_nil, k_cons, k_cons1, k_cons2, k_nilA, k_consA, k_consA1, k_consA2, k_V, k_V1, k_F, k_F1, k_tup, k_tup1, k_lst, k_lst1, k_cl, k_cl1, k_clL, k_clL1, k_finL, k_isi, k_isi1, k_fn, k_fn1, k_dat, k_fnV, k_fnV1, k_seqI, k_seqI1, k_seqI2, k_rng1, k_rng1', k_rng2, k_rng2a, k_rng2b, k_enum, k_enum1, k_zip, k_zip1, k_zip2, k_P, k_P1, k_noP, k_sl, k_sl1, k_sl2, k_sl3, k_cmp, k_cmp1, k_yes, k_seq, k_seq1, k_seq2, k_seq3, k_seq4, k_next, k_brk, k_cont, k_retN, k_asg, k_asg1, k_asgV, k_asgV1, k_asgV2, k_asgV3, k_asgO, k_asgO1, k_asgG, k_asgG1, k_nx, k_gN, k_gT, k_gC, k_g1, k_g0, k_par, k_par1, k_par2, k_drop, k_drop1, k_ret, k_ret1, k_retV, k_retV1, k_ifS, k_ifS1, k_ifS0, k_ifSD, k_fz_ap, k_app, k_app1, k_for, k_for1, k_aug1, k_fun1, k_fun2, k_idx, k_idx1, k_idx2, k_lenC, k_lenC1, k_popC, k_bset, k_getC, k_getC1, k_getC2, k_bg1, k_bg2, k_bs1, k_bs2, k_bc, k_pop1, k_chn, k_chn1, k_chn2, k_chn3t, k_chn3f, k_chn4, k_tfo, k_chnB, k_chB, k_rev, k_rev1, k_revL, k_revL1, k_rg1, k_rg1', k_tupRg, k_tupRg1, k_lstRg, k_lstRg1, k_srt, k_srt1, k_parLE, k_parLE1, k_parLE2, k_augA, k_augA1, sz0, sz1, sz2, sz3, sz4, sz5, sz6, k_fun, eqI, neI, addI, subI, ltI, leI, gtI, geI, truD, isTy, tyName, pyLen, pyAbs, pyMin2, pyMax2, pyInt, pyTuple, pyList, pyIs, pyIsNot, isNon, nown, wipeD, Option.map_some, List.getElem?_cons_zero, List.getElem?_cons_succ, List.set_cons_zero, List.set_cons_succ, List.map_cons, List.map_nil, List.cons_append, List.nil_append, List.length_cons, List.length_nil, List.all_cons, List.all_nil, List.replicate_succ, List.replicate_zero, Bool.and_true, Bool.true_and, Bool.and_self, Bool.not_true, Bool.not_false, and_self, and_true, true_and, if_true, if_false, reduceIte, reduceCtorEq, decide_true, decide_false, Bool.false_eq_true, Nat.reduceAdd, Nat.reduceEqDiff, even_trays_W2, e1, nD_len, r1, r2, e2]
    exact ⟨R, a3, b3, c3, r1, r2, dWhile_turn ht hb r3⟩
/-- the even laying -/
theorem sp_even (w : Int) (ws : List Nat) (many u : Nat) (hn : ws.length < 1000) (h0 : ws ≠ []) (h1 : 1 ≤ many) (hm : many ≤ ws.length) (hx : ∀ x ∈ ws, x ≤ u) (hw : (filled (u : Int) ws).length ≤ many) (B : Bx) :
    ∃ v R, mx ws ≤ v ∧ (filled (v : Int) ws).length ≤ many ∧ (∀ u, mx ws ≤ u → u < v → many < (filled (u : Int) ws).length) ∧ EvP v ws many R ∧ R.length = many ∧ d_even_trays [.dat (.int w), .dat (.tuple (nD ws)), .dat (.int many)] B = some (.dat (.tuple (nD R)), B) := by
  obtain ⟨v, a1, a2, a3, a4, a5⟩ := sp_narrowest ws many u hn h0 hx hw B
  have hv : ∀ x ∈ ws, x ≤ v := (mx_le ws v).mp a1
  have hlen : 0 < ws.length := List.length_pos_iff.mpr h0
  have he : EvP v ws many [0] := by
    refine ⟨by simp, by simpa using h1, rfl, fun k hk => by simp at hk, by simpa using hlen, ?_, ?_⟩
    · show (filled (v : Int) (ws.drop 0)).length ≤ _
      rw [List.drop_zero]
      simp
      omega
    · simp; omega
  obtain ⟨R, a', b', c', r1, r2, r3⟩ := ev_while w ws many v hn hm hv B (many - 1) [0] none none none (by simp) he
  refine ⟨v, R, a1, a3, a4, r1, r2, ?_⟩
  have hemp : ws.isEmpty = false := by
    cases ws with
    | nil => exact absurd rfl h0
    | cons _ _ => rfl
  unfold eS at r3
  have z : nD [0] = [.int 0] := rfl
  rw [z] at r3
  simp only [k_dC, k_var_ap, k_varO_ap, k_varV_ap, k_op, k_op1, k_op2, k_fin, k_tst, k_t1, k_t2, k_tF, k_opB, k_B, k_neg, k_neg1, k_andT, k_orT, k_notT, k_and1, k_and0, k_or1, k_or0, k_not1, k_tru, k_tru1, k_andV, k_orV, k_notV, k_andV1, k_andV0, k_orV1, k_orV0, k_notV1, k_if, k_if1, k_if0, k_ifD, k_nil, k_cons, k_cons1, k_cons2, k_nilA, k_consA, k_consA1, k_consA2, k_V, k_V1, k_F, k_F1, k_tup, k_tup1, k_lst, k_lst1, k_cl, k_cl1, k_clL, k_clL1, k_finL, k_isi, k_isi1, k_fn, k_fn1, k_dat, k_fnV, k_fnV1, k_seqI, k_seqI1, k_seqI2, k_rng1, k_rng1', k_rng2, k_rng2a, k_rng2b, k_enum, k_enum1, k_zip, k_zip1, k_zip2, k_P, k_P1, k_noP, k_sl, k_sl1, k_sl2, k_sl3, k_cmp, k_cmp1, k_yes, k_seq, k_seq1, k_seq2, k_seq3, k_seq4, k_next, k_brk, k_cont, k_retN, k_asg, k_asg1, k_asgV, k_asgV1, k_asgV2, k_asgV3, k_asgO, k_asgO1, k_asgG, k_asgG1, k_nx, k_gN, k_gT, k_gC, k_g1, k_g0, k_par, k_par1, k_par2, k_drop, k_drop1, k_ret, k_ret1, k_retV, k_retV1, k_ifS, k_ifS1, k_ifS0, k_ifSD, k_fz_ap, k_app, k_app1, k_for, k_for1, k_aug1, k_fun1, k_fun2, k_idx, k_idx1, k_idx2, k_lenC, k_lenC1, k_popC, k_bset, k_getC, k_getC1, k_getC2, k_bg1, k_bg2, k_bs1, k_bs2, k_bc, k_pop1, k_chn, k_chn1, k_chn2, k_chn3t, k_chn3f, k_chn4, k_tfo, k_chnB, k_chB, k_rev, k_rev1, k_revL, k_revL1, k_rg1, k_rg1', k_tupRg, k_tupRg1, k_lstRg, k_lstRg1, k_srt, k_srt1, k_parLE, k_parLE1, k_parLE2, k_augA, k_augA1, sz0, sz1, sz2, sz3, sz4, sz5, sz6, k_fun, eqI, neI, addI, subI, ltI, leI, gtI, geI, truD, isTy, tyName, pyLen, pyAbs, pyMin2, pyMax2, pyInt, pyTuple, pyList, pyIs, pyIsNot, isNon, nown, wipeD, Option.map_some, List.getElem?_cons_zero, List.getElem?_cons_succ, List.set_cons_zero, List.set_cons_succ, List.map_cons, List.map_nil, List.cons_append, List.nil_append, List.length_cons, List.length_nil, List.all_cons, List.all_nil, List.replicate_succ, List.replicate_zero, Bool.and_true, Bool.true_and, Bool.and_self, Bool.not_true, Bool.not_false, and_self, and_true, true_and, if_true, if_false, reduceIte, reduceCtorEq, decide_true, decide_false, Bool.false_eq_true, Nat.reduceAdd, Nat.reduceEqDiff, d_even_trays, b_even_trays, sz0, eqTE, hemp, a5, r3]
theorem sp_even0 (w : Int) (many : Int) (B : Bx) : d_even_trays [.dat (.int w), .dat (.tuple (nD [])), .dat (.int many)] B = some (.dat (.tuple (nD [])), B) := by
  have e := eqTE []
  simp only [k_dC, k_var_ap, k_varO_ap, k_varV_ap, k_op, k_op1, k_op2, k_fin, k_tst, k_t1, k_t2, k_tF, k_opB, k_B, k_neg, k_neg1, k_andT, k_orT, k_notT, k_and1, k_and0, k_or1, k_or0, k_not1, k_tru, k_tru1, k_andV, k_orV, k_notV, k_andV1, k_andV0, k_orV1, k_orV0, k_notV1, k_if, k_if1, k_if0, k_ifD, k_nil, k_cons, k_cons1, k_cons2, k_nilA, k_consA, k_consA1, k_consA2, k_V, k_V1, k_F, k_F1, k_tup, k_tup1, k_lst, k_lst1, k_cl, k_cl1, k_clL, k_clL1, k_finL, k_isi, k_isi1, k_fn, k_fn1, k_dat, k_fnV, k_fnV1, k_seqI, k_seqI1, k_seqI2, k_rng1, k_rng1', k_rng2, k_rng2a, k_rng2b, k_enum, k_enum1, k_zip, k_zip1, k_zip2, k_P, k_P1, k_noP, k_sl, k_sl1, k_sl2, k_sl3, k_cmp, k_cmp1, k_yes, k_seq, k_seq1, k_seq2, k_seq3, k_seq4, k_next, k_brk, k_cont, k_retN, k_asg, k_asg1, k_asgV, k_asgV1, k_asgV2, k_asgV3, k_asgO, k_asgO1, k_asgG, k_asgG1, k_nx, k_gN, k_gT, k_gC, k_g1, k_g0, k_par, k_par1, k_par2, k_drop, k_drop1, k_ret, k_ret1, k_retV, k_retV1, k_ifS, k_ifS1, k_ifS0, k_ifSD, k_fz_ap, k_app, k_app1, k_for, k_for1, k_aug1, k_fun1, k_fun2, k_idx, k_idx1, k_idx2, k_lenC, k_lenC1, k_popC, k_bset, k_getC, k_getC1, k_getC2, k_bg1, k_bg2, k_bs1, k_bs2, k_bc, k_pop1, k_chn, k_chn1, k_chn2, k_chn3t, k_chn3f, k_chn4, k_tfo, k_chnB, k_chB, k_rev, k_rev1, k_revL, k_revL1, k_rg1, k_rg1', k_tupRg, k_tupRg1, k_lstRg, k_lstRg1, k_srt, k_srt1, k_parLE, k_parLE1, k_parLE2, k_augA, k_augA1, sz0, sz1, sz2, sz3, sz4, sz5, sz6, k_fun, eqI, neI, addI, subI, ltI, leI, gtI, geI, truD, isTy, tyName, pyLen, pyAbs, pyMin2, pyMax2, pyInt, pyTuple, pyList, pyIs, pyIsNot, isNon, nown, wipeD, Option.map_some, List.getElem?_cons_zero, List.getElem?_cons_succ, List.set_cons_zero, List.set_cons_succ, List.map_cons, List.map_nil, List.cons_append, List.nil_append, List.length_cons, List.length_nil, List.all_cons, List.all_nil, List.replicate_succ, List.replicate_zero, Bool.and_true, Bool.true_and, Bool.and_self, Bool.not_true, Bool.not_false, and_self, and_true, true_and, if_true, if_false, reduceIte, reduceCtorEq, decide_true, decide_false, Bool.false_eq_true, Nat.reduceAdd, Nat.reduceEqDiff, d_even_trays, b_even_trays, sz0, e, List.isEmpty_nil]
  rfl
end Dn

-- dk2
set_option Elab.async false
set_option linter.all false
set_option autoImplicit false
set_option maxRecDepth 100000
set_option maxHeartbeats 4000000
set_option exponentiation.threshold 100000
namespace Dn
open PySem Tr
def tD (r : List Nat) : PyData := .tuple (nD r)
theorem lt_rows (a b : List Nat) : PySem.W.dataLt (tD a) (tD b) = decide ((a.map fun (x : Nat) => (x : Int)) < (b.map fun (x : Nat) => (x : Int))) := by
  unfold tD
  rw [PySem.W.dataLt_tuple, nD_ints, nD_ints]
  exact PySem.W.dataLt_ints _ _
theorem lt_first {a b : List Nat} (hl : a.length = b.length) {k : Nat} (hk : k < a.length) (he : ∀ j, j < k → b.getD j 0 = a.getD j 0) (h : a.getD k 0 < b.getD k 0) : PySem.W.dataLt (tD a) (tD b) = true := by
  rw [lt_rows, decide_eq_true_eq, List.lt_iff_exists]
  right
  refine ⟨k, by simpa using hk, by simp; omega, fun j hj => ?_, ?_⟩
  · have := he j hj
    rw [gd_el (show j < b.length by omega), gd_el (show j < a.length by omega)] at this
    simp [this]
  · rw [gd_el (show k < b.length by omega), gd_el hk] at h
    simp
    exact h
theorem diff_first : ∀ (n : Nat) (a b : List Nat), a.length = n → b.length = n → a ≠ b → ∃ k, k < n ∧ (∀ j, j < k → b.getD j 0 = a.getD j 0) ∧ b.getD k 0 ≠ a.getD k 0
  | 0, a, b, ha, hb, h => absurd (by rw [List.length_eq_zero_iff.mp ha, List.length_eq_zero_iff.mp hb]) h
  | n + 1, x :: a, y :: b, ha, hb, h => by
    by_cases e : y = x
    · subst e
      obtain ⟨k, h1, h2, h3⟩ := diff_first n a b (Nat.succ.inj ha) (Nat.succ.inj hb) fun z => h (by rw [z])
      refine ⟨k + 1, by omega, fun j hj => ?_, h3⟩
      cases j with
      | zero => rfl
      | succ j => exact h2 j (by omega)
    · exact ⟨0, by omega, fun j hj => absurd hj (Nat.not_lt_zero _), e⟩
theorem ev_least {v many : Nat} {ws R r : List Nat} (hw : ∀ x ∈ ws, x ≤ v) (h : EvP v ws many R) (hR : R.length = many) (hr : Lay v ws ws.length r) (hl : r.length = many) (hne : r ≠ R) : PySem.W.dataLt (tD R) (tD r) = true := by
  obtain ⟨k, h1, h2, h3⟩ := diff_first many R r hR hl (Ne.symm hne)
  have := ev_first hw h hR hr hl k h1 h2
  exact lt_first (by omega) (by omega) h2 (by omega)
theorem sort_head (L : List (List Nat)) (R : List Nat) (hR : R ∈ L) (hm : ∀ r ∈ L, r ≠ R → PySem.W.dataLt (tD R) (tD r) = true) : pyIx (.list (sortD (L.map tD))) (.int 0) = some (tD R) := by
  have hp : (sortD (L.map tD)).Perm (L.map tD) := List.mergeSort_perm _ _
  have hs : (sortD (L.map tD)).Pairwise (fun a b => PySem.W.dataLe false id a b = true) := PySem.W.sort_pairwise (PySem.W.sortLe_total _ false _) _
  cases hS : sortD (L.map tD) with
  | nil =>
    rw [hS] at hp
    have : tD R ∈ ([] : List PyData) := hp.mem_iff.mpr (List.mem_map.mpr ⟨R, hR, rfl⟩)
    exact absurd this List.not_mem_nil
  | cons m t =>
    rw [hS] at hp hs
    obtain ⟨r, hr, e⟩ := List.mem_map.mp (hp.mem_iff.mp List.mem_cons_self)
    have hmem : tD R ∈ m :: t := hp.mem_iff.mpr (List.mem_map.mpr ⟨R, hR, rfl⟩)
    have hmr : m = tD R := by
      rcases List.mem_cons.mp hmem with z | z
      · exact z.symm
      · have hle : PySem.W.dataLe false id m (tD R) = true := (List.pairwise_cons.mp hs).1 _ z
        by_cases hc : r = R
        · rw [← e, hc]
        · have := hm r hr hc
          rw [PySem.W.dataLe_eq] at hle
          have hle' : (!PySem.W.dataLt (tD R) m) = true := hle
          rw [← e, this] at hle'
          cases hle'
    rw [hmr]
    show L2.atI (tD R :: t) 0 = _
    exact k_at0
theorem alike_ints2 : ∀ (a b : List Int), PySem.W.alikeAll (a.map PyData.int) (b.map PyData.int) = true
  | [], _ => by simp [PySem.W.alikeAll]
  | _ :: _, [] => by simp [PySem.W.alikeAll]
  | x :: xs, y :: ys => by
    simp only [List.map_cons]
    rw [PySem.W.alikeAll, alike_ints2 xs ys]
    simp [PySem.W.alike]
theorem sortOk_rows (L : List (List Nat)) (h : ∀ r ∈ L, r ≠ []) : sortOk (L.map tD) = true := by
  unfold sortOk
  rw [Bool.and_eq_true, Bool.and_eq_true, Bool.or_eq_true, List.all_eq_true, List.all_eq_true, List.all_eq_true]
  refine ⟨⟨fun d hd => ?_, fun d hd => ?_⟩, .inl fun d hd => ?_⟩
  · rw [List.all_eq_true]
    intro e he
    obtain ⟨a, _, rfl⟩ := List.mem_map.mp hd
    obtain ⟨b, _, rfl⟩ := List.mem_map.mp he
    unfold tD
    rw [PySem.W.alike, nD_ints, nD_ints]
    exact alike_ints2 _ _
  · obtain ⟨a, _, rfl⟩ := List.mem_map.mp hd
    have : PyData.depthAll (nD a) ≤ 0 := depthAll fun x hx => by
      obtain ⟨n, _, rfl⟩ := List.mem_map.mp hx
      exact Nat.le_refl _
    refine decide_eq_true ?_
    show PyData.depthAll (nD a) + 1 ≤ 60
    omega
  · obtain ⟨a, ha, rfl⟩ := List.mem_map.mp hd
    cases a with
    | nil => exact absurd rfl (h [] ha)
    | cons x r => rfl
/-! all rows -/
def rs : Nat → List (List Nat)
  | 0 => [[0]]
  | j + 1 => rs j ++ (rs j).map (· ++ [j + 1])
def allRows (n : Nat) : List (List Nat) := if n = 0 then [[]] else rs (n - 1)
theorem rs_len : ∀ j, (rs j).length = 2 ^ j
  | 0 => rfl
  | j + 1 => by
    unfold rs
    rw [List.length_append, List.length_map, rs_len j, Nat.pow_succ]
    omega
theorem rs_of : ∀ j r, r ∈ rs j → r.Pairwise (· < ·) ∧ r.getD 0 0 = 0 ∧ 0 < r.length ∧ ∀ x ∈ r, x ≤ j
  | 0, r, h => by
    have : r = [0] := by simpa [rs] using h
    subst this
    exact ⟨List.pairwise_singleton _ _, rfl, by simp, fun x hx => by simp at hx; omega⟩
  | j + 1, r, h => by
    unfold rs at h
    rcases List.mem_append.mp h with h | h
    · obtain ⟨h1, h2, h3, h4⟩ := rs_of j r h
      exact ⟨h1, h2, h3, fun x hx => by have := h4 x hx; omega⟩
    · obtain ⟨q, hq, rfl⟩ := List.mem_map.mp h
      obtain ⟨h1, h2, h3, h4⟩ := rs_of j q hq
      refine ⟨?_, by rw [snoc_lt h3]; exact h2, by simp, fun x hx => ?_⟩
      · rw [List.pairwise_append]
        refine ⟨h1, List.pairwise_singleton _ _, fun a ha b hb => ?_⟩
        have := h4 a ha
        simp at hb
        omega
      · rcases List.mem_append.mp hx with z | z
        · have := h4 x z; omega
        · simp at z; omega
theorem rs_mem : ∀ j r, r.Pairwise (· < ·) → r.getD 0 0 = 0 → 0 < r.length → (∀ x ∈ r, x ≤ j) → r ∈ rs j
  | 0, r, h1, h2, h3, h4 => by
    cases r with
    | nil => simp at h3
    | cons x t =>
      have hx : x = 0 := h2
      subst hx
      cases t with
      | nil => simp [rs]
      | cons y s =>
        have := (List.pairwise_cons.mp h1).1 y List.mem_cons_self
        have := h4 y (by simp)
        omega
  | j + 1, r, h1, h2, h3, h4 => by
    unfold rs
    rw [List.mem_append]
    have hr : r ≠ [] := List.length_pos_iff.mp h3
    have ec := List.dropLast_concat_getLast hr
    generalize r.dropLast = q at ec
    generalize r.getLast hr = l at ec
    subst ec
    rw [List.pairwise_append] at h1
    obtain ⟨p1, _, p3⟩ := h1
    have hl := h4 l (by simp)
    by_cases e : l = j + 1
    · right
      subst e
      refine List.mem_map.mpr ⟨q, ?_, rfl⟩
      have hq : 0 < q.length := by
        cases q with
        | nil => simp at h2
        | cons _ _ => simp
      refine rs_mem j q p1 (by rw [snoc_lt hq] at h2; exact h2) hq fun x hx => ?_
      have := p3 x hx (j + 1) (by simp)
      omega
    · left
      refine rs_mem j (q ++ [l]) (by rw [List.pairwise_append]; exact ⟨p1, List.pairwise_singleton _ _, p3⟩) h2 h3 fun x hx => ?_
      rcases List.mem_append.mp hx with z | z
      · have := p3 x z l (by simp)
        omega
      · simp at z; omega
theorem all_of {n : Nat} {r : List Nat} (h : r ∈ allRows n) : r.Pairwise (· < ·) ∧ (∀ x ∈ r, x < n) ∧ (0 < n → 0 < r.length ∧ r.getD 0 0 = 0) := by
  unfold allRows at h
  split at h
  · have : r = [] := by simpa using h
    subst this
    exact ⟨.nil, fun x hx => absurd hx List.not_mem_nil, fun h => by omega⟩
  · obtain ⟨h1, h2, h3, h4⟩ := rs_of _ _ h
    exact ⟨h1, fun x hx => by have := h4 x hx; omega, fun _ => ⟨h3, h2⟩⟩
theorem all_mem {w n : Nat} {ws r : List Nat} (h : Lay w ws n r) : r ∈ allRows n := by
  unfold allRows
  split
  · rename_i e
    subst e
    cases r with
    | nil => simp
    | cons x t => exact absurd (h.lt 0 (by simp)) (Nat.not_lt_zero _)
  · have hn := h.ne (by omega)
    refine rs_mem _ _ ((asc_iff r).mpr h.up) (h.z hn) hn fun x hx => ?_
    obtain ⟨k, hk, rfl⟩ := List.getElem_of_mem hx
    have := h.lt k hk
    rw [gd_el hk] at this
    omega
end Dn

-- dk2
set_option Elab.async false
set_option linter.all false
set_option autoImplicit false
set_option maxRecDepth 100000
set_option maxHeartbeats 4000000
set_option exponentiation.threshold 100000
namespace Dn
open PySem Tr
theorem sameT {d : PyData} (B : Bx) (h1 : dep d < 8) (h2 : pln d = true) : d_law_same 8 [.dat d, .dat d] B = some (.dat (.bool true), B) := sp_same 8 d B h1 h2
theorem pln_nD (v : List Nat) (h : v.length < 1000) : pln (.tuple (nD v)) = true := by
  unfold pln
  rw [Bool.and_eq_true, decide_eq_true_eq]
  refine ⟨by rw [nD_len]; exact h, ?_⟩
  unfold nD
  induction v with
  | nil => rfl
  | cons x r ih =>
    have := ih (by simp at h; omega)
    simp only [List.map_cons]
    unfold plnAll
    rw [this]
    rfl
theorem dep_nD (v : List Nat) : dep (.tuple (nD v)) = 1 := by
  unfold dep
  have : depAll (nD v) = 0 := by
    unfold nD
    induction v with
    | nil => rfl
    | cons x r ih =>
      simp only [List.map_cons]
      unfold depAll
      rw [ih]
      rfl
  rw [this]
theorem body_L2 {s0 s2 s4 s6 s7 s8 s9 s12 s13 s14 s15 s16 s17 s18 s19 s20 s21 : Option Sv} (w : Nat) (ws : List Nat) (hw : ∀ x ∈ ws, x ≤ w) (hn : ws.length < 1000) (d : PyData) (hj : jk d = true) (B : Bx) : ∃ t12 t13, law_L2 [s0, some .box, s2, some (.dat (.int w)), s4, some (.dat (.tuple (nD ws))), s6, s7, s8, s9, some (.dat (.tuple (nD (filled (w : Int) ws)))), some (.dat d), s12, s13, s14, s15, s16, s17, s18, s19, s20, s21] B = some (.nx [s0, some .box, s2, some (.dat (.int w)), s4, some (.dat (.tuple (nD ws))), s6, s7, s8, s9, some (.dat (.tuple (nD (filled (w : Int) ws)))), some (.dat d), t12, t13, s14, s15, s16, s17, s18, s19, s20, s21] B) := by
  have e1 := sp_law_is_laying (w : Int) ws d hj hn B
  have e2 := sp_law_are_stops (w : Int) ws d hj hn B
  have e3 := sp_is_laying (w : Int) ws d hj hn B
  have e4 := sp_are_stops (w : Int) ws d hj hn B
  have e5 := sameT (d := .tuple [.bool (judL (w : Int) ws d), .bool (judS (w : Int) ws d)]) B (by show 1 < 8; decide) rfl
  have fL := fun h => judL_le (d := d) hw h
  have fS := fun h => judS_le (d := d) hw h
  generalize judL (w : Int) ws d = jl at *
  generalize judS (w : Int) ws d = js at *
  refine ⟨some (.dat (.bool jl)), some (.dat (.bool js)), ?_⟩
  cases jl with
  | false =>
    cases js with
    | false => simp only [k_dC, k_var_ap, k_varO_ap, k_varV_ap, k_op, k_op1, k_op2, k_fin, k_tst, k_t1, k_t2, k_tF, k_opB, k_B, k_neg, k_neg1, k_andT, k_orT, k_notT, k_and1, k_and0, k_or1, k_or0, k_not1, k_tru, k_tru1, k_andV, k_orV, k_notV, k_andV1, k_andV0, k_orV1, k_orV0, k_notV1, k_if, k_if1, k_if0, k_ifD, k_nil, k_cons, k_cons1, k_cons2, k_nilA, k_consA, k_consA1, k_consA2, k_V, k_V1, k_F, k_F1, k_tup, k_tup1, k_lst, k_lst1, k_cl, k_cl1, k_clL, k_clL1, k_finL, k_isi, k_isi1, k_fn, k_fn1, k_dat, k_fnV, k_fnV1, k_seqI, k_seqI1, k_seqI2, k_rng1, k_rng1', k_rng2, k_rng2a, k_rng2b, k_enum, k_enum1, k_zip, k_zip1, k_zip2, k_P, k_P1, k_noP, k_sl, k_sl1, k_sl2, k_sl3, k_cmp, k_cmp1, k_yes, k_seq, k_seq1, k_seq2, k_seq3, k_seq4, k_next, k_brk, k_cont, k_retN, k_asg, k_asg1, k_asgV, k_asgV1, k_asgV2, k_asgV3, k_asgO, k_asgO1, k_asgG, k_asgG1, k_nx, k_gN, k_gT, k_gC, k_g1, k_g0, k_par, k_par1, k_par2, k_drop, k_drop1, k_ret, k_ret1, k_retV, k_retV1, k_ifS, k_ifS1, k_ifS0, k_ifSD, k_fz_ap, k_app, k_app1, k_for, k_for1, k_aug1, k_fun1, k_fun2, k_idx, k_idx1, k_idx2, k_lenC, k_lenC1, k_popC, k_bset, k_getC, k_getC1, k_getC2, k_bg1, k_bg2, k_bs1, k_bs2, k_bc, k_pop1, k_chn, k_chn1, k_chn2, k_chn3t, k_chn3f, k_chn4, k_tfo, k_chnB, k_chB, k_rev, k_rev1, k_revL, k_revL1, k_rg1, k_rg1', k_tupRg, k_tupRg1, k_lstRg, k_lstRg1, k_srt, k_srt1, k_parLE, k_parLE1, k_parLE2, k_augA, k_augA1, sz0, sz1, sz2, sz3, sz4, sz5, sz6, k_fun, eqI, neI, addI, subI, ltI, leI, gtI, geI, truD, isTy, tyName, pyLen, pyAbs, pyMin2, pyMax2, pyInt, pyTuple, pyList, pyIs, pyIsNot, isNon, nown, wipeD, Option.map_some, List.getElem?_cons_zero, List.getElem?_cons_succ, List.set_cons_zero, List.set_cons_succ, List.map_cons, List.map_nil, List.cons_append, List.nil_append, List.length_cons, List.length_nil, List.all_cons, List.all_nil, List.replicate_succ, List.replicate_zero, Bool.and_true, Bool.true_and, Bool.and_self, Bool.not_true, Bool.not_false, and_self, and_true, true_and, if_true, if_false, reduceIte, reduceCtorEq, decide_true, decide_false, Bool.false_eq_true, Nat.reduceAdd, Nat.reduceEqDiff, law_L2, e1, e2, e3, e4, e5]
    | true =>
      obtain ⟨v2, hd2, hle2⟩ := fS rfl
      clear fL fS
      subst hd2
      have q2 : (((filled (w : Int) ws).length : Int) < (v2.length : Int)) = False := eq_false (by omega)
      simp only [k_dC, k_var_ap, k_varO_ap, k_varV_ap, k_op, k_op1, k_op2, k_fin, k_tst, k_t1, k_t2, k_tF, k_opB, k_B, k_neg, k_neg1, k_andT, k_orT, k_notT, k_and1, k_and0, k_or1, k_or0, k_not1, k_tru, k_tru1, k_andV, k_orV, k_notV, k_andV1, k_andV0, k_orV1, k_orV0, k_notV1, k_if, k_if1, k_if0, k_ifD, k_nil, k_cons, k_cons1, k_cons2, k_nilA, k_consA, k_consA1, k_consA2, k_V, k_V1, k_F, k_F1, k_tup, k_tup1, k_lst, k_lst1, k_cl, k_cl1, k_clL, k_clL1, k_finL, k_isi, k_isi1, k_fn, k_fn1, k_dat, k_fnV, k_fnV1, k_seqI, k_seqI1, k_seqI2, k_rng1, k_rng1', k_rng2, k_rng2a, k_rng2b, k_enum, k_enum1, k_zip, k_zip1, k_zip2, k_P, k_P1, k_noP, k_sl, k_sl1, k_sl2, k_sl3, k_cmp, k_cmp1, k_yes, k_seq, k_seq1, k_seq2, k_seq3, k_seq4, k_next, k_brk, k_cont, k_retN, k_asg, k_asg1, k_asgV, k_asgV1, k_asgV2, k_asgV3, k_asgO, k_asgO1, k_asgG, k_asgG1, k_nx, k_gN, k_gT, k_gC, k_g1, k_g0, k_par, k_par1, k_par2, k_drop, k_drop1, k_ret, k_ret1, k_retV, k_retV1, k_ifS, k_ifS1, k_ifS0, k_ifSD, k_fz_ap, k_app, k_app1, k_for, k_for1, k_aug1, k_fun1, k_fun2, k_idx, k_idx1, k_idx2, k_lenC, k_lenC1, k_popC, k_bset, k_getC, k_getC1, k_getC2, k_bg1, k_bg2, k_bs1, k_bs2, k_bc, k_pop1, k_chn, k_chn1, k_chn2, k_chn3t, k_chn3f, k_chn4, k_tfo, k_chnB, k_chB, k_rev, k_rev1, k_revL, k_revL1, k_rg1, k_rg1', k_tupRg, k_tupRg1, k_lstRg, k_lstRg1, k_srt, k_srt1, k_parLE, k_parLE1, k_parLE2, k_augA, k_augA1, sz0, sz1, sz2, sz3, sz4, sz5, sz6, k_fun, eqI, neI, addI, subI, ltI, leI, gtI, geI, truD, isTy, tyName, pyLen, pyAbs, pyMin2, pyMax2, pyInt, pyTuple, pyList, pyIs, pyIsNot, isNon, nown, wipeD, Option.map_some, List.getElem?_cons_zero, List.getElem?_cons_succ, List.set_cons_zero, List.set_cons_succ, List.map_cons, List.map_nil, List.cons_append, List.nil_append, List.length_cons, List.length_nil, List.all_cons, List.all_nil, List.replicate_succ, List.replicate_zero, Bool.and_true, Bool.true_and, Bool.and_self, Bool.not_true, Bool.not_false, and_self, and_true, true_and, if_true, if_false, reduceIte, reduceCtorEq, decide_true, decide_false, Bool.false_eq_true, Nat.reduceAdd, Nat.reduceEqDiff, law_L2, e1, e2, e3, e4, e5, nD_len, q2]
  | true =>
    obtain ⟨v, hd, hle⟩ := fL rfl
    cases js with
    | false =>
      clear fL fS
      subst hd
      have q1 : ((v.length : Int) < ((filled (w : Int) ws).length : Int)) = False := eq_false (by omega)
      simp only [k_dC, k_var_ap, k_varO_ap, k_varV_ap, k_op, k_op1, k_op2, k_fin, k_tst, k_t1, k_t2, k_tF, k_opB, k_B, k_neg, k_neg1, k_andT, k_orT, k_notT, k_and1, k_and0, k_or1, k_or0, k_not1, k_tru, k_tru1, k_andV, k_orV, k_notV, k_andV1, k_andV0, k_orV1, k_orV0, k_notV1, k_if, k_if1, k_if0, k_ifD, k_nil, k_cons, k_cons1, k_cons2, k_nilA, k_consA, k_consA1, k_consA2, k_V, k_V1, k_F, k_F1, k_tup, k_tup1, k_lst, k_lst1, k_cl, k_cl1, k_clL, k_clL1, k_finL, k_isi, k_isi1, k_fn, k_fn1, k_dat, k_fnV, k_fnV1, k_seqI, k_seqI1, k_seqI2, k_rng1, k_rng1', k_rng2, k_rng2a, k_rng2b, k_enum, k_enum1, k_zip, k_zip1, k_zip2, k_P, k_P1, k_noP, k_sl, k_sl1, k_sl2, k_sl3, k_cmp, k_cmp1, k_yes, k_seq, k_seq1, k_seq2, k_seq3, k_seq4, k_next, k_brk, k_cont, k_retN, k_asg, k_asg1, k_asgV, k_asgV1, k_asgV2, k_asgV3, k_asgO, k_asgO1, k_asgG, k_asgG1, k_nx, k_gN, k_gT, k_gC, k_g1, k_g0, k_par, k_par1, k_par2, k_drop, k_drop1, k_ret, k_ret1, k_retV, k_retV1, k_ifS, k_ifS1, k_ifS0, k_ifSD, k_fz_ap, k_app, k_app1, k_for, k_for1, k_aug1, k_fun1, k_fun2, k_idx, k_idx1, k_idx2, k_lenC, k_lenC1, k_popC, k_bset, k_getC, k_getC1, k_getC2, k_bg1, k_bg2, k_bs1, k_bs2, k_bc, k_pop1, k_chn, k_chn1, k_chn2, k_chn3t, k_chn3f, k_chn4, k_tfo, k_chnB, k_chB, k_rev, k_rev1, k_revL, k_revL1, k_rg1, k_rg1', k_tupRg, k_tupRg1, k_lstRg, k_lstRg1, k_srt, k_srt1, k_parLE, k_parLE1, k_parLE2, k_augA, k_augA1, sz0, sz1, sz2, sz3, sz4, sz5, sz6, k_fun, eqI, neI, addI, subI, ltI, leI, gtI, geI, truD, isTy, tyName, pyLen, pyAbs, pyMin2, pyMax2, pyInt, pyTuple, pyList, pyIs, pyIsNot, isNon, nown, wipeD, Option.map_some, List.getElem?_cons_zero, List.getElem?_cons_succ, List.set_cons_zero, List.set_cons_succ, List.map_cons, List.map_nil, List.cons_append, List.nil_append, List.length_cons, List.length_nil, List.all_cons, List.all_nil, List.replicate_succ, List.replicate_zero, Bool.and_true, Bool.true_and, Bool.and_self, Bool.not_true, Bool.not_false, and_self, and_true, true_and, if_true, if_false, reduceIte, reduceCtorEq, decide_true, decide_false, Bool.false_eq_true, Nat.reduceAdd, Nat.reduceEqDiff, law_L2, e1, e2, e3, e4, e5, nD_len, q1]
    | true =>
      obtain ⟨v2, hd2, hle2⟩ := fS rfl
      have hv : v.length = v2.length := by
        have h3 : PyData.tuple (nD v) = PyData.tuple (nD v2) := hd.symm.trans hd2
        have h4 : nD v = nD v2 := PyData.tuple.inj h3
        rw [← nD_len v, ← nD_len v2, h4]
      clear fL fS hd2
      subst hd
      have q1 : ((v.length : Int) < ((filled (w : Int) ws).length : Int)) = False := eq_false (by omega)
      have q2 : (((filled (w : Int) ws).length : Int) < (v.length : Int)) = False := eq_false (by omega)
      simp only [k_dC, k_var_ap, k_varO_ap, k_varV_ap, k_op, k_op1, k_op2, k_fin, k_tst, k_t1, k_t2, k_tF, k_opB, k_B, k_neg, k_neg1, k_andT, k_orT, k_notT, k_and1, k_and0, k_or1, k_or0, k_not1, k_tru, k_tru1, k_andV, k_orV, k_notV, k_andV1, k_andV0, k_orV1, k_orV0, k_notV1, k_if, k_if1, k_if0, k_ifD, k_nil, k_cons, k_cons1, k_cons2, k_nilA, k_consA, k_consA1, k_consA2, k_V, k_V1, k_F, k_F1, k_tup, k_tup1, k_lst, k_lst1, k_cl, k_cl1, k_clL, k_clL1, k_finL, k_isi, k_isi1, k_fn, k_fn1, k_dat, k_fnV, k_fnV1, k_seqI, k_seqI1, k_seqI2, k_rng1, k_rng1', k_rng2, k_rng2a, k_rng2b, k_enum, k_enum1, k_zip, k_zip1, k_zip2, k_P, k_P1, k_noP, k_sl, k_sl1, k_sl2, k_sl3, k_cmp, k_cmp1, k_yes, k_seq, k_seq1, k_seq2, k_seq3, k_seq4, k_next, k_brk, k_cont, k_retN, k_asg, k_asg1, k_asgV, k_asgV1, k_asgV2, k_asgV3, k_asgO, k_asgO1, k_asgG, k_asgG1, k_nx, k_gN, k_gT, k_gC, k_g1, k_g0, k_par, k_par1, k_par2, k_drop, k_drop1, k_ret, k_ret1, k_retV, k_retV1, k_ifS, k_ifS1, k_ifS0, k_ifSD, k_fz_ap, k_app, k_app1, k_for, k_for1, k_aug1, k_fun1, k_fun2, k_idx, k_idx1, k_idx2, k_lenC, k_lenC1, k_popC, k_bset, k_getC, k_getC1, k_getC2, k_bg1, k_bg2, k_bs1, k_bs2, k_bc, k_pop1, k_chn, k_chn1, k_chn2, k_chn3t, k_chn3f, k_chn4, k_tfo, k_chnB, k_chB, k_rev, k_rev1, k_revL, k_revL1, k_rg1, k_rg1', k_tupRg, k_tupRg1, k_lstRg, k_lstRg1, k_srt, k_srt1, k_parLE, k_parLE1, k_parLE2, k_augA, k_augA1, sz0, sz1, sz2, sz3, sz4, sz5, sz6, k_fun, eqI, neI, addI, subI, ltI, leI, gtI, geI, truD, isTy, tyName, pyLen, pyAbs, pyMin2, pyMax2, pyInt, pyTuple, pyList, pyIs, pyIsNot, isNon, nown, wipeD, Option.map_some, List.getElem?_cons_zero, List.getElem?_cons_succ, List.set_cons_zero, List.set_cons_succ, List.map_cons, List.map_nil, List.cons_append, List.nil_append, List.length_cons, List.length_nil, List.all_cons, List.all_nil, List.replicate_succ, List.replicate_zero, Bool.and_true, Bool.true_and, Bool.and_self, Bool.not_true, Bool.not_false, and_self, and_true, true_and, if_true, if_false, reduceIte, reduceCtorEq, decide_true, decide_false, Bool.false_eq_true, Nat.reduceAdd, Nat.reduceEqDiff, law_L2, e1, e2, e3, e4, e5, nD_len, q1, q2]
theorem loop_L2 {s0 s2 s4 s6 s7 s8 s9 s14 s15 s16 s17 s18 s19 s20 s21 : Option Sv} (w : Nat) (ws : List Nat) (hw : ∀ x ∈ ws, x ≤ w) (hn : ws.length < 1000) (B : Bx) : ∀ (xs : List PyData), (∀ x ∈ xs, jk x = true) → ∀ (a b c : Option Sv), ∃ a' b' c', forGo (gN 11) law_L2 xs [s0, some .box, s2, some (.dat (.int w)), s4, some (.dat (.tuple (nD ws))), s6, s7, s8, s9, some (.dat (.tuple (nD (filled (w : Int) ws)))), a, b, c, s14, s15, s16, s17, s18, s19, s20, s21] B = some (.nx [s0, some .box, s2, some (.dat (.int w)), s4, some (.dat (.tuple (nD ws))), s6, s7, s8, s9, some (.dat (.tuple (nD (filled (w : Int) ws)))), a', b', c', s14, s15, s16, s17, s18, s19, s20, s21] B) := by
  intro xs
  induction xs with
  | nil => intro _ a b c; exact ⟨a, b, c, rfl⟩
  | cons x r ih =>
    intro h a b c
    obtain ⟨t12, t13, e⟩ := body_L2 (s0 := s0) (s2 := s2) (s4 := s4) (s6 := s6) (s7 := s7) (s8 := s8) (s9 := s9) (s12 := b) (s13 := c) (s14 := s14) (s15 := s15) (s16 := s16) (s17 := s17) (s18 := s18) (s19 := s19) (s20 := s20) (s21 := s21) w ws hw hn x (h x List.mem_cons_self) B
    obtain ⟨a', b', c', e2⟩ := ih (fun y hy => h y (List.mem_cons_of_mem _ hy)) (some (.dat x)) t12 t13
    refine ⟨a', b', c', ?_⟩
    rw [forGo_step (s1 := [s0, some .box, s2, some (.dat (.int w)), s4, some (.dat (.tuple (nD ws))), s6, s7, s8, s9, some (.dat (.tuple (nD (filled (w : Int) ws)))), some (.dat x), b, c, s14, s15, s16, s17, s18, s19, s20, s21]) rfl e]
    exact e2
def RD (L : List (List Nat)) : List PyData := L.map tD
theorem RD_len (L : List (List Nat)) : (RD L).length = L.length := by simp [RD]
theorem body_L3 {s0 s2 s3 s5 s7 s8 s9 s10 s11 s12 s13 s14 s15 s16 s17 s18 s19 s20 s21 : Option Sv} (j : Nat) (L : List (List Nat)) (hL : L.length ≤ 1000) (hl : ∀ r ∈ L, r.length ≤ 100) (B : Bx) : law_L3 [s0, some .box, s2, s3, some (.dat (.int (j : Int))), s5, some (.dat (.list (RD L))), s7, s8, s9, s10, s11, s12, s13, s14, s15, s16, s17, s18, s19, s20, s21] B = some (.nx [s0, some .box, s2, s3, some (.dat (.int (j : Int))), s5, some (.dat (.list (RD (L ++ L.map (· ++ [j]))))), s7, s8, s9, s10, s11, s12, s13, s14, s15, s16, s17, s18, s19, s20, s21] B) := by
  have hc : cmpGo (gN 20) dYes (dOp pyAdd (dVarO 20) (dTup (dCons (dVar 4) dNil))) [s0, some .box, s2, s3, some (.dat (.int (j : Int))), s5, some (.dat (.list (RD L))), s7, s8, s9, s10, s11, s12, s13, s14, s15, s16, s17, s18, s19, none, s21] (RD L) B = some (RD (L.map (· ++ [j])), B) := by
    have := cmpGo_map (tg := gN 20) (e := dOp pyAdd (dVarO 20) (dTup (dCons (dVar 4) dNil))) (sw := [s0, some .box, s2, s3, some (.dat (.int (j : Int))), s5, some (.dat (.list (RD L))), s7, s8, s9, s10, s11, s12, s13, s14, s15, s16, s17, s18, s19, none, s21]) (B := B) (fun x => match x with | .tuple xs => .tuple (xs ++ [.int (j : Int)]) | y => y) (RD L) (fun x hx => by
      obtain ⟨r, hr, rfl⟩ := List.mem_map.mp hx
      refine ⟨_, rfl, ?_⟩
      have ad := addT (xs := nD r) (ys := [.int (j : Int)]) (sz (by rw [nD_len]; simp; have := hl r hr; omega))
      show _ = some (PyData.tuple (nD r ++ [.int (j : Int)]), B)
      unfold tD
      simp only [k_dC, k_var_ap, k_varO_ap, k_varV_ap, k_op, k_op1, k_op2, k_fin, k_tst, k_t1, k_t2, k_tF, k_opB, k_B, k_neg, k_neg1, k_andT, k_orT, k_notT, k_and1, k_and0, k_or1, k_or0, k_not1, k_tru, k_tru1, k_andV, k_orV, k_notV, k_andV1, k_andV0, k_orV1, k_orV0, k_notV1, k_if, k_if1, k_if0, k_ifD, k_nil, k_cons, k_cons1, k_cons2, k_nilA, k_consA, k_consA1, k_consA2, k_V, k_V1, k_F, k_F1, k_tup, k_tup1, k_lst, k_lst1, k_cl, k_cl1, k_clL, k_clL1, k_finL, k_isi, k_isi1, k_fn, k_fn1, k_dat, k_fnV, k_fnV1, k_seqI, k_seqI1, k_seqI2, k_rng1, k_rng1', k_rng2, k_rng2a, k_rng2b, k_enum, k_enum1, k_zip, k_zip1, k_zip2, k_P, k_P1, k_noP, k_sl, k_sl1, k_sl2, k_sl3, k_cmp, k_cmp1, k_yes, k_seq, k_seq1, k_seq2, k_seq3, k_seq4, k_next, k_brk, k_cont, k_retN, k_asg, k_asg1, k_asgV, k_asgV1, k_asgV2, k_asgV3, k_asgO, k_asgO1, k_asgG, k_asgG1, k_nx, k_gN, k_gT, k_gC, k_g1, k_g0, k_par, k_par1, k_par2, k_drop, k_drop1, k_ret, k_ret1, k_retV, k_retV1, k_ifS, k_ifS1, k_ifS0, k_ifSD, k_fz_ap, k_app, k_app1, k_for, k_for1, k_aug1, k_fun1, k_fun2, k_idx, k_idx1, k_idx2, k_lenC, k_lenC1, k_popC, k_bset, k_getC, k_getC1, k_getC2, k_bg1, k_bg2, k_bs1, k_bs2, k_bc, k_pop1, k_chn, k_chn1, k_chn2, k_chn3t, k_chn3f, k_chn4, k_tfo, k_chnB, k_chB, k_rev, k_rev1, k_revL, k_revL1, k_rg1, k_rg1', k_tupRg, k_tupRg1, k_lstRg, k_lstRg1, k_srt, k_srt1, k_parLE, k_parLE1, k_parLE2, k_augA, k_augA1, sz0, sz1, sz2, sz3, sz4, sz5, sz6, k_fun, eqI, neI, addI, subI, ltI, leI, gtI, geI, truD, isTy, tyName, pyLen, pyAbs, pyMin2, pyMax2, pyInt, pyTuple, pyList, pyIs, pyIsNot, isNon, nown, wipeD, Option.map_some, List.getElem?_cons_zero, List.getElem?_cons_succ, List.set_cons_zero, List.set_cons_succ, List.map_cons, List.map_nil, List.cons_append, List.nil_append, List.length_cons, List.length_nil, List.all_cons, List.all_nil, List.replicate_succ, List.replicate_zero, Bool.and_true, Bool.true_and, Bool.and_self, Bool.not_true, Bool.not_false, and_self, and_true, true_and, if_true, if_false, reduceIte, reduceCtorEq, decide_true, decide_false, Bool.false_eq_true, Nat.reduceAdd, Nat.reduceEqDiff, ad])
    rw [this]
    unfold RD
    rw [List.map_map, List.map_map]
    congr 2
    refine List.map_congr_left fun r _ => ?_
    show PyData.tuple (nD r ++ [.int (j : Int)]) = tD (r ++ [j])
    rw [nD_snoc]
    rfl
  have h1 : ((RD L).length < sizeLine) = True := eq_true (by rw [RD_len]; exact szlt (by omega))
  have ad : pyAdd (.list (RD L)) (.list (RD (L.map (· ++ [j])))) = some (.list (RD (L ++ L.map (· ++ [j])))) := by
    have := addL (xs := RD L) (ys := RD (L.map (· ++ [j]))) (sz (by rw [RD_len, RD_len, List.length_map]; omega))
    rw [this]
    unfold RD
    rw [List.map_append]
  simp only [k_dC, k_var_ap, k_varO_ap, k_varV_ap, k_op, k_op1, k_op2, k_fin, k_tst, k_t1, k_t2, k_tF, k_opB, k_B, k_neg, k_neg1, k_andT, k_orT, k_notT, k_and1, k_and0, k_or1, k_or0, k_not1, k_tru, k_tru1, k_andV, k_orV, k_notV, k_andV1, k_andV0, k_orV1, k_orV0, k_notV1, k_if, k_if1, k_if0, k_ifD, k_nil, k_cons, k_cons1, k_cons2, k_nilA, k_consA, k_consA1, k_consA2, k_V, k_V1, k_F, k_F1, k_tup, k_tup1, k_lst, k_lst1, k_cl, k_cl1, k_clL, k_clL1, k_finL, k_isi, k_isi1, k_fn, k_fn1, k_dat, k_fnV, k_fnV1, k_seqI, k_seqI1, k_seqI2, k_rng1, k_rng1', k_rng2, k_rng2a, k_rng2b, k_enum, k_enum1, k_zip, k_zip1, k_zip2, k_P, k_P1, k_noP, k_sl, k_sl1, k_sl2, k_sl3, k_cmp, k_cmp1, k_yes, k_seq, k_seq1, k_seq2, k_seq3, k_seq4, k_next, k_brk, k_cont, k_retN, k_asg, k_asg1, k_asgV, k_asgV1, k_asgV2, k_asgV3, k_asgO, k_asgO1, k_asgG, k_asgG1, k_nx, k_gN, k_gT, k_gC, k_g1, k_g0, k_par, k_par1, k_par2, k_drop, k_drop1, k_ret, k_ret1, k_retV, k_retV1, k_ifS, k_ifS1, k_ifS0, k_ifSD, k_fz_ap, k_app, k_app1, k_for, k_for1, k_aug1, k_fun1, k_fun2, k_idx, k_idx1, k_idx2, k_lenC, k_lenC1, k_popC, k_bset, k_getC, k_getC1, k_getC2, k_bg1, k_bg2, k_bs1, k_bs2, k_bc, k_pop1, k_chn, k_chn1, k_chn2, k_chn3t, k_chn3f, k_chn4, k_tfo, k_chnB, k_chB, k_rev, k_rev1, k_revL, k_revL1, k_rg1, k_rg1', k_tupRg, k_tupRg1, k_lstRg, k_lstRg1, k_srt, k_srt1, k_parLE, k_parLE1, k_parLE2, k_augA, k_augA1, sz0, sz1, sz2, sz3, sz4, sz5, sz6, k_fun, eqI, neI, addI, subI, ltI, leI, gtI, geI, truD, isTy, tyName, pyLen, pyAbs, pyMin2, pyMax2, pyInt, pyTuple, pyList, pyIs, pyIsNot, isNon, nown, wipeD, Option.map_some, List.getElem?_cons_zero, List.getElem?_cons_succ, List.set_cons_zero, List.set_cons_succ, List.map_cons, List.map_nil, List.cons_append, List.nil_append, List.length_cons, List.length_nil, List.all_cons, List.all_nil, List.replicate_succ, List.replicate_zero, Bool.and_true, Bool.true_and, Bool.and_self, Bool.not_true, Bool.not_false, and_self, and_true, true_and, if_true, if_false, reduceIte, reduceCtorEq, decide_true, decide_false, Bool.false_eq_true, Nat.reduceAdd, Nat.reduceEqDiff, law_L3, h1, hc, ad]
theorem loop_L3 {s0 s2 s3 s4 s5 s7 s8 s9 s10 s11 s12 s13 s14 s15 s16 s17 s18 s19 s20 s21 : Option Sv} (n : Nat) (hn : n ≤ 7) (B : Bx) : ∃ t4, forGo (gN 4) law_L3 (rngD 1 (n - 1)) [s0, some .box, s2, s3, s4, s5, some (.dat (.list (RD (if n = 0 then [[]] else [[0]])))), s7, s8, s9, s10, s11, s12, s13, s14, s15, s16, s17, s18, s19, s20, s21] B = some (.nx [s0, some .box, s2, s3, t4, s5, some (.dat (.list (RD (allRows n)))), s7, s8, s9, s10, s11, s12, s13, s14, s15, s16, s17, s18, s19, s20, s21] B) := by
  by_cases h0 : n = 0
  · subst h0
    exact ⟨s4, rfl⟩
  · rw [if_neg h0]
    unfold allRows
    rw [if_neg h0]
    obtain ⟨m, hm⟩ : ∃ m, n - 1 = m := ⟨_, rfl⟩
    rw [hm]
    have hm6 : m ≤ 6 := by omega
    obtain ⟨s2', B2, e, h⟩ := forGo_inv (tg := gN 4) (body := law_L3) (rngD 1 m) (fun i sl B' => B' = B ∧ ∃ t, sl = [s0, some .box, s2, s3, t, s5, some (.dat (.list (RD (rs i)))), s7, s8, s9, s10, s11, s12, s13, s14, s15, s16, s17, s18, s19, s20, s21]) (fun i x sl B' hx hp => by
      obtain ⟨hi, rfl⟩ := rngD_get hx
      obtain ⟨rfl, t, rfl⟩ := hp
      rw [show ((1 : Int) + (i : Int)) = ((i + 1 : Nat) : Int) by omega]
      refine ⟨_, _, B', rfl, .inl (body_L3 (i + 1) (rs i) ?_ (fun r hr => ?_) B'), rfl, _, rfl⟩
      · rw [rs_len]
        have : 2 ^ i ≤ 2 ^ 6 := Nat.pow_le_pow_right (by decide) (by omega)
        omega
      · obtain ⟨h1, h2, h3, h4⟩ := rs_of i r hr
        have h5 := up_le ((asc_iff r).mp h1) 0 (r.length - 1) (by omega)
        have h6 := h4 (r.getD (0 + (r.length - 1)) 0) (by rw [gd_el (by omega)]; exact List.getElem_mem _)
        omega)
      0 [s0, some .box, s2, s3, s4, s5, some (.dat (.list (RD [[0]]))), s7, s8, s9, s10, s11, s12, s13, s14, s15, s16, s17, s18, s19, s20, s21] B (Nat.zero_le _) ⟨rfl, s4, rfl⟩
    rw [rngD_length] at h
    obtain ⟨rfl, t, rfl⟩ := h
    exact ⟨t, e⟩
end Dn

-- dk2
set_option Elab.async false
set_option linter.all false
set_option autoImplicit false
set_option maxRecDepth 100000
set_option maxHeartbeats 4000000
set_option exponentiation.threshold 100000
namespace Dn
open PySem Tr
theorem cm_filter {s0 s2 s3 s4 s5 s6 s7 s8 s9 s10 s11 s12 s13 s14 s15 s16 s17 s18 s19 s21 : Option Sv} (t : DT) (p : List Nat → Bool) (B : Bx) : ∀ (L : List (List Nat)), (∀ r ∈ L, t [s0, some .box, s2, s3, s4, s5, s6, s7, s8, s9, s10, s11, s12, s13, s14, s15, s16, s17, s18, s19, some (.dat (tD r)), s21] B = some (p r, B)) → cmpGo (gN 20) t (dVar 20) [s0, some .box, s2, s3, s4, s5, s6, s7, s8, s9, s10, s11, s12, s13, s14, s15, s16, s17, s18, s19, none, s21] (RD L) B = some (RD (L.filter p), B) := by
  intro L
  induction L with
  | nil => intro _; rfl
  | cons r L ih =>
    intro h
    have h1 := h r List.mem_cons_self
    have ih := ih fun q hq => h q (List.mem_cons_of_mem _ hq)
    show ((t [s0, some .box, s2, s3, s4, s5, s6, s7, s8, s9, s10, s11, s12, s13, s14, s15, s16, s17, s18, s19, some (.dat (tD r)), s21] B).bind fun q => if q.1 = true then ((dVar 20 [s0, some .box, s2, s3, s4, s5, s6, s7, s8, s9, s10, s11, s12, s13, s14, s15, s16, s17, s18, s19, some (.dat (tD r)), s21] q.2).bind fun y => (cmpGo (gN 20) t (dVar 20) [s0, some .box, s2, s3, s4, s5, s6, s7, s8, s9, s10, s11, s12, s13, s14, s15, s16, s17, s18, s19, none, s21] (RD L) y.2).map fun z => (y.1 :: z.1, z.2)) else cmpGo (gN 20) t (dVar 20) [s0, some .box, s2, s3, s4, s5, s6, s7, s8, s9, s10, s11, s12, s13, s14, s15, s16, s17, s18, s19, none, s21] (RD L) q.2) = _
    rw [h1]
    cases hp : p r with
    | true =>
      rw [List.filter_cons_of_pos (by rw [hp])]
      show (cmpGo (gN 20) t (dVar 20) [s0, some .box, s2, s3, s4, s5, s6, s7, s8, s9, s10, s11, s12, s13, s14, s15, s16, s17, s18, s19, none, s21] (RD L) B).map _ = _
      rw [ih]
      rfl
    | false =>
      rw [List.filter_cons_of_neg (by rw [hp]; exact Bool.false_ne_true)]
      exact ih
theorem cm_mapN {s0 s2 s3 s4 s5 s6 s7 s8 s9 s10 s11 s12 s13 s14 s15 s16 s17 s18 s19 s21 : Option Sv} (e : DE) (g : List Nat → Nat) (B : Bx) : ∀ (L : List (List Nat)), (∀ r ∈ L, e [s0, some .box, s2, s3, s4, s5, s6, s7, s8, s9, s10, s11, s12, s13, s14, s15, s16, s17, s18, s19, some (.dat (tD r)), s21] B = some (.int (g r : Nat), B)) → cmpGo (gN 20) dYes e [s0, some .box, s2, s3, s4, s5, s6, s7, s8, s9, s10, s11, s12, s13, s14, s15, s16, s17, s18, s19, none, s21] (RD L) B = some (nD (L.map g), B) := by
  intro L
  induction L with
  | nil => intro _; rfl
  | cons r L ih =>
    intro h
    have h1 := h r List.mem_cons_self
    have ih := ih fun q hq => h q (List.mem_cons_of_mem _ hq)
    show ((e [s0, some .box, s2, s3, s4, s5, s6, s7, s8, s9, s10, s11, s12, s13, s14, s15, s16, s17, s18, s19, some (.dat (tD r)), s21] B).bind fun y => (cmpGo (gN 20) dYes e [s0, some .box, s2, s3, s4, s5, s6, s7, s8, s9, s10, s11, s12, s13, s14, s15, s16, s17, s18, s19, none, s21] (RD L) y.2).map fun z => (y.1 :: z.1, z.2)) = _
    rw [h1]
    show (cmpGo (gN 20) dYes e [s0, some .box, s2, s3, s4, s5, s6, s7, s8, s9, s10, s11, s12, s13, s14, s15, s16, s17, s18, s19, none, s21] (RD L) B).map _ = _
    rw [ih]
    rfl
theorem foldl_min_is : ∀ (r : List Nat) (x m : Nat), (m = x ∨ m ∈ r) → m ≤ x → (∀ y ∈ r, m ≤ y) → r.foldl min x = m
  | [], x, m, h, _, _ => by
    rcases h with h | h
    · exact h.symm
    · exact absurd h List.not_mem_nil
  | y :: r, x, m, h, h1, h2 => by
    have hy := h2 y List.mem_cons_self
    rw [List.foldl_cons]
    refine foldl_min_is r (min x y) m ?_ (by omega) fun z hz => h2 z (List.mem_cons_of_mem _ hz)
    rcases h with h | h
    · left; omega
    · rcases List.mem_cons.mp h with z | z
      · left; omega
      · exact .inr z
theorem foldl_min_cast : ∀ (r : List Nat) (x : Nat), (r.map fun (y : Nat) => (y : Int)).foldl min (x : Int) = ((r.foldl min x : Nat) : Int)
  | [], x => rfl
  | y :: r, x => by
    simp only [List.map_cons, List.foldl_cons]
    rw [show min (x : Int) (y : Int) = ((min x y : Nat) : Int) by omega]
    exact foldl_min_cast r (min x y)
theorem min1_nD (xs : List Nat) (m : Nat) (h : m ∈ xs) (hl : ∀ x ∈ xs, m ≤ x) : pyMin1 [.list (nD xs)] = some (.int (m : Nat)) := by
  cases xs with
  | nil => exact absurd h List.not_mem_nil
  | cons x r =>
    show (intsOf (nD (x :: r))).bind _ = _
    rw [ints_nD]
    show some (PyData.int ((r.map fun (y : Nat) => (y : Int)).foldl min (x : Int))) = _
    rw [foldl_min_cast, foldl_min_is r x m (List.mem_cons.mp h) (hl x List.mem_cons_self) fun y hy => hl y (List.mem_cons_of_mem _ hy)]
theorem lay_item {t n : Nat} {ws r : List Nat} (h : Lay t ws n r) {i : Nat} (hi : i < n) : P ws (i + 1) ≤ P ws i + t := by
  have key : ∀ m k, r.length - k = m → k < r.length → r.getD k 0 ≤ i → P ws (i + 1) ≤ P ws i + t := by
    intro m
    induction m with
    | zero => intro k hm hk; omega
    | succ m ih =>
      intro k hm hk hle
      have p1 := P_mono ws hle
      by_cases hk2 : k + 1 < r.length
      · by_cases hc : r.getD (k + 1) 0 ≤ i
        · exact ih (k + 1) (by omega) hk2 hc
        · have := h.fit k hk2
          have p2 := P_mono ws (show i + 1 ≤ r.getD (k + 1) 0 by omega)
          omega
      · have := h.last (by omega)
        rw [show r.length - 1 = k by omega] at this
        have p2 := P_mono ws (show i + 1 ≤ n by omega)
        omega
  have hn := h.ne (by omega)
  exact key _ 0 rfl hn (by rw [h.z hn]; exact Nat.zero_le _)
theorem lay_items {t : Nat} {ws r : List Nat} (h : Lay t ws ws.length r) : ∀ x ∈ ws, x ≤ t := fun x hx => by
  obtain ⟨i, hi, rfl⟩ := List.getElem_of_mem hx
  have := lay_item h hi
  rw [P_succ ws i hi, gd_el hi] at this
  omega
theorem lay_mx {ws r : List Nat} (hr : RowOk ws r) (h0 : 0 < ws.length) (hn : 0 < r.length) (hz : r.getD 0 0 = 0) (t : Nat) (ht : mx (traysW ws r) ≤ t) : Lay t ws ws.length r := by
  refine (lay_iff hr).mp ?_
  unfold layB
  have e1 : ws.isEmpty = false := by cases ws with | nil => simp at h0 | cons _ _ => rfl
  have e2 : r.isEmpty = false := by cases r with | nil => simp at hn | cons _ _ => rfl
  rw [e1, e2, if_neg Bool.false_ne_true, hz]
  simp
  exact ht
theorem mx_lay {ws r : List Nat} {t : Nat} (h0 : 0 < ws.length) (hr : RowOk ws r) (h : Lay t ws ws.length r) : mx (traysW ws r) ≤ t := by
  have := (lay_iff hr).mpr h
  unfold layB at this
  have e1 : ws.isEmpty = false := by cases ws with | nil => simp at h0 | cons _ _ => rfl
  rw [e1, if_neg Bool.false_ne_true, Bool.and_eq_true, Bool.and_eq_true, decide_eq_true_eq, decide_eq_true_eq] at this
  omega
theorem row_ok {ws r : List Nat} (h : r ∈ allRows ws.length) : RowOk ws r := ⟨(all_of h).1, (all_of h).2.1⟩
theorem row_len {ws r : List Nat} (h : r ∈ allRows ws.length) (hn : ws.length ≤ 7) : r.length ≤ 7 := by
  obtain ⟨h1, h2, h3⟩ := all_of h
  rcases Nat.eq_zero_or_pos r.length with z | z
  · omega
  · have h5 := up_le ((asc_iff r).mp h1) 0 (r.length - 1) (by omega)
    have h6 := h2 (r.getD (0 + (r.length - 1)) 0) (by rw [gd_el (by omega)]; exact List.getElem_mem _)
    omega
theorem all_len (n : Nat) (hn : n ≤ 7) : (allRows n).length ≤ 64 := by
  unfold allRows
  split
  · simp
  · rw [rs_len]
    have : 2 ^ (n - 1) ≤ 2 ^ 6 := Nat.pow_le_pow_right (by decide) (by omega)
    omega
theorem body_L1 {s0 s2 s4 s7 s8 s9 s10 s11 s12 s13 s15 s16 s17 s18 s19 s20 s21 : Option Sv} (w : Nat) (ws : List Nat) (hn : ws.length ≤ 7) (h0 : 0 < ws.length) (hw : ∀ x ∈ ws, x ≤ w) (m : Nat) (h1 : (filled (w : Int) ws).length ≤ m) (h2 : m ≤ ws.length) (hm : 1 ≤ m) (B : Bx) : ∃ t15 t16 t17, law_L1 [s0, some .box, s2, some (.dat (.int w)), s4, some (.dat (.tuple (nD ws))), some (.dat (.list (RD (allRows ws.length)))), s7, s8, s9, s10, s11, s12, s13, some (.dat (.int m)), s15, s16, s17, s18, s19, s20, s21] B = some (.nx [s0, some .box, s2, some (.dat (.int w)), s4, some (.dat (.tuple (nD ws))), some (.dat (.list (RD (allRows ws.length)))), s7, s8, s9, s10, s11, s12, s13, some (.dat (.int m)), t15, t16, t17, s18, s19, s20, s21] B) := by
  have hne : ws ≠ [] := List.length_pos_iff.mp h0
  obtain ⟨v, R, a1, a2, a3, a4, a5, a6⟩ := sp_even (w : Int) ws m w (by omega) hne hm h2 hw h1 B
  have hv : ∀ x ∈ ws, x ≤ v := (mx_le ws v).mp a1
  have hLR := ev_lay hv a4 a5
  have hRm := all_mem hLR
  have hRok := row_ok hRm
  -- rows of m trays
  have hf1 := cm_filter (s0 := s0) (s2 := s2) (s3 := some (.dat (.int w))) (s4 := s4) (s5 := some (.dat (.tuple (nD ws)))) (s6 := some (.dat (.list (RD (allRows ws.length))))) (s7 := s7) (s8 := s8) (s9 := s9) (s10 := s10) (s11 := s11) (s12 := s12) (s13 := s13) (s14 := some (.dat (.int m))) (s15 := s15) (s16 := s16) (s17 := s17) (s18 := s18) (s19 := s19) (s21 := s21) (dTst pyEq (dCl pyLen (dCons (dVarO 20) dNil)) (dVarO 14)) (fun r => decide (r.length = m)) B (allRows ws.length) fun r hr => by
    have e : decide ((r.length : Int) = (m : Int)) = decide (r.length = m) := decide_eq_decide.mpr (by omega)
    simp only [k_dC, k_var_ap, k_varO_ap, k_varV_ap, k_op, k_op1, k_op2, k_fin, k_tst, k_t1, k_t2, k_tF, k_opB, k_B, k_neg, k_neg1, k_andT, k_orT, k_notT, k_and1, k_and0, k_or1, k_or0, k_not1, k_tru, k_tru1, k_andV, k_orV, k_notV, k_andV1, k_andV0, k_orV1, k_orV0, k_notV1, k_if, k_if1, k_if0, k_ifD, k_nil, k_cons, k_cons1, k_cons2, k_nilA, k_consA, k_consA1, k_consA2, k_V, k_V1, k_F, k_F1, k_tup, k_tup1, k_lst, k_lst1, k_cl, k_cl1, k_clL, k_clL1, k_finL, k_isi, k_isi1, k_fn, k_fn1, k_dat, k_fnV, k_fnV1, k_seqI, k_seqI1, k_seqI2, k_rng1, k_rng1', k_rng2, k_rng2a, k_rng2b, k_enum, k_enum1, k_zip, k_zip1, k_zip2, k_P, k_P1, k_noP, k_sl, k_sl1, k_sl2, k_sl3, k_cmp, k_cmp1, k_yes, k_seq, k_seq1, k_seq2, k_seq3, k_seq4, k_next, k_brk, k_cont, k_retN, k_asg, k_asg1, k_asgV, k_asgV1, k_asgV2, k_asgV3, k_asgO, k_asgO1, k_asgG, k_asgG1, k_nx, k_gN, k_gT, k_gC, k_g1, k_g0, k_par, k_par1, k_par2, k_drop, k_drop1, k_ret, k_ret1, k_retV, k_retV1, k_ifS, k_ifS1, k_ifS0, k_ifSD, k_fz_ap, k_app, k_app1, k_for, k_for1, k_aug1, k_fun1, k_fun2, k_idx, k_idx1, k_idx2, k_lenC, k_lenC1, k_popC, k_bset, k_getC, k_getC1, k_getC2, k_bg1, k_bg2, k_bs1, k_bs2, k_bc, k_pop1, k_chn, k_chn1, k_chn2, k_chn3t, k_chn3f, k_chn4, k_tfo, k_chnB, k_chB, k_rev, k_rev1, k_revL, k_revL1, k_rg1, k_rg1', k_tupRg, k_tupRg1, k_lstRg, k_lstRg1, k_srt, k_srt1, k_parLE, k_parLE1, k_parLE2, k_augA, k_augA1, sz0, sz1, sz2, sz3, sz4, sz5, sz6, k_fun, eqI, neI, addI, subI, ltI, leI, gtI, geI, truD, isTy, tyName, pyLen, pyAbs, pyMin2, pyMax2, pyInt, pyTuple, pyList, pyIs, pyIsNot, isNon, nown, wipeD, Option.map_some, List.getElem?_cons_zero, List.getElem?_cons_succ, List.set_cons_zero, List.set_cons_succ, List.map_cons, List.map_nil, List.cons_append, List.nil_append, List.length_cons, List.length_nil, List.all_cons, List.all_nil, List.replicate_succ, List.replicate_zero, Bool.and_true, Bool.true_and, Bool.and_self, Bool.not_true, Bool.not_false, and_self, and_true, true_and, if_true, if_false, reduceIte, reduceCtorEq, decide_true, decide_false, Bool.false_eq_true, Nat.reduceAdd, Nat.reduceEqDiff, tD, nD_len, e]
  generalize hL : (allRows ws.length).filter (fun r => decide (r.length = m)) = L at hf1
  have hLm : ∀ r, r ∈ L ↔ r ∈ allRows ws.length ∧ r.length = m := fun r => by rw [← hL, List.mem_filter, decide_eq_true_eq]
  have hRL : R ∈ L := (hLm R).mpr ⟨hRm, a5⟩
  have hLlen : L.length ≤ 64 := by rw [← hL]; exact Nat.le_trans (List.length_filter_le _ _) (all_len _ hn)
  have hlow : ∀ r ∈ L, v ≤ mx (traysW ws r) := fun r hr => by
    obtain ⟨hr1, hr2⟩ := (hLm r).mp hr
    have hl := lay_mx (row_ok hr1) h0 (by omega) ((all_of hr1).2.2 h0).2 (mx (traysW ws r)) (Nat.le_refl _)
    have hit := lay_items hl
    rcases Nat.lt_or_ge (mx (traysW ws r)) v with z | z
    · have := a3 _ ((mx_le ws _).mpr hit) z
      have := stops_le_lay (filled_stops hit) hl
      omega
    · exact z
  have hRv : mx (traysW ws R) = v := Nat.le_antisymm (mx_lay h0 hRok hLR) (hlow R hRL)
  have hf2 := cm_mapN (s0 := s0) (s2 := s2) (s3 := some (.dat (.int w))) (s4 := s4) (s5 := some (.dat (.tuple (nD ws)))) (s6 := some (.dat (.list (RD (allRows ws.length))))) (s7 := s7) (s8 := s8) (s9 := s9) (s10 := s10) (s11 := s11) (s12 := s12) (s13 := s13) (s14 := some (.dat (.int m))) (s15 := some (.dat (.list (RD L)))) (s16 := s16) (s17 := s17) (s18 := s18) (s19 := s19) (s21 := s21) (dFn (d_law_widest) (dConsA (dVarV 5) (dConsA (dVarV 20) dNilA))) (fun r => mx (traysW ws r)) B L fun r hr => by
    have e := sp_widest ws r (row_ok ((hLm r).mp hr).1) (by have := row_len ((hLm r).mp hr).1 hn; omega) B
    simp only [k_dC, k_var_ap, k_varO_ap, k_varV_ap, k_op, k_op1, k_op2, k_fin, k_tst, k_t1, k_t2, k_tF, k_opB, k_B, k_neg, k_neg1, k_andT, k_orT, k_notT, k_and1, k_and0, k_or1, k_or0, k_not1, k_tru, k_tru1, k_andV, k_orV, k_notV, k_andV1, k_andV0, k_orV1, k_orV0, k_notV1, k_if, k_if1, k_if0, k_ifD, k_nil, k_cons, k_cons1, k_cons2, k_nilA, k_consA, k_consA1, k_consA2, k_V, k_V1, k_F, k_F1, k_tup, k_tup1, k_lst, k_lst1, k_cl, k_cl1, k_clL, k_clL1, k_finL, k_isi, k_isi1, k_fn, k_fn1, k_dat, k_fnV, k_fnV1, k_seqI, k_seqI1, k_seqI2, k_rng1, k_rng1', k_rng2, k_rng2a, k_rng2b, k_enum, k_enum1, k_zip, k_zip1, k_zip2, k_P, k_P1, k_noP, k_sl, k_sl1, k_sl2, k_sl3, k_cmp, k_cmp1, k_yes, k_seq, k_seq1, k_seq2, k_seq3, k_seq4, k_next, k_brk, k_cont, k_retN, k_asg, k_asg1, k_asgV, k_asgV1, k_asgV2, k_asgV3, k_asgO, k_asgO1, k_asgG, k_asgG1, k_nx, k_gN, k_gT, k_gC, k_g1, k_g0, k_par, k_par1, k_par2, k_drop, k_drop1, k_ret, k_ret1, k_retV, k_retV1, k_ifS, k_ifS1, k_ifS0, k_ifSD, k_fz_ap, k_app, k_app1, k_for, k_for1, k_aug1, k_fun1, k_fun2, k_idx, k_idx1, k_idx2, k_lenC, k_lenC1, k_popC, k_bset, k_getC, k_getC1, k_getC2, k_bg1, k_bg2, k_bs1, k_bs2, k_bc, k_pop1, k_chn, k_chn1, k_chn2, k_chn3t, k_chn3f, k_chn4, k_tfo, k_chnB, k_chB, k_rev, k_rev1, k_revL, k_revL1, k_rg1, k_rg1', k_tupRg, k_tupRg1, k_lstRg, k_lstRg1, k_srt, k_srt1, k_parLE, k_parLE1, k_parLE2, k_augA, k_augA1, sz0, sz1, sz2, sz3, sz4, sz5, sz6, k_fun, eqI, neI, addI, subI, ltI, leI, gtI, geI, truD, isTy, tyName, pyLen, pyAbs, pyMin2, pyMax2, pyInt, pyTuple, pyList, pyIs, pyIsNot, isNon, nown, wipeD, Option.map_some, List.getElem?_cons_zero, List.getElem?_cons_succ, List.set_cons_zero, List.set_cons_succ, List.map_cons, List.map_nil, List.cons_append, List.nil_append, List.length_cons, List.length_nil, List.all_cons, List.all_nil, List.replicate_succ, List.replicate_zero, Bool.and_true, Bool.true_and, Bool.and_self, Bool.not_true, Bool.not_false, and_self, and_true, true_and, if_true, if_false, reduceIte, reduceCtorEq, decide_true, decide_false, Bool.false_eq_true, Nat.reduceAdd, Nat.reduceEqDiff, tD, e]
  have hmin := min1_nD (L.map fun r => mx (traysW ws r)) v (List.mem_map.mpr ⟨R, hRL, hRv⟩) fun x hx => by
    obtain ⟨r, hr, rfl⟩ := List.mem_map.mp hx
    exact hlow r hr
  have hf3 := cm_filter (s0 := s0) (s2 := s2) (s3 := some (.dat (.int w))) (s4 := s4) (s5 := some (.dat (.tuple (nD ws)))) (s6 := some (.dat (.list (RD (allRows ws.length))))) (s7 := s7) (s8 := s8) (s9 := s9) (s10 := s10) (s11 := s11) (s12 := s12) (s13 := s13) (s14 := some (.dat (.int m))) (s15 := some (.dat (.list (RD L)))) (s16 := some (.dat (.int v))) (s17 := s17) (s18 := s18) (s19 := s19) (s21 := s21) (dTst pyEq (dFn (d_law_widest) (dConsA (dVarV 5) (dConsA (dVarV 20) dNilA))) (dVarO 16)) (fun r => decide (mx (traysW ws r) = v)) B L fun r hr => by
    have e := sp_widest ws r (row_ok ((hLm r).mp hr).1) (by have := row_len ((hLm r).mp hr).1 hn; omega) B
    have e' : decide (((mx (traysW ws r) : Nat) : Int) = (v : Int)) = decide (mx (traysW ws r) = v) := decide_eq_decide.mpr (by omega)
    simp only [k_dC, k_var_ap, k_varO_ap, k_varV_ap, k_op, k_op1, k_op2, k_fin, k_tst, k_t1, k_t2, k_tF, k_opB, k_B, k_neg, k_neg1, k_andT, k_orT, k_notT, k_and1, k_and0, k_or1, k_or0, k_not1, k_tru, k_tru1, k_andV, k_orV, k_notV, k_andV1, k_andV0, k_orV1, k_orV0, k_notV1, k_if, k_if1, k_if0, k_ifD, k_nil, k_cons, k_cons1, k_cons2, k_nilA, k_consA, k_consA1, k_consA2, k_V, k_V1, k_F, k_F1, k_tup, k_tup1, k_lst, k_lst1, k_cl, k_cl1, k_clL, k_clL1, k_finL, k_isi, k_isi1, k_fn, k_fn1, k_dat, k_fnV, k_fnV1, k_seqI, k_seqI1, k_seqI2, k_rng1, k_rng1', k_rng2, k_rng2a, k_rng2b, k_enum, k_enum1, k_zip, k_zip1, k_zip2, k_P, k_P1, k_noP, k_sl, k_sl1, k_sl2, k_sl3, k_cmp, k_cmp1, k_yes, k_seq, k_seq1, k_seq2, k_seq3, k_seq4, k_next, k_brk, k_cont, k_retN, k_asg, k_asg1, k_asgV, k_asgV1, k_asgV2, k_asgV3, k_asgO, k_asgO1, k_asgG, k_asgG1, k_nx, k_gN, k_gT, k_gC, k_g1, k_g0, k_par, k_par1, k_par2, k_drop, k_drop1, k_ret, k_ret1, k_retV, k_retV1, k_ifS, k_ifS1, k_ifS0, k_ifSD, k_fz_ap, k_app, k_app1, k_for, k_for1, k_aug1, k_fun1, k_fun2, k_idx, k_idx1, k_idx2, k_lenC, k_lenC1, k_popC, k_bset, k_getC, k_getC1, k_getC2, k_bg1, k_bg2, k_bs1, k_bs2, k_bc, k_pop1, k_chn, k_chn1, k_chn2, k_chn3t, k_chn3f, k_chn4, k_tfo, k_chnB, k_chB, k_rev, k_rev1, k_revL, k_revL1, k_rg1, k_rg1', k_tupRg, k_tupRg1, k_lstRg, k_lstRg1, k_srt, k_srt1, k_parLE, k_parLE1, k_parLE2, k_augA, k_augA1, sz0, sz1, sz2, sz3, sz4, sz5, sz6, k_fun, eqI, neI, addI, subI, ltI, leI, gtI, geI, truD, isTy, tyName, pyLen, pyAbs, pyMin2, pyMax2, pyInt, pyTuple, pyList, pyIs, pyIsNot, isNon, nown, wipeD, Option.map_some, List.getElem?_cons_zero, List.getElem?_cons_succ, List.set_cons_zero, List.set_cons_succ, List.map_cons, List.map_nil, List.cons_append, List.nil_append, List.length_cons, List.length_nil, List.all_cons, List.all_nil, List.replicate_succ, List.replicate_zero, Bool.and_true, Bool.true_and, Bool.and_self, Bool.not_true, Bool.not_false, and_self, and_true, true_and, if_true, if_false, reduceIte, reduceCtorEq, decide_true, decide_false, Bool.false_eq_true, Nat.reduceAdd, Nat.reduceEqDiff, tD, e, e']
  generalize hL2 : L.filter (fun r => decide (mx (traysW ws r) = v)) = L2 at hf3
  have hL2m : ∀ r, r ∈ L2 ↔ r ∈ L ∧ mx (traysW ws r) = v := fun r => by rw [← hL2, List.mem_filter, decide_eq_true_eq]
  have hhead := sort_head L2 R ((hL2m R).mpr ⟨hRL, hRv⟩) fun r hr hne2 => by
    obtain ⟨hr1, hr2⟩ := (hL2m r).mp hr
    obtain ⟨hr3, hr4⟩ := (hLm r).mp hr1
    exact ev_least hv a4 a5 (lay_mx (row_ok hr3) h0 (by omega) ((all_of hr3).2.2 h0).2 v (by omega)) hr4 hne2
  rw [show L2.map tD = RD L2 from rfl] at hhead
  have hsort : pySortedA [.list (RD L2)] = some (sortD (RD L2)) := if_pos (.inl (sortOk_rows L2 fun r hr e => by
    have := ((hLm r).mp ((hL2m r).mp hr).1).2
    rw [e] at this
    simp at this
    omega))
  have hL2len : L2.length ≤ 64 := by rw [← hL2]; exact Nat.le_trans (List.length_filter_le _ _) hLlen
  have z1 : ((RD (allRows ws.length)).length < sizeLine) = True := eq_true (by rw [RD_len]; have := all_len _ hn; exact szlt (by omega))
  have z2 : ((RD L).length < sizeLine) = True := eq_true (by rw [RD_len]; exact szlt (by omega))
  have hsame := sameT (d := tD R) B (by show dep (.tuple (nD R)) < 8; rw [dep_nD]; decide) (pln_nD R (by omega))
  have hne2 : pyNe (.tuple (nD ws)) (.tuple []) = some true := by
    rw [neTE]
    cases ws with
    | nil => exact absurd rfl hne
    | cons _ _ => rfl
  have hf := sp_law_filled (v : Int) ws (by omega) B
  have hq1 : ((m : Int) < ((filled (v : Int) ws).length : Int)) = False := eq_false (by omega)
  have hmx : pyMax1 [.tuple (nD ws)] = some (.int (mx ws : Nat)) := by
    cases ws with
    | nil => exact absurd rfl hne
    | cons x r => exact (max1_nD x r).2
  refine ⟨some (.dat (.list (RD L))), some (.dat (.int v)), some (.dat (tD R)), ?_⟩
  rw [show PyData.tuple (nD R) = tD R from rfl] at a6
  by_cases hgt : mx ws < v
  · have hq2 : ((mx ws : Int) < (v : Int)) = True := eq_true (by omega)
    have hf' := sp_law_filled ((v : Int) - 1) ws (by omega) B
    have hcast : (v : Int) - 1 = ((v - 1 : Nat) : Int) := by omega
    have h3 := a3 (v - 1) (by omega) (by omega)
    have hq3 : (((filled ((v : Int) - 1) ws).length : Int) ≤ (m : Int)) = False := eq_false (by rw [hcast]; omega)
    simp only [k_dC, k_var_ap, k_varO_ap, k_varV_ap, k_op, k_op1, k_op2, k_fin, k_tst, k_t1, k_t2, k_tF, k_opB, k_B, k_neg, k_neg1, k_andT, k_orT, k_notT, k_and1, k_and0, k_or1, k_or0, k_not1, k_tru, k_tru1, k_andV, k_orV, k_notV, k_andV1, k_andV0, k_orV1, k_orV0, k_notV1, k_if, k_if1, k_if0, k_ifD, k_nil, k_cons, k_cons1, k_cons2, k_nilA, k_consA, k_consA1, k_consA2, k_V, k_V1, k_F, k_F1, k_tup, k_tup1, k_lst, k_lst1, k_cl, k_cl1, k_clL, k_clL1, k_finL, k_isi, k_isi1, k_fn, k_fn1, k_dat, k_fnV, k_fnV1, k_seqI, k_seqI1, k_seqI2, k_rng1, k_rng1', k_rng2, k_rng2a, k_rng2b, k_enum, k_enum1, k_zip, k_zip1, k_zip2, k_P, k_P1, k_noP, k_sl, k_sl1, k_sl2, k_sl3, k_cmp, k_cmp1, k_yes, k_seq, k_seq1, k_seq2, k_seq3, k_seq4, k_next, k_brk, k_cont, k_retN, k_asg, k_asg1, k_asgV, k_asgV1, k_asgV2, k_asgV3, k_asgO, k_asgO1, k_asgG, k_asgG1, k_nx, k_gN, k_gT, k_gC, k_g1, k_g0, k_par, k_par1, k_par2, k_drop, k_drop1, k_ret, k_ret1, k_retV, k_retV1, k_ifS, k_ifS1, k_ifS0, k_ifSD, k_fz_ap, k_app, k_app1, k_for, k_for1, k_aug1, k_fun1, k_fun2, k_idx, k_idx1, k_idx2, k_lenC, k_lenC1, k_popC, k_bset, k_getC, k_getC1, k_getC2, k_bg1, k_bg2, k_bs1, k_bs2, k_bc, k_pop1, k_chn, k_chn1, k_chn2, k_chn3t, k_chn3f, k_chn4, k_tfo, k_chnB, k_chB, k_rev, k_rev1, k_revL, k_revL1, k_rg1, k_rg1', k_tupRg, k_tupRg1, k_lstRg, k_lstRg1, k_srt, k_srt1, k_parLE, k_parLE1, k_parLE2, k_augA, k_augA1, sz0, sz1, sz2, sz3, sz4, sz5, sz6, k_fun, eqI, neI, addI, subI, ltI, leI, gtI, geI, truD, isTy, tyName, pyLen, pyAbs, pyMin2, pyMax2, pyInt, pyTuple, pyList, pyIs, pyIsNot, isNon, nown, wipeD, Option.map_some, List.getElem?_cons_zero, List.getElem?_cons_succ, List.set_cons_zero, List.set_cons_succ, List.map_cons, List.map_nil, List.cons_append, List.nil_append, List.length_cons, List.length_nil, List.all_cons, List.all_nil, List.replicate_succ, List.replicate_zero, Bool.and_true, Bool.true_and, Bool.and_self, Bool.not_true, Bool.not_false, and_self, and_true, true_and, if_true, if_false, reduceIte, reduceCtorEq, decide_true, decide_false, Bool.false_eq_true, Nat.reduceAdd, Nat.reduceEqDiff, law_L1, z1, hf1, z2, hf2, hmin, hf3, hsort, hhead, a6, hsame, hne2, sz0, hf, nD_len, hq1, hmx, hq2, hf', hq3]
  · have hq2 : ((mx ws : Int) < (v : Int)) = False := eq_false (by omega)
    simp only [k_dC, k_var_ap, k_varO_ap, k_varV_ap, k_op, k_op1, k_op2, k_fin, k_tst, k_t1, k_t2, k_tF, k_opB, k_B, k_neg, k_neg1, k_andT, k_orT, k_notT, k_and1, k_and0, k_or1, k_or0, k_not1, k_tru, k_tru1, k_andV, k_orV, k_notV, k_andV1, k_andV0, k_orV1, k_orV0, k_notV1, k_if, k_if1, k_if0, k_ifD, k_nil, k_cons, k_cons1, k_cons2, k_nilA, k_consA, k_consA1, k_consA2, k_V, k_V1, k_F, k_F1, k_tup, k_tup1, k_lst, k_lst1, k_cl, k_cl1, k_clL, k_clL1, k_finL, k_isi, k_isi1, k_fn, k_fn1, k_dat, k_fnV, k_fnV1, k_seqI, k_seqI1, k_seqI2, k_rng1, k_rng1', k_rng2, k_rng2a, k_rng2b, k_enum, k_enum1, k_zip, k_zip1, k_zip2, k_P, k_P1, k_noP, k_sl, k_sl1, k_sl2, k_sl3, k_cmp, k_cmp1, k_yes, k_seq, k_seq1, k_seq2, k_seq3, k_seq4, k_next, k_brk, k_cont, k_retN, k_asg, k_asg1, k_asgV, k_asgV1, k_asgV2, k_asgV3, k_asgO, k_asgO1, k_asgG, k_asgG1, k_nx, k_gN, k_gT, k_gC, k_g1, k_g0, k_par, k_par1, k_par2, k_drop, k_drop1, k_ret, k_ret1, k_retV, k_retV1, k_ifS, k_ifS1, k_ifS0, k_ifSD, k_fz_ap, k_app, k_app1, k_for, k_for1, k_aug1, k_fun1, k_fun2, k_idx, k_idx1, k_idx2, k_lenC, k_lenC1, k_popC, k_bset, k_getC, k_getC1, k_getC2, k_bg1, k_bg2, k_bs1, k_bs2, k_bc, k_pop1, k_chn, k_chn1, k_chn2, k_chn3t, k_chn3f, k_chn4, k_tfo, k_chnB, k_chB, k_rev, k_rev1, k_revL, k_revL1, k_rg1, k_rg1', k_tupRg, k_tupRg1, k_lstRg, k_lstRg1, k_srt, k_srt1, k_parLE, k_parLE1, k_parLE2, k_augA, k_augA1, sz0, sz1, sz2, sz3, sz4, sz5, sz6, k_fun, eqI, neI, addI, subI, ltI, leI, gtI, geI, truD, isTy, tyName, pyLen, pyAbs, pyMin2, pyMax2, pyInt, pyTuple, pyList, pyIs, pyIsNot, isNon, nown, wipeD, Option.map_some, List.getElem?_cons_zero, List.getElem?_cons_succ, List.set_cons_zero, List.set_cons_succ, List.map_cons, List.map_nil, List.cons_append, List.nil_append, List.length_cons, List.length_nil, List.all_cons, List.all_nil, List.replicate_succ, List.replicate_zero, Bool.and_true, Bool.true_and, Bool.and_self, Bool.not_true, Bool.not_false, and_self, and_true, true_and, if_true, if_false, reduceIte, reduceCtorEq, decide_true, decide_false, Bool.false_eq_true, Nat.reduceAdd, Nat.reduceEqDiff, law_L1, z1, hf1, z2, hf2, hmin, hf3, hsort, hhead, a6, hsame, hne2, sz0, hf, nD_len, hq1, hmx, hq2]
end Dn

-- dk2
set_option Elab.async false
set_option linter.all false
set_option autoImplicit false
set_option maxRecDepth 100000
set_option maxHeartbeats 4000000
set_option exponentiation.threshold 100000
namespace Dn
open PySem Tr
theorem cmpGo_stT {tg : DG} {e : DE} {sw : Sl} (Q : PyData → Prop) : ∀ (xs : List PyData) (B : Bx), TI B → (∀ x ∈ xs, ∀ B, TI B → ∃ s2 y B', tg x sw = some s2 ∧ e s2 B = some (y, B') ∧ Q y ∧ TI B') → ∃ ys B', cmpGo tg dYes e sw xs B = some (ys, B') ∧ ys.length = xs.length ∧ (∀ y ∈ ys, Q y) ∧ TI B'
  | [], B, hb, _ => ⟨[], B, rfl, rfl, (fun _ h => absurd h List.not_mem_nil), hb⟩
  | x :: xs, B, hb, h => by
    obtain ⟨s2, y, B1, e1, e2, q, b1⟩ := h x List.mem_cons_self B hb
    obtain ⟨ys, B2, e3, hl, hq, b2⟩ := cmpGo_stT Q xs B1 b1 fun z hz => h z (List.mem_cons_of_mem _ hz)
    refine ⟨y :: ys, B2, ?_, by rw [List.length_cons, List.length_cons, hl], ?_, b2⟩
    · unfold cmpGo
      rw [e1]
      show ((e s2 B).bind fun y => (cmpGo tg dYes e sw xs y.2).map fun r => (y.1 :: r.1, r.2)) = _
      rw [e2]
      show (cmpGo tg dYes e sw xs B1).map _ = _
      rw [e3]
      rfl
    · intro z hz
      rcases List.mem_cons.mp hz with k | k
      · rw [k]; exact q
      · exact hq z k
theorem nats_of {w : Nat} : ∀ (ys : List PyData), (∀ y ∈ ys, ∃ x : Nat, y = .int (x : Int) ∧ x ≤ w) → ∃ ws : List Nat, ys = nD ws ∧ ∀ x ∈ ws, x ≤ w
  | [], _ => ⟨[], rfl, (fun _ h => absurd h List.not_mem_nil)⟩
  | y :: ys, h => by
    obtain ⟨c, rfl, hc⟩ := h y List.mem_cons_self
    obtain ⟨cs, rfl, hcs⟩ := nats_of ys fun z hz => h z (List.mem_cons_of_mem _ hz)
    refine ⟨c :: cs, rfl, fun z hz => ?_⟩
    rcases List.mem_cons.mp hz with k | k
    · rw [k]; exact hc
    · exact hcs z k
theorem cm_small {s0 s2 s4 s5 s6 s7 s8 s9 s10 s11 s12 s13 s14 s15 s16 s17 s18 s19 s20 s21 : Option Sv} (w : Nat) (h1 : 1 ≤ w) (h2 : w < 2000) (B : Bx) (hb : TI B) : ∃ ws B', ws.length ≤ 7 ∧ (∀ x ∈ ws, x ≤ w) ∧ TI B' ∧ (dCmp (dRng1 (dFn (d_law_take) (dConsA (dVarV 1) (dConsA (dV (dC (.int 8))) dNilA)))) (gN 4) dYes (dOp pyAdd (dC (.int 1)) (dFn (d_law_take) (dConsA (dVarV 1) (dConsA (dVarV 3) dNilA)))) [4]) [s0, some .box, s2, some (.dat (.int w)), s4, s5, s6, s7, s8, s9, s10, s11, s12, s13, s14, s15, s16, s17, s18, s19, s20, s21] B = some (nD ws, B') := by
  obtain ⟨r, B1, b1, g1, g2, e1⟩ := sp_take 8 B hb (by decide) (by decide)
  obtain ⟨ys, B2, e2, hl, hq, b2⟩ := cmpGo_stT (tg := gN 4) (e := dOp pyAdd (dC (.int 1)) (dFn (d_law_take) (dConsA (dVarV 1) (dConsA (dVarV 3) dNilA)))) (sw := [s0, some .box, s2, some (.dat (.int w)), none, s5, s6, s7, s8, s9, s10, s11, s12, s13, s14, s15, s16, s17, s18, s19, s20, s21]) (fun y => ∃ x : Nat, y = .int (x : Int) ∧ x ≤ w) (rngD 0 r.toNat) B1 b1 fun x hx B0 b0 => by
    obtain ⟨q, B', c1, c2, c3, c4⟩ := sp_take (w : Int) B0 b0 (by omega) (by omega)
    refine ⟨_, .int (1 + q), B', rfl, ?_, ⟨(1 + q).toNat, by rw [Int.toNat_of_nonneg (by omega)], by omega⟩, c1⟩
    simp only [k_dC, k_var_ap, k_varO_ap, k_varV_ap, k_op, k_op1, k_op2, k_fin, k_tst, k_t1, k_t2, k_tF, k_opB, k_B, k_neg, k_neg1, k_andT, k_orT, k_notT, k_and1, k_and0, k_or1, k_or0, k_not1, k_tru, k_tru1, k_andV, k_orV, k_notV, k_andV1, k_andV0, k_orV1, k_orV0, k_notV1, k_if, k_if1, k_if0, k_ifD, k_nil, k_cons, k_cons1, k_cons2, k_nilA, k_consA, k_consA1, k_consA2, k_V, k_V1, k_F, k_F1, k_tup, k_tup1, k_lst, k_lst1, k_cl, k_cl1, k_clL, k_clL1, k_finL, k_isi, k_isi1, k_fn, k_fn1, k_dat, k_fnV, k_fnV1, k_seqI, k_seqI1, k_seqI2, k_rng1, k_rng1', k_rng2, k_rng2a, k_rng2b, k_enum, k_enum1, k_zip, k_zip1, k_zip2, k_P, k_P1, k_noP, k_sl, k_sl1, k_sl2, k_sl3, k_cmp, k_cmp1, k_yes, k_seq, k_seq1, k_seq2, k_seq3, k_seq4, k_next, k_brk, k_cont, k_retN, k_asg, k_asg1, k_asgV, k_asgV1, k_asgV2, k_asgV3, k_asgO, k_asgO1, k_asgG, k_asgG1, k_nx, k_gN, k_gT, k_gC, k_g1, k_g0, k_par, k_par1, k_par2, k_drop, k_drop1, k_ret, k_ret1, k_retV, k_retV1, k_ifS, k_ifS1, k_ifS0, k_ifSD, k_fz_ap, k_app, k_app1, k_for, k_for1, k_aug1, k_fun1, k_fun2, k_idx, k_idx1, k_idx2, k_lenC, k_lenC1, k_popC, k_bset, k_getC, k_getC1, k_getC2, k_at0, k_at1, k_at2, k_bg1, k_bg2, k_bs1, k_bs2, k_bc, k_pop1, k_chn, k_chn1, k_chn2, k_chn3t, k_chn3f, k_chn4, k_tfo, k_chnB, k_chB, k_rev, k_rev1, k_revL, k_revL1, k_rg1, k_rg1', k_tupRg, k_tupRg1, k_lstRg, k_lstRg1, k_srt, k_srt1, k_parLE, k_parLE1, k_parLE2, k_augA, k_augA1, sz0, sz1, sz2, sz3, sz4, sz5, sz6, k_fun, eqI, neI, addI, subI, ltI, leI, gtI, geI, truD, isTy, tyName, pyLen, pyAbs, pyMin2, pyMax2, pyInt, pyTuple, pyList, pyIx, pyIs, pyIsNot, isNon, nown, wipeD, Option.map_some, List.getElem?_cons_zero, List.getElem?_cons_succ, List.set_cons_zero, List.set_cons_succ, List.map_cons, List.map_nil, List.cons_append, List.nil_append, List.length_cons, List.length_nil, List.all_cons, List.all_nil, List.replicate_succ, List.replicate_zero, Bool.and_true, Bool.true_and, Bool.and_self, Bool.not_true, Bool.not_false, and_self, and_true, true_and, if_true, if_false, reduceIte, reduceCtorEq, decide_true, decide_false, Bool.false_eq_true, Nat.reduceAdd, Nat.reduceEqDiff, c4]
  obtain ⟨ws, rfl, hw⟩ := nats_of ys hq
  rw [nD_len, rngD_length] at hl
  refine ⟨ws, B2, by omega, hw, b2, ?_⟩
  have r1 := rng_okI (i := r) (by omega) (by omega)
  have r2 : (r.toNat < sizeLine) = True := eq_true (szlt (by omega))
  rw [k_cmp]
  generalize dOp pyAdd (dC (.int 1)) (dFn (d_law_take) (dConsA (dVarV 1) (dConsA (dVarV 3) dNilA))) = E at e2 ⊢
  simp only [k_dC, k_var_ap, k_varO_ap, k_varV_ap, k_op, k_op1, k_op2, k_fin, k_tst, k_t1, k_t2, k_tF, k_opB, k_B, k_neg, k_neg1, k_andT, k_orT, k_notT, k_and1, k_and0, k_or1, k_or0, k_not1, k_tru, k_tru1, k_andV, k_orV, k_notV, k_andV1, k_andV0, k_orV1, k_orV0, k_notV1, k_if, k_if1, k_if0, k_ifD, k_nil, k_cons, k_cons1, k_cons2, k_nilA, k_consA, k_consA1, k_consA2, k_V, k_V1, k_F, k_F1, k_tup, k_tup1, k_lst, k_lst1, k_cl, k_cl1, k_clL, k_clL1, k_finL, k_isi, k_isi1, k_fn, k_fn1, k_dat, k_fnV, k_fnV1, k_seqI, k_seqI1, k_seqI2, k_rng1, k_rng1', k_rng2, k_rng2a, k_rng2b, k_enum, k_enum1, k_zip, k_zip1, k_zip2, k_P, k_P1, k_noP, k_sl, k_sl1, k_sl2, k_sl3, k_cmp, k_cmp1, k_yes, k_seq, k_seq1, k_seq2, k_seq3, k_seq4, k_next, k_brk, k_cont, k_retN, k_asg, k_asg1, k_asgV, k_asgV1, k_asgV2, k_asgV3, k_asgO, k_asgO1, k_asgG, k_asgG1, k_nx, k_gN, k_gT, k_gC, k_g1, k_g0, k_par, k_par1, k_par2, k_drop, k_drop1, k_ret, k_ret1, k_retV, k_retV1, k_ifS, k_ifS1, k_ifS0, k_ifSD, k_fz_ap, k_app, k_app1, k_for, k_for1, k_aug1, k_fun1, k_fun2, k_idx, k_idx1, k_idx2, k_lenC, k_lenC1, k_popC, k_bset, k_getC, k_getC1, k_getC2, k_at0, k_at1, k_at2, k_bg1, k_bg2, k_bs1, k_bs2, k_bc, k_pop1, k_chn, k_chn1, k_chn2, k_chn3t, k_chn3f, k_chn4, k_tfo, k_chnB, k_chB, k_rev, k_rev1, k_revL, k_revL1, k_rg1, k_rg1', k_tupRg, k_tupRg1, k_lstRg, k_lstRg1, k_srt, k_srt1, k_parLE, k_parLE1, k_parLE2, k_augA, k_augA1, sz0, sz1, sz2, sz3, sz4, sz5, sz6, k_fun, eqI, neI, addI, subI, ltI, leI, gtI, geI, truD, isTy, tyName, pyLen, pyAbs, pyMin2, pyMax2, pyInt, pyTuple, pyList, pyIx, pyIs, pyIsNot, isNon, nown, wipeD, Option.map_some, List.getElem?_cons_zero, List.getElem?_cons_succ, List.set_cons_zero, List.set_cons_succ, List.map_cons, List.map_nil, List.cons_append, List.nil_append, List.length_cons, List.length_nil, List.all_cons, List.all_nil, List.replicate_succ, List.replicate_zero, Bool.and_true, Bool.true_and, Bool.and_self, Bool.not_true, Bool.not_false, and_self, and_true, true_and, if_true, if_false, reduceIte, reduceCtorEq, decide_true, decide_false, Bool.false_eq_true, Nat.reduceAdd, Nat.reduceEqDiff, e1, r1, rngD_length, r2, e2]
theorem cm_big {s0 s2 s4 s5 s6 s7 s8 s9 s10 s11 s12 s13 s14 s15 s16 s17 s18 s19 s20 s21 : Option Sv} (w : Nat) (h1 : 500 ≤ w) (h2 : w < 2000) (B : Bx) (hb : TI B) : ∃ ws B', 1 ≤ ws.length ∧ ws.length ≤ 60 ∧ (∀ x ∈ ws, x ≤ w) ∧ TI B' ∧ (dCmp (dRng1 (dOp pyAdd (dC (.int 1)) (dFn (d_law_take) (dConsA (dVarV 1) (dConsA (dV (dC (.int 60))) dNilA))))) (gN 4) dYes (dOp pyAdd (dC (.int 1)) (dFn (d_law_take) (dConsA (dVarV 1) (dConsA (dV (dOp pyIx (dF (dLst (dCons (dVar 3) (dCons (dC (.int 60)) dNil)))) (dFn (d_law_take) (dConsA (dVarV 1) (dConsA (dV (dC (.int 2))) dNilA))))) dNilA)))) [4]) [s0, some .box, s2, some (.dat (.int w)), s4, s5, s6, s7, s8, s9, s10, s11, s12, s13, s14, s15, s16, s17, s18, s19, s20, s21] B = some (nD ws, B') := by
  obtain ⟨r, B1, b1, g1, g2, e1⟩ := sp_take 60 B hb (by decide) (by decide)
  obtain ⟨ys, B2, e2, hl, hq, b2⟩ := cmpGo_stT (tg := gN 4) (e := dOp pyAdd (dC (.int 1)) (dFn (d_law_take) (dConsA (dVarV 1) (dConsA (dV (dOp pyIx (dF (dLst (dCons (dVar 3) (dCons (dC (.int 60)) dNil)))) (dFn (d_law_take) (dConsA (dVarV 1) (dConsA (dV (dC (.int 2))) dNilA))))) dNilA)))) (sw := [s0, some .box, s2, some (.dat (.int w)), none, s5, s6, s7, s8, s9, s10, s11, s12, s13, s14, s15, s16, s17, s18, s19, s20, s21]) (fun y => ∃ x : Nat, y = .int (x : Int) ∧ x ≤ w) (rngD 0 (1 + r).toNat) B1 b1 fun x hx B0 b0 => by
    obtain ⟨z, B3, d1, d2, d3, d4⟩ := sp_take 2 B0 b0 (by decide) (by decide)
    have hz : z = 0 ∨ z = 1 := by omega
    rcases hz with rfl | rfl
    · obtain ⟨q, B', c1, c2, c3, c4⟩ := sp_take (w : Int) B3 d1 (by omega) (by omega)
      refine ⟨_, .int (1 + q), B', rfl, ?_, ⟨(1 + q).toNat, by rw [Int.toNat_of_nonneg (by omega)], by omega⟩, c1⟩
      simp only [k_dC, k_var_ap, k_varO_ap, k_varV_ap, k_op, k_op1, k_op2, k_fin, k_tst, k_t1, k_t2, k_tF, k_opB, k_B, k_neg, k_neg1, k_andT, k_orT, k_notT, k_and1, k_and0, k_or1, k_or0, k_not1, k_tru, k_tru1, k_andV, k_orV, k_notV, k_andV1, k_andV0, k_orV1, k_orV0, k_notV1, k_if, k_if1, k_if0, k_ifD, k_nil, k_cons, k_cons1, k_cons2, k_nilA, k_consA, k_consA1, k_consA2, k_V, k_V1, k_F, k_F1, k_tup, k_tup1, k_lst, k_lst1, k_cl, k_cl1, k_clL, k_clL1, k_finL, k_isi, k_isi1, k_fn, k_fn1, k_dat, k_fnV, k_fnV1, k_seqI, k_seqI1, k_seqI2, k_rng1, k_rng1', k_rng2, k_rng2a, k_rng2b, k_enum, k_enum1, k_zip, k_zip1, k_zip2, k_P, k_P1, k_noP, k_sl, k_sl1, k_sl2, k_sl3, k_cmp, k_cmp1, k_yes, k_seq, k_seq1, k_seq2, k_seq3, k_seq4, k_next, k_brk, k_cont, k_retN, k_asg, k_asg1, k_asgV, k_asgV1, k_asgV2, k_asgV3, k_asgO, k_asgO1, k_asgG, k_asgG1, k_nx, k_gN, k_gT, k_gC, k_g1, k_g0, k_par, k_par1, k_par2, k_drop, k_drop1, k_ret, k_ret1, k_retV, k_retV1, k_ifS, k_ifS1, k_ifS0, k_ifSD, k_fz_ap, k_app, k_app1, k_for, k_for1, k_aug1, k_fun1, k_fun2, k_idx, k_idx1, k_idx2, k_lenC, k_lenC1, k_popC, k_bset, k_getC, k_getC1, k_getC2, k_at0, k_at1, k_at2, k_bg1, k_bg2, k_bs1, k_bs2, k_bc, k_pop1, k_chn, k_chn1, k_chn2, k_chn3t, k_chn3f, k_chn4, k_tfo, k_chnB, k_chB, k_rev, k_rev1, k_revL, k_revL1, k_rg1, k_rg1', k_tupRg, k_tupRg1, k_lstRg, k_lstRg1, k_srt, k_srt1, k_parLE, k_parLE1, k_parLE2, k_augA, k_augA1, sz0, sz1, sz2, sz3, sz4, sz5, sz6, k_fun, eqI, neI, addI, subI, ltI, leI, gtI, geI, truD, isTy, tyName, pyLen, pyAbs, pyMin2, pyMax2, pyInt, pyTuple, pyList, pyIx, pyIs, pyIsNot, isNon, nown, wipeD, Option.map_some, List.getElem?_cons_zero, List.getElem?_cons_succ, List.set_cons_zero, List.set_cons_succ, List.map_cons, List.map_nil, List.cons_append, List.nil_append, List.length_cons, List.length_nil, List.all_cons, List.all_nil, List.replicate_succ, List.replicate_zero, Bool.and_true, Bool.true_and, Bool.and_self, Bool.not_true, Bool.not_false, and_self, and_true, true_and, if_true, if_false, reduceIte, reduceCtorEq, decide_true, decide_false, Bool.false_eq_true, Nat.reduceAdd, Nat.reduceEqDiff, d4, k_at0, c4]
    · obtain ⟨q, B', c1, c2, c3, c4⟩ := sp_take 60 B3 d1 (by omega) (by omega)
      refine ⟨_, .int (1 + q), B', rfl, ?_, ⟨(1 + q).toNat, by rw [Int.toNat_of_nonneg (by omega)], by omega⟩, c1⟩
      simp only [k_dC, k_var_ap, k_varO_ap, k_varV_ap, k_op, k_op1, k_op2, k_fin, k_tst, k_t1, k_t2, k_tF, k_opB, k_B, k_neg, k_neg1, k_andT, k_orT, k_notT, k_and1, k_and0, k_or1, k_or0, k_not1, k_tru, k_tru1, k_andV, k_orV, k_notV, k_andV1, k_andV0, k_orV1, k_orV0, k_notV1, k_if, k_if1, k_if0, k_ifD, k_nil, k_cons, k_cons1, k_cons2, k_nilA, k_consA, k_consA1, k_consA2, k_V, k_V1, k_F, k_F1, k_tup, k_tup1, k_lst, k_lst1, k_cl, k_cl1, k_clL, k_clL1, k_finL, k_isi, k_isi1, k_fn, k_fn1, k_dat, k_fnV, k_fnV1, k_seqI, k_seqI1, k_seqI2, k_rng1, k_rng1', k_rng2, k_rng2a, k_rng2b, k_enum, k_enum1, k_zip, k_zip1, k_zip2, k_P, k_P1, k_noP, k_sl, k_sl1, k_sl2, k_sl3, k_cmp, k_cmp1, k_yes, k_seq, k_seq1, k_seq2, k_seq3, k_seq4, k_next, k_brk, k_cont, k_retN, k_asg, k_asg1, k_asgV, k_asgV1, k_asgV2, k_asgV3, k_asgO, k_asgO1, k_asgG, k_asgG1, k_nx, k_gN, k_gT, k_gC, k_g1, k_g0, k_par, k_par1, k_par2, k_drop, k_drop1, k_ret, k_ret1, k_retV, k_retV1, k_ifS, k_ifS1, k_ifS0, k_ifSD, k_fz_ap, k_app, k_app1, k_for, k_for1, k_aug1, k_fun1, k_fun2, k_idx, k_idx1, k_idx2, k_lenC, k_lenC1, k_popC, k_bset, k_getC, k_getC1, k_getC2, k_at0, k_at1, k_at2, k_bg1, k_bg2, k_bs1, k_bs2, k_bc, k_pop1, k_chn, k_chn1, k_chn2, k_chn3t, k_chn3f, k_chn4, k_tfo, k_chnB, k_chB, k_rev, k_rev1, k_revL, k_revL1, k_rg1, k_rg1', k_tupRg, k_tupRg1, k_lstRg, k_lstRg1, k_srt, k_srt1, k_parLE, k_parLE1, k_parLE2, k_augA, k_augA1, sz0, sz1, sz2, sz3, sz4, sz5, sz6, k_fun, eqI, neI, addI, subI, ltI, leI, gtI, geI, truD, isTy, tyName, pyLen, pyAbs, pyMin2, pyMax2, pyInt, pyTuple, pyList, pyIx, pyIs, pyIsNot, isNon, nown, wipeD, Option.map_some, List.getElem?_cons_zero, List.getElem?_cons_succ, List.set_cons_zero, List.set_cons_succ, List.map_cons, List.map_nil, List.cons_append, List.nil_append, List.length_cons, List.length_nil, List.all_cons, List.all_nil, List.replicate_succ, List.replicate_zero, Bool.and_true, Bool.true_and, Bool.and_self, Bool.not_true, Bool.not_false, and_self, and_true, true_and, if_true, if_false, reduceIte, reduceCtorEq, decide_true, decide_false, Bool.false_eq_true, Nat.reduceAdd, Nat.reduceEqDiff, d4, k_at1, c4]
  obtain ⟨ws, rfl, hw⟩ := nats_of ys hq
  rw [nD_len, rngD_length] at hl
  refine ⟨ws, B2, by omega, by omega, hw, b2, ?_⟩
  have r1 := rng_okI (i := 1 + r) (by omega) (by omega)
  have r2 : ((1 + r).toNat < sizeLine) = True := eq_true (szlt (by omega))
  rw [k_cmp]
  generalize dOp pyAdd (dC (.int 1)) (dFn (d_law_take) (dConsA (dVarV 1) (dConsA (dV (dOp pyIx _ _)) dNilA))) = E at e2 ⊢
  simp only [k_dC, k_var_ap, k_varO_ap, k_varV_ap, k_op, k_op1, k_op2, k_fin, k_tst, k_t1, k_t2, k_tF, k_opB, k_B, k_neg, k_neg1, k_andT, k_orT, k_notT, k_and1, k_and0, k_or1, k_or0, k_not1, k_tru, k_tru1, k_andV, k_orV, k_notV, k_andV1, k_andV0, k_orV1, k_orV0, k_notV1, k_if, k_if1, k_if0, k_ifD, k_nil, k_cons, k_cons1, k_cons2, k_nilA, k_consA, k_consA1, k_consA2, k_V, k_V1, k_F, k_F1, k_tup, k_tup1, k_lst, k_lst1, k_cl, k_cl1, k_clL, k_clL1, k_finL, k_isi, k_isi1, k_fn, k_fn1, k_dat, k_fnV, k_fnV1, k_seqI, k_seqI1, k_seqI2, k_rng1, k_rng1', k_rng2, k_rng2a, k_rng2b, k_enum, k_enum1, k_zip, k_zip1, k_zip2, k_P, k_P1, k_noP, k_sl, k_sl1, k_sl2, k_sl3, k_cmp, k_cmp1, k_yes, k_seq, k_seq1, k_seq2, k_seq3, k_seq4, k_next, k_brk, k_cont, k_retN, k_asg, k_asg1, k_asgV, k_asgV1, k_asgV2, k_asgV3, k_asgO, k_asgO1, k_asgG, k_asgG1, k_nx, k_gN, k_gT, k_gC, k_g1, k_g0, k_par, k_par1, k_par2, k_drop, k_drop1, k_ret, k_ret1, k_retV, k_retV1, k_ifS, k_ifS1, k_ifS0, k_ifSD, k_fz_ap, k_app, k_app1, k_for, k_for1, k_aug1, k_fun1, k_fun2, k_idx, k_idx1, k_idx2, k_lenC, k_lenC1, k_popC, k_bset, k_getC, k_getC1, k_getC2, k_at0, k_at1, k_at2, k_bg1, k_bg2, k_bs1, k_bs2, k_bc, k_pop1, k_chn, k_chn1, k_chn2, k_chn3t, k_chn3f, k_chn4, k_tfo, k_chnB, k_chB, k_rev, k_rev1, k_revL, k_revL1, k_rg1, k_rg1', k_tupRg, k_tupRg1, k_lstRg, k_lstRg1, k_srt, k_srt1, k_parLE, k_parLE1, k_parLE2, k_augA, k_augA1, sz0, sz1, sz2, sz3, sz4, sz5, sz6, k_fun, eqI, neI, addI, subI, ltI, leI, gtI, geI, truD, isTy, tyName, pyLen, pyAbs, pyMin2, pyMax2, pyInt, pyTuple, pyList, pyIx, pyIs, pyIsNot, isNon, nown, wipeD, Option.map_some, List.getElem?_cons_zero, List.getElem?_cons_succ, List.set_cons_zero, List.set_cons_succ, List.map_cons, List.map_nil, List.cons_append, List.nil_append, List.length_cons, List.length_nil, List.all_cons, List.all_nil, List.replicate_succ, List.replicate_zero, Bool.and_true, Bool.true_and, Bool.and_self, Bool.not_true, Bool.not_false, and_self, and_true, true_and, if_true, if_false, reduceIte, reduceCtorEq, decide_true, decide_false, Bool.false_eq_true, Nat.reduceAdd, Nat.reduceEqDiff, e1, r1, rngD_length, r2, e2]
theorem body_L1z {s0 s2 s4 s7 s8 s9 s10 s11 s12 s13 s15 s16 s17 s18 s19 s20 s21 : Option Sv} (w : Nat) (B : Bx) : ∃ t15 t16 t17, law_L1 [s0, some .box, s2, some (.dat (.int w)), s4, some (.dat (.tuple (nD []))), some (.dat (.list (RD (allRows 0)))), s7, s8, s9, s10, s11, s12, s13, some (.dat (.int 0)), s15, s16, s17, s18, s19, s20, s21] B = some (.nx [s0, some .box, s2, some (.dat (.int w)), s4, some (.dat (.tuple (nD []))), some (.dat (.list (RD (allRows 0)))), s7, s8, s9, s10, s11, s12, s13, some (.dat (.int 0)), t15, t16, t17, s18, s19, s20, s21] B) := by
  have hA : allRows 0 = [[]] := rfl
  rw [hA]
  have hro : RowOk [] [] := ⟨.nil, fun x hx => absurd hx List.not_mem_nil⟩
  have hwd := sp_widest [] [] hro (by decide) B
  have hmx0 : mx (traysW [] []) = 0 := rfl
  rw [hmx0] at hwd
  have hf1 := cm_filter (s0 := s0) (s2 := s2) (s3 := some (.dat (.int w))) (s4 := s4) (s5 := some (.dat (.tuple (nD [])))) (s6 := some (.dat (.list (RD [[]])))) (s7 := s7) (s8 := s8) (s9 := s9) (s10 := s10) (s11 := s11) (s12 := s12) (s13 := s13) (s14 := some (.dat (.int 0))) (s15 := s15) (s16 := s16) (s17 := s17) (s18 := s18) (s19 := s19) (s21 := s21) (dTst pyEq (dCl pyLen (dCons (dVarO 20) dNil)) (dVarO 14)) (fun r => decide (r.length = 0)) B [[]] fun r hr => by
    have e : decide ((r.length : Int) = 0) = decide (r.length = 0) := decide_eq_decide.mpr (by omega)
    simp only [k_dC, k_var_ap, k_varO_ap, k_varV_ap, k_op, k_op1, k_op2, k_fin, k_tst, k_t1, k_t2, k_tF, k_opB, k_B, k_neg, k_neg1, k_andT, k_orT, k_notT, k_and1, k_and0, k_or1, k_or0, k_not1, k_tru, k_tru1, k_andV, k_orV, k_notV, k_andV1, k_andV0, k_orV1, k_orV0, k_notV1, k_if, k_if1, k_if0, k_ifD, k_nil, k_cons, k_cons1, k_cons2, k_nilA, k_consA, k_consA1, k_consA2, k_V, k_V1, k_F, k_F1, k_tup, k_tup1, k_lst, k_lst1, k_cl, k_cl1, k_clL, k_clL1, k_finL, k_isi, k_isi1, k_fn, k_fn1, k_dat, k_fnV, k_fnV1, k_seqI, k_seqI1, k_seqI2, k_rng1, k_rng1', k_rng2, k_rng2a, k_rng2b, k_enum, k_enum1, k_zip, k_zip1, k_zip2, k_P, k_P1, k_noP, k_sl, k_sl1, k_sl2, k_sl3, k_cmp, k_cmp1, k_yes, k_seq, k_seq1, k_seq2, k_seq3, k_seq4, k_next, k_brk, k_cont, k_retN, k_asg, k_asg1, k_asgV, k_asgV1, k_asgV2, k_asgV3, k_asgO, k_asgO1, k_asgG, k_asgG1, k_nx, k_gN, k_gT, k_gC, k_g1, k_g0, k_par, k_par1, k_par2, k_drop, k_drop1, k_ret, k_ret1, k_retV, k_retV1, k_ifS, k_ifS1, k_ifS0, k_ifSD, k_fz_ap, k_app, k_app1, k_for, k_for1, k_aug1, k_fun1, k_fun2, k_idx, k_idx1, k_idx2, k_lenC, k_lenC1, k_popC, k_bset, k_getC, k_getC1, k_getC2, k_bg1, k_bg2, k_bs1, k_bs2, k_bc, k_pop1, k_chn, k_chn1, k_chn2, k_chn3t, k_chn3f, k_chn4, k_tfo, k_chnB, k_chB, k_rev, k_rev1, k_revL, k_revL1, k_rg1, k_rg1', k_tupRg, k_tupRg1, k_lstRg, k_lstRg1, k_srt, k_srt1, k_parLE, k_parLE1, k_parLE2, k_augA, k_augA1, sz0, sz1, sz2, sz3, sz4, sz5, sz6, k_fun, eqI, neI, addI, subI, ltI, leI, gtI, geI, truD, isTy, tyName, pyLen, pyAbs, pyMin2, pyMax2, pyInt, pyTuple, pyList, pyIs, pyIsNot, isNon, nown, wipeD, Option.map_some, List.getElem?_cons_zero, List.getElem?_cons_succ, List.set_cons_zero, List.set_cons_succ, List.map_cons, List.map_nil, List.cons_append, List.nil_append, List.length_cons, List.length_nil, List.all_cons, List.all_nil, List.replicate_succ, List.replicate_zero, Bool.and_true, Bool.true_and, Bool.and_self, Bool.not_true, Bool.not_false, and_self, and_true, true_and, if_true, if_false, reduceIte, reduceCtorEq, decide_true, decide_false, Bool.false_eq_true, Nat.reduceAdd, Nat.reduceEqDiff, tD, nD_len, e]
  have hf2 := cm_mapN (s0 := s0) (s2 := s2) (s3 := some (.dat (.int w))) (s4 := s4) (s5 := some (.dat (.tuple (nD [])))) (s6 := some (.dat (.list (RD [[]])))) (s7 := s7) (s8 := s8) (s9 := s9) (s10 := s10) (s11 := s11) (s12 := s12) (s13 := s13) (s14 := some (.dat (.int 0))) (s15 := some (.dat (.list (RD [[]])))) (s16 := s16) (s17 := s17) (s18 := s18) (s19 := s19) (s21 := s21) (dFn (d_law_widest) (dConsA (dVarV 5) (dConsA (dVarV 20) dNilA))) (fun r => 0) B [[]] fun r hr => by
    have : r = [] := by simpa using hr
    subst this
    simp only [k_dC, k_var_ap, k_varO_ap, k_varV_ap, k_op, k_op1, k_op2, k_fin, k_tst, k_t1, k_t2, k_tF, k_opB, k_B, k_neg, k_neg1, k_andT, k_orT, k_notT, k_and1, k_and0, k_or1, k_or0, k_not1, k_tru, k_tru1, k_andV, k_orV, k_notV, k_andV1, k_andV0, k_orV1, k_orV0, k_notV1, k_if, k_if1, k_if0, k_ifD, k_nil, k_cons, k_cons1, k_cons2, k_nilA, k_consA, k_consA1, k_consA2, k_V, k_V1, k_F, k_F1, k_tup, k_tup1, k_lst, k_lst1, k_cl, k_cl1, k_clL, k_clL1, k_finL, k_isi, k_isi1, k_fn, k_fn1, k_dat, k_fnV, k_fnV1, k_seqI, k_seqI1, k_seqI2, k_rng1, k_rng1', k_rng2, k_rng2a, k_rng2b, k_enum, k_enum1, k_zip, k_zip1, k_zip2, k_P, k_P1, k_noP, k_sl, k_sl1, k_sl2, k_sl3, k_cmp, k_cmp1, k_yes, k_seq, k_seq1, k_seq2, k_seq3, k_seq4, k_next, k_brk, k_cont, k_retN, k_asg, k_asg1, k_asgV, k_asgV1, k_asgV2, k_asgV3, k_asgO, k_asgO1, k_asgG, k_asgG1, k_nx, k_gN, k_gT, k_gC, k_g1, k_g0, k_par, k_par1, k_par2, k_drop, k_drop1, k_ret, k_ret1, k_retV, k_retV1, k_ifS, k_ifS1, k_ifS0, k_ifSD, k_fz_ap, k_app, k_app1, k_for, k_for1, k_aug1, k_fun1, k_fun2, k_idx, k_idx1, k_idx2, k_lenC, k_lenC1, k_popC, k_bset, k_getC, k_getC1, k_getC2, k_bg1, k_bg2, k_bs1, k_bs2, k_bc, k_pop1, k_chn, k_chn1, k_chn2, k_chn3t, k_chn3f, k_chn4, k_tfo, k_chnB, k_chB, k_rev, k_rev1, k_revL, k_revL1, k_rg1, k_rg1', k_tupRg, k_tupRg1, k_lstRg, k_lstRg1, k_srt, k_srt1, k_parLE, k_parLE1, k_parLE2, k_augA, k_augA1, sz0, sz1, sz2, sz3, sz4, sz5, sz6, k_fun, eqI, neI, addI, subI, ltI, leI, gtI, geI, truD, isTy, tyName, pyLen, pyAbs, pyMin2, pyMax2, pyInt, pyTuple, pyList, pyIs, pyIsNot, isNon, nown, wipeD, Option.map_some, List.getElem?_cons_zero, List.getElem?_cons_succ, List.set_cons_zero, List.set_cons_succ, List.map_cons, List.map_nil, List.cons_append, List.nil_append, List.length_cons, List.length_nil, List.all_cons, List.all_nil, List.replicate_succ, List.replicate_zero, Bool.and_true, Bool.true_and, Bool.and_self, Bool.not_true, Bool.not_false, and_self, and_true, true_and, if_true, if_false, reduceIte, reduceCtorEq, decide_true, decide_false, Bool.false_eq_true, Nat.reduceAdd, Nat.reduceEqDiff, tD, hwd]
  have hf3 := cm_filter (s0 := s0) (s2 := s2) (s3 := some (.dat (.int w))) (s4 := s4) (s5 := some (.dat (.tuple (nD [])))) (s6 := some (.dat (.list (RD [[]])))) (s7 := s7) (s8 := s8) (s9 := s9) (s10 := s10) (s11 := s11) (s12 := s12) (s13 := s13) (s14 := some (.dat (.int 0))) (s15 := some (.dat (.list (RD [[]])))) (s16 := some (.dat (.int 0))) (s17 := s17) (s18 := s18) (s19 := s19) (s21 := s21) (dTst pyEq (dFn (d_law_widest) (dConsA (dVarV 5) (dConsA (dVarV 20) dNilA))) (dVarO 16)) (fun r => true) B [[]] fun r hr => by
    have : r = [] := by simpa using hr
    subst this
    have z : (((0 : Nat) : Int) = 0) = True := eq_true rfl
    simp only [k_dC, k_var_ap, k_varO_ap, k_varV_ap, k_op, k_op1, k_op2, k_fin, k_tst, k_t1, k_t2, k_tF, k_opB, k_B, k_neg, k_neg1, k_andT, k_orT, k_notT, k_and1, k_and0, k_or1, k_or0, k_not1, k_tru, k_tru1, k_andV, k_orV, k_notV, k_andV1, k_andV0, k_orV1, k_orV0, k_notV1, k_if, k_if1, k_if0, k_ifD, k_nil, k_cons, k_cons1, k_cons2, k_nilA, k_consA, k_consA1, k_consA2, k_V, k_V1, k_F, k_F1, k_tup, k_tup1, k_lst, k_lst1, k_cl, k_cl1, k_clL, k_clL1, k_finL, k_isi, k_isi1, k_fn, k_fn1, k_dat, k_fnV, k_fnV1, k_seqI, k_seqI1, k_seqI2, k_rng1, k_rng1', k_rng2, k_rng2a, k_rng2b, k_enum, k_enum1, k_zip, k_zip1, k_zip2, k_P, k_P1, k_noP, k_sl, k_sl1, k_sl2, k_sl3, k_cmp, k_cmp1, k_yes, k_seq, k_seq1, k_seq2, k_seq3, k_seq4, k_next, k_brk, k_cont, k_retN, k_asg, k_asg1, k_asgV, k_asgV1, k_asgV2, k_asgV3, k_asgO, k_asgO1, k_asgG, k_asgG1, k_nx, k_gN, k_gT, k_gC, k_g1, k_g0, k_par, k_par1, k_par2, k_drop, k_drop1, k_ret, k_ret1, k_retV, k_retV1, k_ifS, k_ifS1, k_ifS0, k_ifSD, k_fz_ap, k_app, k_app1, k_for, k_for1, k_aug1, k_fun1, k_fun2, k_idx, k_idx1, k_idx2, k_lenC, k_lenC1, k_popC, k_bset, k_getC, k_getC1, k_getC2, k_bg1, k_bg2, k_bs1, k_bs2, k_bc, k_pop1, k_chn, k_chn1, k_chn2, k_chn3t, k_chn3f, k_chn4, k_tfo, k_chnB, k_chB, k_rev, k_rev1, k_revL, k_revL1, k_rg1, k_rg1', k_tupRg, k_tupRg1, k_lstRg, k_lstRg1, k_srt, k_srt1, k_parLE, k_parLE1, k_parLE2, k_augA, k_augA1, sz0, sz1, sz2, sz3, sz4, sz5, sz6, k_fun, eqI, neI, addI, subI, ltI, leI, gtI, geI, truD, isTy, tyName, pyLen, pyAbs, pyMin2, pyMax2, pyInt, pyTuple, pyList, pyIs, pyIsNot, isNon, nown, wipeD, Option.map_some, List.getElem?_cons_zero, List.getElem?_cons_succ, List.set_cons_zero, List.set_cons_succ, List.map_cons, List.map_nil, List.cons_append, List.nil_append, List.length_cons, List.length_nil, List.all_cons, List.all_nil, List.replicate_succ, List.replicate_zero, Bool.and_true, Bool.true_and, Bool.and_self, Bool.not_true, Bool.not_false, and_self, and_true, true_and, if_true, if_false, reduceIte, reduceCtorEq, decide_true, decide_false, Bool.false_eq_true, Nat.reduceAdd, Nat.reduceEqDiff, tD, hwd, z]
  have g1 : ([[]] : List (List Nat)).filter (fun r => decide (r.length = 0)) = [[]] := rfl
  have g3 : ([[]] : List (List Nat)).filter (fun _ => true) = [[]] := rfl
  rw [g1] at hf1
  rw [g3] at hf3
  have z1 : ((RD [[]]).length < sizeLine) = True := eq_true (szlt (by decide))
  have hmin : pyMin1 [.list (nD [0])] = some (.int 0) := by rfl
  have hsort : pySortedA [.list (RD [[]])] = some (RD [[]]) := by
    show (if sortOk (RD [[]]) = true ∨ (RD [[]]).length ≤ 1 then some (sortD (RD [[]])) else none) = _
    rw [if_pos (Or.inr (by decide)), sortD_one (by decide)]
  have hhead : pyIx (.list (RD [[]])) (.int 0) = some (tD []) := k_at0
  have a6 := sp_even0 (w : Int) 0 B
  rw [show PyData.tuple (nD []) = tD [] from rfl] at a6
  have hsame := sameT (d := tD []) B (by decide) rfl
  have hne2 : pyNe (tD []) (.tuple []) = some false := neTE []
  refine ⟨some (.dat (.list (RD [[]]))), some (.dat (.int 0)), some (.dat (tD [])), ?_⟩
  rw [show PyData.tuple (nD []) = tD [] from rfl] at *
  simp only [k_dC, k_var_ap, k_varO_ap, k_varV_ap, k_op, k_op1, k_op2, k_fin, k_tst, k_t1, k_t2, k_tF, k_opB, k_B, k_neg, k_neg1, k_andT, k_orT, k_notT, k_and1, k_and0, k_or1, k_or0, k_not1, k_tru, k_tru1, k_andV, k_orV, k_notV, k_andV1, k_andV0, k_orV1, k_orV0, k_notV1, k_if, k_if1, k_if0, k_ifD, k_nil, k_cons, k_cons1, k_cons2, k_nilA, k_consA, k_consA1, k_consA2, k_V, k_V1, k_F, k_F1, k_tup, k_tup1, k_lst, k_lst1, k_cl, k_cl1, k_clL, k_clL1, k_finL, k_isi, k_isi1, k_fn, k_fn1, k_dat, k_fnV, k_fnV1, k_seqI, k_seqI1, k_seqI2, k_rng1, k_rng1', k_rng2, k_rng2a, k_rng2b, k_enum, k_enum1, k_zip, k_zip1, k_zip2, k_P, k_P1, k_noP, k_sl, k_sl1, k_sl2, k_sl3, k_cmp, k_cmp1, k_yes, k_seq, k_seq1, k_seq2, k_seq3, k_seq4, k_next, k_brk, k_cont, k_retN, k_asg, k_asg1, k_asgV, k_asgV1, k_asgV2, k_asgV3, k_asgO, k_asgO1, k_asgG, k_asgG1, k_nx, k_gN, k_gT, k_gC, k_g1, k_g0, k_par, k_par1, k_par2, k_drop, k_drop1, k_ret, k_ret1, k_retV, k_retV1, k_ifS, k_ifS1, k_ifS0, k_ifSD, k_fz_ap, k_app, k_app1, k_for, k_for1, k_aug1, k_fun1, k_fun2, k_idx, k_idx1, k_idx2, k_lenC, k_lenC1, k_popC, k_bset, k_getC, k_getC1, k_getC2, k_bg1, k_bg2, k_bs1, k_bs2, k_bc, k_pop1, k_chn, k_chn1, k_chn2, k_chn3t, k_chn3f, k_chn4, k_tfo, k_chnB, k_chB, k_rev, k_rev1, k_revL, k_revL1, k_rg1, k_rg1', k_tupRg, k_tupRg1, k_lstRg, k_lstRg1, k_srt, k_srt1, k_parLE, k_parLE1, k_parLE2, k_augA, k_augA1, sz0, sz1, sz2, sz3, sz4, sz5, sz6, k_fun, eqI, neI, addI, subI, ltI, leI, gtI, geI, truD, isTy, tyName, pyLen, pyAbs, pyMin2, pyMax2, pyInt, pyTuple, pyList, pyIs, pyIsNot, isNon, nown, wipeD, Option.map_some, List.getElem?_cons_zero, List.getElem?_cons_succ, List.set_cons_zero, List.set_cons_succ, List.map_cons, List.map_nil, List.cons_append, List.nil_append, List.length_cons, List.length_nil, List.all_cons, List.all_nil, List.replicate_succ, List.replicate_zero, Bool.and_true, Bool.true_and, Bool.and_self, Bool.not_true, Bool.not_false, and_self, and_true, true_and, if_true, if_false, reduceIte, reduceCtorEq, decide_true, decide_false, Bool.false_eq_true, Nat.reduceAdd, Nat.reduceEqDiff, law_L1, z1, hf1, hf2, hmin, hf3, hsort, hhead, a6, hsame, hne2, sz0]
end Dn

-- dk2
set_option Elab.async false
set_option linter.all false
set_option autoImplicit false
set_option maxRecDepth 100000
set_option maxHeartbeats 4000000
set_option exponentiation.threshold 100000
namespace Dn
open PySem Tr
theorem loop_L1 {s0 s2 s4 s7 s8 s9 s10 s11 s12 s13 s14 s15 s16 s17 s18 s19 s20 s21 : Option Sv} (w : Nat) (ws : List Nat) (hn : ws.length ≤ 7) (hw : ∀ x ∈ ws, x ≤ w) (B : Bx) : ∃ t14 t15 t16 t17, forGo (gN 14) law_L1 (rngD ((filled (w : Int) ws).length : Int) (ws.length + 1 - (filled (w : Int) ws).length)) [s0, some .box, s2, some (.dat (.int w)), s4, some (.dat (.tuple (nD ws))), some (.dat (.list (RD (allRows ws.length)))), s7, s8, s9, s10, s11, s12, s13, s14, s15, s16, s17, s18, s19, s20, s21] B = some (.nx [s0, some .box, s2, some (.dat (.int w)), s4, some (.dat (.tuple (nD ws))), some (.dat (.list (RD (allRows ws.length)))), s7, s8, s9, s10, s11, s12, s13, t14, t15, t16, t17, s18, s19, s20, s21] B) := by
  have hdl := filled_le_len (w : Int) ws
  have hne := (filled_lay hw).ne
  obtain ⟨sx, B2, e, h⟩ := forGo_inv (tg := gN 14) (body := law_L1) (rngD ((filled (w : Int) ws).length : Int) (ws.length + 1 - (filled (w : Int) ws).length)) (fun i sl B' => B' = B ∧ ∃ t14 t15 t16 t17, sl = [s0, some .box, s2, some (.dat (.int w)), s4, some (.dat (.tuple (nD ws))), some (.dat (.list (RD (allRows ws.length)))), s7, s8, s9, s10, s11, s12, s13, t14, t15, t16, t17, s18, s19, s20, s21]) (fun i x sl B' hx hp => by
    obtain ⟨hi, rfl⟩ := rngD_get hx
    obtain ⟨rfl, t14, t15, t16, t17, rfl⟩ := hp
    rcases Nat.eq_zero_or_pos ws.length with z | z
    · have hws : ws = [] := List.length_eq_zero_iff.mp z
      subst hws
      have hi0 : i = 0 := by simp at hi; omega
      subst hi0
      obtain ⟨u15, u16, u17, e⟩ := body_L1z (s0 := s0) (s2 := s2) (s4 := s4) (s7 := s7) (s8 := s8) (s9 := s9) (s10 := s10) (s11 := s11) (s12 := s12) (s13 := s13) (s15 := t15) (s16 := t16) (s17 := t17) (s18 := s18) (s19 := s19) (s20 := s20) (s21 := s21) w B'
      exact ⟨_, _, B', rfl, .inl e, rfl, _, _, _, _, rfl⟩
    · have hd := hne z
      rw [show (((filled (w : Int) ws).length : Int) + (i : Int)) = (((filled (w : Int) ws).length + i : Nat) : Int) by omega]
      obtain ⟨u15, u16, u17, e⟩ := body_L1 (s0 := s0) (s2 := s2) (s4 := s4) (s7 := s7) (s8 := s8) (s9 := s9) (s10 := s10) (s11 := s11) (s12 := s12) (s13 := s13) (s15 := t15) (s16 := t16) (s17 := t17) (s18 := s18) (s19 := s19) (s20 := s20) (s21 := s21) w ws hn z hw ((filled (w : Int) ws).length + i) (by omega) (by omega) (by omega) B'
      exact ⟨_, _, B', rfl, .inl e, rfl, _, _, _, _, rfl⟩)
    0 [s0, some .box, s2, some (.dat (.int w)), s4, some (.dat (.tuple (nD ws))), some (.dat (.list (RD (allRows ws.length)))), s7, s8, s9, s10, s11, s12, s13, s14, s15, s16, s17, s18, s19, s20, s21] B (Nat.zero_le _) ⟨rfl, s14, s15, s16, s17, rfl⟩
  obtain ⟨rfl, t14, t15, t16, t17, rfl⟩ := h
  exact ⟨t14, t15, t16, t17, e⟩
def OKs (sl : Sl) : Prop := ∃ s0 s2 s3 s4 s5 s6 s7 s8 s9 s10 s11 s12 s13 s14 s15 s16 s17 s18 s19 s20 s21 : Option Sv, sl = [s0, some .box, s2, s3, s4, s5, s6, s7, s8, s9, s10, s11, s12, s13, s14, s15, s16, s17, s18, s19, s20, s21]
theorem mk22 {s0 s2 s3 s4 s5 s6 s7 s8 s9 s10 s11 s12 s13 s14 s15 s16 s17 s18 s19 s20 s21 : Option Sv} : OKs [s0, some .box, s2, s3, s4, s5, s6, s7, s8, s9, s10, s11, s12, s13, s14, s15, s16, s17, s18, s19, s20, s21] := by exact ⟨_, _, _, _, _, _, _, _, _, _, _, _, _, _, _, _, _, _, _, _, _, rfl⟩
def vals9 (n : Nat) (d : List Nat) : List PyData := [.tuple (nD d), .tuple (nD d).reverse, .tuple (cutD (nD d) (some 1) none), .tuple (rgD 0 n), .tuple [.int 0], .tuple [.int 0, .int (n : Int)], .tuple [], .none, .tuple [.bool true]]
theorem jk_vals9 (n : Nat) (d : List Nat) (hn : n ≤ 7) (hd : d.length ≤ 7) : ∀ x ∈ vals9 n d, jk x = true := fun x hx => by
  simp only [vals9, List.mem_cons, List.not_mem_nil, or_false] at hx
  rcases hx with rfl | rfl | rfl | rfl | rfl | rfl | rfl | rfl | rfl
  · exact jk_mk (by rw [nD_len]; omega) (jk_nD d)
  · exact jk_mk (by rw [List.length_reverse, nD_len]; omega) fun y hy => jk_nD d y (List.mem_reverse.mp hy)
  · exact jk_mk (Nat.le_trans (cut_len _ _ _) (by rw [nD_len]; omega)) fun y hy => jk_nD d y (cut_mem hy)
  · refine jk_mk ?_ fun y hy => ?_
    · unfold rgD
      rw [rngD_length]
      omega
    · unfold rgD at hy
      obtain ⟨i, _, rfl⟩ := rngD_mem hy
      rfl
  · decide
  · exact jk_mk (by simp) fun y hy => by
      simp only [List.mem_cons, List.not_mem_nil, or_false] at hy
      rcases hy with rfl | rfl <;> rfl
  · decide
  · rfl
  · decide
theorem body_L4 {s0 s2 s3 s4 s5 s6 s7 s8 s9 s10 s11 s12 s13 s14 s15 s16 s17 s18 s19 s20 s21 : Option Sv} (B : Bx) (hb : TI B) : ∃ sl B', OKs sl ∧ TI B' ∧ law_L4 [s0, some .box, s2, s3, s4, s5, s6, s7, s8, s9, s10, s11, s12, s13, s14, s15, s16, s17, s18, s19, s20, s21] B = some (.nx sl B') := by
  obtain ⟨r0, B1, b1, hr0, hr0', d0⟩ := sp_take 10 B hb (by decide) (by decide)
  obtain ⟨w, hwe⟩ : ∃ w : Nat, 1 + r0 = (w : Int) := ⟨(1 + r0).toNat, by omega⟩
  obtain ⟨ws, B2, hn, hw, b2, d1⟩ := cm_small (s0 := s0) (s2 := s2) (s4 := s4) (s5 := s5) (s6 := s6) (s7 := s7) (s8 := s8) (s9 := s9) (s10 := s10) (s11 := s11) (s12 := s12) (s13 := s13) (s14 := s14) (s15 := s15) (s16 := s16) (s17 := s17) (s18 := s18) (s19 := s19) (s20 := s20) (s21 := s21) w (by omega) (by omega) B1 b1
  have hdl := filled_le_len (w : Int) ws
  obtain ⟨t4, e3⟩ := loop_L3 (s0 := s0) (s2 := s2) (s3 := some (.dat (.int w))) (s4 := s4) (s5 := some (.dat (.tuple (nD ws)))) (s7 := s7) (s8 := s8) (s9 := s9) (s10 := s10) (s11 := s11) (s12 := s12) (s13 := s13) (s14 := s14) (s15 := s15) (s16 := s16) (s17 := s17) (s18 := s18) (s19 := s19) (s20 := s20) (s21 := s21) ws.length hn B2
  have hlay := filled_lay hw
  have hdm := all_mem hlay
  have hg := cm_filter (s0 := s0) (s2 := s2) (s3 := some (.dat (.int w))) (s4 := t4) (s5 := some (.dat (.tuple (nD ws)))) (s6 := some (.dat (.list (RD (allRows ws.length))))) (s7 := s7) (s8 := s8) (s9 := s9) (s10 := s10) (s11 := s11) (s12 := s12) (s13 := s13) (s14 := s14) (s15 := s15) (s16 := s16) (s17 := s17) (s18 := s18) (s19 := s19) (s21 := s21) (dTst pyLe (dFn (d_law_widest) (dConsA (dVarV 5) (dConsA (dVarV 20) dNilA))) (dVarO 3)) (fun r => decide (mx (traysW ws r) ≤ w)) B2 (allRows ws.length) fun r hr => by
    have e := sp_widest ws r (row_ok hr) (by have := row_len hr hn; omega) B2
    have e' : decide (((mx (traysW ws r) : Nat) : Int) ≤ (w : Int)) = decide (mx (traysW ws r) ≤ w) := decide_eq_decide.mpr (by omega)
    simp only [k_dC, k_var_ap, k_varO_ap, k_varV_ap, k_op, k_op1, k_op2, k_fin, k_tst, k_t1, k_t2, k_tF, k_opB, k_B, k_neg, k_neg1, k_andT, k_orT, k_notT, k_and1, k_and0, k_or1, k_or0, k_not1, k_tru, k_tru1, k_andV, k_orV, k_notV, k_andV1, k_andV0, k_orV1, k_orV0, k_notV1, k_if, k_if1, k_if0, k_ifD, k_nil, k_cons, k_cons1, k_cons2, k_nilA, k_consA, k_consA1, k_consA2, k_V, k_V1, k_F, k_F1, k_tup, k_tup1, k_lst, k_lst1, k_cl, k_cl1, k_clL, k_clL1, k_finL, k_isi, k_isi1, k_fn, k_fn1, k_dat, k_fnV, k_fnV1, k_seqI, k_seqI1, k_seqI2, k_rng1, k_rng1', k_rng2, k_rng2a, k_rng2b, k_enum, k_enum1, k_zip, k_zip1, k_zip2, k_P, k_P1, k_noP, k_sl, k_sl1, k_sl2, k_sl3, k_cmp, k_cmp1, k_yes, k_seq, k_seq1, k_seq2, k_seq3, k_seq4, k_next, k_brk, k_cont, k_retN, k_asg, k_asg1, k_asgV, k_asgV1, k_asgV2, k_asgV3, k_asgO, k_asgO1, k_asgG, k_asgG1, k_nx, k_gN, k_gT, k_gC, k_g1, k_g0, k_par, k_par1, k_par2, k_drop, k_drop1, k_ret, k_ret1, k_retV, k_retV1, k_ifS, k_ifS1, k_ifS0, k_ifSD, k_fz_ap, k_app, k_app1, k_for, k_for1, k_aug1, k_fun1, k_fun2, k_idx, k_idx1, k_idx2, k_lenC, k_lenC1, k_popC, k_bset, k_getC, k_getC1, k_getC2, k_bg1, k_bg2, k_bs1, k_bs2, k_bc, k_pop1, k_chn, k_chn1, k_chn2, k_chn3t, k_chn3f, k_chn4, k_tfo, k_chnB, k_chB, k_rev, k_rev1, k_revL, k_revL1, k_rg1, k_rg1', k_tupRg, k_tupRg1, k_lstRg, k_lstRg1, k_srt, k_srt1, k_parLE, k_parLE1, k_parLE2, k_augA, k_augA1, sz0, sz1, sz2, sz3, sz4, sz5, sz6, k_fun, eqI, neI, addI, subI, ltI, leI, gtI, geI, truD, isTy, tyName, pyLen, pyAbs, pyMin2, pyMax2, pyInt, pyTuple, pyList, pyIs, pyIsNot, isNon, nown, wipeD, Option.map_some, List.getElem?_cons_zero, List.getElem?_cons_succ, List.set_cons_zero, List.set_cons_succ, List.map_cons, List.map_nil, List.cons_append, List.nil_append, List.length_cons, List.length_nil, List.all_cons, List.all_nil, List.replicate_succ, List.replicate_zero, Bool.and_true, Bool.true_and, Bool.and_self, Bool.not_true, Bool.not_false, and_self, and_true, true_and, if_true, if_false, reduceIte, reduceCtorEq, decide_true, decide_false, Bool.false_eq_true, Nat.reduceAdd, Nat.reduceEqDiff, tD, e, e']
  generalize hG : (allRows ws.length).filter (fun r => decide (mx (traysW ws r) ≤ w)) = G at hg
  have hGm : ∀ r, r ∈ G ↔ r ∈ allRows ws.length ∧ mx (traysW ws r) ≤ w := fun r => by rw [← hG, List.mem_filter, decide_eq_true_eq]
  have hdG : filled (w : Int) ws ∈ G := (hGm _).mpr ⟨hdm, by
    rcases Nat.eq_zero_or_pos ws.length with z | z
    · have hws : ws = [] := List.length_eq_zero_iff.mp z
      subst hws
      exact Nat.zero_le _
    · exact mx_lay z (row_ok hdm) hlay⟩
  have hmin := min1_nD (G.map List.length) (filled (w : Int) ws).length (List.mem_map.mpr ⟨_, hdG, rfl⟩) fun x hx => by
    obtain ⟨r, hr, rfl⟩ := List.mem_map.mp hx
    obtain ⟨hr1, hr2⟩ := (hGm r).mp hr
    rcases Nat.eq_zero_or_pos ws.length with z | z
    · omega
    · exact stops_le_lay (filled_stops hw) (lay_mx (row_ok hr1) z ((all_of hr1).2.2 z).1 ((all_of hr1).2.2 z).2 w hr2)
  have hlens := cm_mapN (s0 := s0) (s2 := s2) (s3 := some (.dat (.int w))) (s4 := t4) (s5 := some (.dat (.tuple (nD ws)))) (s6 := some (.dat (.list (RD (allRows ws.length))))) (s7 := some (.dat (.list (RD G)))) (s8 := some (.dat (.tuple (nD (filled (w : Int) ws))))) (s9 := some (.dat (.tuple (nD (filled (w : Int) ws))))) (s10 := some (.dat (.tuple (nD (filled (w : Int) ws))))) (s11 := s11) (s12 := s12) (s13 := s13) (s14 := s14) (s15 := s15) (s16 := s16) (s17 := s17) (s18 := s18) (s19 := s19) (s21 := s21) (dCl pyLen (dCons (dVarO 20) dNil)) List.length B2 G fun r hr => by
    simp only [k_dC, k_var_ap, k_varO_ap, k_varV_ap, k_op, k_op1, k_op2, k_fin, k_tst, k_t1, k_t2, k_tF, k_opB, k_B, k_neg, k_neg1, k_andT, k_orT, k_notT, k_and1, k_and0, k_or1, k_or0, k_not1, k_tru, k_tru1, k_andV, k_orV, k_notV, k_andV1, k_andV0, k_orV1, k_orV0, k_notV1, k_if, k_if1, k_if0, k_ifD, k_nil, k_cons, k_cons1, k_cons2, k_nilA, k_consA, k_consA1, k_consA2, k_V, k_V1, k_F, k_F1, k_tup, k_tup1, k_lst, k_lst1, k_cl, k_cl1, k_clL, k_clL1, k_finL, k_isi, k_isi1, k_fn, k_fn1, k_dat, k_fnV, k_fnV1, k_seqI, k_seqI1, k_seqI2, k_rng1, k_rng1', k_rng2, k_rng2a, k_rng2b, k_enum, k_enum1, k_zip, k_zip1, k_zip2, k_P, k_P1, k_noP, k_sl, k_sl1, k_sl2, k_sl3, k_cmp, k_cmp1, k_yes, k_seq, k_seq1, k_seq2, k_seq3, k_seq4, k_next, k_brk, k_cont, k_retN, k_asg, k_asg1, k_asgV, k_asgV1, k_asgV2, k_asgV3, k_asgO, k_asgO1, k_asgG, k_asgG1, k_nx, k_gN, k_gT, k_gC, k_g1, k_g0, k_par, k_par1, k_par2, k_drop, k_drop1, k_ret, k_ret1, k_retV, k_retV1, k_ifS, k_ifS1, k_ifS0, k_ifSD, k_fz_ap, k_app, k_app1, k_for, k_for1, k_aug1, k_fun1, k_fun2, k_idx, k_idx1, k_idx2, k_lenC, k_lenC1, k_popC, k_bset, k_getC, k_getC1, k_getC2, k_bg1, k_bg2, k_bs1, k_bs2, k_bc, k_pop1, k_chn, k_chn1, k_chn2, k_chn3t, k_chn3f, k_chn4, k_tfo, k_chnB, k_chB, k_rev, k_rev1, k_revL, k_revL1, k_rg1, k_rg1', k_tupRg, k_tupRg1, k_lstRg, k_lstRg1, k_srt, k_srt1, k_parLE, k_parLE1, k_parLE2, k_augA, k_augA1, sz0, sz1, sz2, sz3, sz4, sz5, sz6, k_fun, eqI, neI, addI, subI, ltI, leI, gtI, geI, truD, isTy, tyName, pyLen, pyAbs, pyMin2, pyMax2, pyInt, pyTuple, pyList, pyIs, pyIsNot, isNon, nown, wipeD, Option.map_some, List.getElem?_cons_zero, List.getElem?_cons_succ, List.set_cons_zero, List.set_cons_succ, List.map_cons, List.map_nil, List.cons_append, List.nil_append, List.length_cons, List.length_nil, List.all_cons, List.all_nil, List.replicate_succ, List.replicate_zero, Bool.and_true, Bool.true_and, Bool.and_self, Bool.not_true, Bool.not_false, and_self, and_true, true_and, if_true, if_false, reduceIte, reduceCtorEq, decide_true, decide_false, Bool.false_eq_true, Nat.reduceAdd, Nat.reduceEqDiff, tD, nD_len]
  have f1 := sp_fewest (w : Int) ws (by omega) B2
  have f2 := sp_law_filled (w : Int) ws (by omega) B2
  have f3 := sp_law_are_stops (w : Int) ws (.tuple (nD (filled (w : Int) ws))) (jk_mk (by rw [nD_len]; omega) (jk_nD _)) (by omega) B2
  rw [filled_judS hw] at f3
  have f4 := sameT (d := .tuple [.tuple (nD (filled (w : Int) ws)), .tuple (nD (filled (w : Int) ws))]) B2 (by
    show max (dep (.tuple (nD (filled (w : Int) ws)))) (max (dep (.tuple (nD (filled (w : Int) ws)))) 0) + 1 < 8
    rw [dep_nD]; decide) (by
    show (decide (2 < 1000) && (pln (.tuple (nD (filled (w : Int) ws))) && (pln (.tuple (nD (filled (w : Int) ws))) && true))) = true
    rw [pln_nD _ (by omega)]; rfl)
  obtain ⟨ys, B3, g1, g2, g3, b3⟩ := cmpGo_stT (tg := gN 21) (e := dFn (d_law_spoilt 20) (dConsA (dVarV 1) (dConsA (dVarV 10) dNilA))) (sw := [s0, some .box, s2, some (.dat (.int w)), t4, some (.dat (.tuple (nD ws))), some (.dat (.list (RD (allRows ws.length)))), some (.dat (.list (RD G))), some (.dat (.tuple (nD (filled (w : Int) ws)))), some (.dat (.tuple (nD (filled (w : Int) ws)))), some (.dat (.tuple (nD (filled (w : Int) ws)))), s11, s12, s13, s14, s15, s16, s17, s18, s19, s20, none]) (fun y => jk y = true) (rngD 0 5) B2 b2 fun x hx B0 b0 => by
    obtain ⟨d, B', q1, q2, q3⟩ := sp_spoilt 18 (filled (w : Int) ws) (by omega) B0 b0
    refine ⟨_, d, B', rfl, ?_, q1, q2⟩
    simp only [k_dC, k_var_ap, k_varO_ap, k_varV_ap, k_op, k_op1, k_op2, k_fin, k_tst, k_t1, k_t2, k_tF, k_opB, k_B, k_neg, k_neg1, k_andT, k_orT, k_notT, k_and1, k_and0, k_or1, k_or0, k_not1, k_tru, k_tru1, k_andV, k_orV, k_notV, k_andV1, k_andV0, k_orV1, k_orV0, k_notV1, k_if, k_if1, k_if0, k_ifD, k_nil, k_cons, k_cons1, k_cons2, k_nilA, k_consA, k_consA1, k_consA2, k_V, k_V1, k_F, k_F1, k_tup, k_tup1, k_lst, k_lst1, k_cl, k_cl1, k_clL, k_clL1, k_finL, k_isi, k_isi1, k_fn, k_fn1, k_dat, k_fnV, k_fnV1, k_seqI, k_seqI1, k_seqI2, k_rng1, k_rng1', k_rng2, k_rng2a, k_rng2b, k_enum, k_enum1, k_zip, k_zip1, k_zip2, k_P, k_P1, k_noP, k_sl, k_sl1, k_sl2, k_sl3, k_cmp, k_cmp1, k_yes, k_seq, k_seq1, k_seq2, k_seq3, k_seq4, k_next, k_brk, k_cont, k_retN, k_asg, k_asg1, k_asgV, k_asgV1, k_asgV2, k_asgV3, k_asgO, k_asgO1, k_asgG, k_asgG1, k_nx, k_gN, k_gT, k_gC, k_g1, k_g0, k_par, k_par1, k_par2, k_drop, k_drop1, k_ret, k_ret1, k_retV, k_retV1, k_ifS, k_ifS1, k_ifS0, k_ifSD, k_fz_ap, k_app, k_app1, k_for, k_for1, k_aug1, k_fun1, k_fun2, k_idx, k_idx1, k_idx2, k_lenC, k_lenC1, k_popC, k_bset, k_getC, k_getC1, k_getC2, k_bg1, k_bg2, k_bs1, k_bs2, k_bc, k_pop1, k_chn, k_chn1, k_chn2, k_chn3t, k_chn3f, k_chn4, k_tfo, k_chnB, k_chB, k_rev, k_rev1, k_revL, k_revL1, k_rg1, k_rg1', k_tupRg, k_tupRg1, k_lstRg, k_lstRg1, k_srt, k_srt1, k_parLE, k_parLE1, k_parLE2, k_augA, k_augA1, sz0, sz1, sz2, sz3, sz4, sz5, sz6, k_fun, eqI, neI, addI, subI, ltI, leI, gtI, geI, truD, isTy, tyName, pyLen, pyAbs, pyMin2, pyMax2, pyInt, pyTuple, pyList, pyIs, pyIsNot, isNon, nown, wipeD, Option.map_some, List.getElem?_cons_zero, List.getElem?_cons_succ, List.set_cons_zero, List.set_cons_succ, List.map_cons, List.map_nil, List.cons_append, List.nil_append, List.length_cons, List.length_nil, List.all_cons, List.all_nil, List.replicate_succ, List.replicate_zero, Bool.and_true, Bool.true_and, Bool.and_self, Bool.not_true, Bool.not_false, and_self, and_true, true_and, if_true, if_false, reduceIte, reduceCtorEq, decide_true, decide_false, Bool.false_eq_true, Nat.reduceAdd, Nat.reduceEqDiff, q3]
  rw [rngD_length] at g2
  have hv9 : ∀ x ∈ vals9 ws.length (filled (w : Int) ws) ++ ys, jk x = true := jk_app (jk_vals9 _ _ hn (by omega)) g3
  obtain ⟨u11, u12, u13, e2⟩ := loop_L2 (s0 := s0) (s2 := s2) (s4 := t4) (s6 := some (.dat (.list (RD (allRows ws.length))))) (s7 := some (.dat (.list (RD G)))) (s8 := some (.dat (.tuple (nD (filled (w : Int) ws))))) (s9 := some (.dat (.tuple (nD (filled (w : Int) ws))))) (s14 := s14) (s15 := s15) (s16 := s16) (s17 := s17) (s18 := s18) (s19 := s19) (s20 := s20) (s21 := s21) w ws hw (by omega) B3 _ hv9 s11 s12 s13
  obtain ⟨u14, u15, u16, u17, e1⟩ := loop_L1 (s0 := s0) (s2 := s2) (s4 := t4) (s7 := some (.dat (.list (RD G)))) (s8 := some (.dat (.tuple (nD (filled (w : Int) ws))))) (s9 := some (.dat (.tuple (nD (filled (w : Int) ws))))) (s10 := some (.dat (.tuple (nD (filled (w : Int) ws))))) (s11 := u11) (s12 := u12) (s13 := u13) (s14 := s14) (s15 := s15) (s16 := s16) (s17 := s17) (s18 := s18) (s19 := s19) (s20 := s20) (s21 := s21) w ws hn hw B3
  refine ⟨_, B3, mk22 (s0 := s0) (s2 := s2) (s3 := some (.dat (.int w))) (s4 := t4) (s5 := some (.dat (.tuple (nD ws)))) (s6 := some (.dat (.list (RD (allRows ws.length))))) (s7 := some (.dat (.list (RD G)))) (s8 := some (.dat (.tuple (nD (filled (w : Int) ws))))) (s9 := some (.dat (.tuple (nD (filled (w : Int) ws))))) (s10 := some (.dat (.tuple (nD (filled (w : Int) ws))))) (s11 := u11) (s12 := u12) (s13 := u13) (s14 := u14) (s15 := u15) (s16 := u16) (s17 := u17) (s18 := s18) (s19 := s19) (s20 := s20) (s21 := s21), b3, ?_⟩
  have z1 : ((RD (allRows ws.length)).length < sizeLine) = True := eq_true (by rw [RD_len]; have := all_len _ hn; exact szlt (by omega))
  have z2 : ((RD G).length < sizeLine) = True := eq_true (by rw [RD_len, ← hG]; have := all_len _ hn; have := List.length_filter_le (fun r => decide (mx (traysW ws r) ≤ w)) (allRows ws.length); exact szlt (by omega))
  have q1 := rng_ok2 (i := 1) (j := (ws.length : Int)) (by decide) (by decide) (by omega) (by omega)
  have q2 : ((ws.length : Int) - 1).toNat = ws.length - 1 := by omega
  have q3 := rng_ok2 (i := ((filled (w : Int) ws).length : Int)) (j := (ws.length : Int) + 1) (by omega) (by omega) (by omega) (by omega)
  have q4 : ((ws.length : Int) + 1 - ((filled (w : Int) ws).length : Int)).toNat = ws.length + 1 - (filled (w : Int) ws).length := by omega
  have q5 : rgOk 0 (ws.length : Int) = true := decide_eq_true (by omega)
  have q6 := szn (n := 9) (by decide)
  have q7 := rng_okI (i := 5) (by decide) (by decide)
  have q8 : ((5 : Int)).toNat = 5 := rfl
  have q9 : ((5 : Nat) < sizeLine) = True := eq_true (szlt (by decide))
  have hv : pyAdd (.list (vals9 ws.length (filled (w : Int) ws))) (.list ys) = some (.list (vals9 ws.length (filled (w : Int) ws) ++ ys)) := addL (by rw [g2]; show 9 + 5 ≤ sizeLine; exact sz (by decide))
  have hV : (dF (dLst (dCons (dVar 10) (dCons (dRev (dVarO 10)) (dCons (dSl pySl (dVarO 10) (dPart (dC (.int 1))) dNoP) (dCons (dTupRg (dRg1 (dCl pyLen (dCons (dVarO 5) dNil)))) (dCons (dTup (dCons (dC (.int 0)) dNil)) (dCons (dTup (dCons (dC (.int 0)) (dCons (dCl pyLen (dCons (dVarO 5) dNil)) dNil))) (dCons (dTup dNil) (dCons (dC .none) (dCons (dTup (dCons (dC (.bool true)) dNil)) dNil))))))))))) [s0, some .box, s2, some (.dat (.int w)), t4, some (.dat (.tuple (nD ws))), some (.dat (.list (RD (allRows ws.length)))), some (.dat (.list (RD G))), some (.dat (.tuple (nD (filled (w : Int) ws)))), some (.dat (.tuple (nD (filled (w : Int) ws)))), some (.dat (.tuple (nD (filled (w : Int) ws)))), s11, s12, s13, s14, s15, s16, s17, s18, s19, s20, s21] B2 = some (.list (vals9 ws.length (filled (w : Int) ws)), B2) := by
    simp only [k_dC, k_var_ap, k_varO_ap, k_varV_ap, k_op, k_op1, k_op2, k_fin, k_tst, k_t1, k_t2, k_tF, k_opB, k_B, k_neg, k_neg1, k_andT, k_orT, k_notT, k_and1, k_and0, k_or1, k_or0, k_not1, k_tru, k_tru1, k_andV, k_orV, k_notV, k_andV1, k_andV0, k_orV1, k_orV0, k_notV1, k_if, k_if1, k_if0, k_ifD, k_nil, k_cons, k_cons1, k_cons2, k_nilA, k_consA, k_consA1, k_consA2, k_V, k_V1, k_F, k_F1, k_tup, k_tup1, k_lst, k_lst1, k_cl, k_cl1, k_clL, k_clL1, k_finL, k_isi, k_isi1, k_fn, k_fn1, k_dat, k_fnV, k_fnV1, k_seqI, k_seqI1, k_seqI2, k_rng1, k_rng1', k_rng2, k_rng2a, k_rng2b, k_enum, k_enum1, k_zip, k_zip1, k_zip2, k_P, k_P1, k_noP, k_sl, k_sl1, k_sl2, k_sl3, k_cmp, k_cmp1, k_yes, k_seq, k_seq1, k_seq2, k_seq3, k_seq4, k_next, k_brk, k_cont, k_retN, k_asg, k_asg1, k_asgV, k_asgV1, k_asgV2, k_asgV3, k_asgO, k_asgO1, k_asgG, k_asgG1, k_nx, k_gN, k_gT, k_gC, k_g1, k_g0, k_par, k_par1, k_par2, k_drop, k_drop1, k_ret, k_ret1, k_retV, k_retV1, k_ifS, k_ifS1, k_ifS0, k_ifSD, k_fz_ap, k_app, k_app1, k_for, k_for1, k_aug1, k_fun1, k_fun2, k_idx, k_idx1, k_idx2, k_lenC, k_lenC1, k_popC, k_bset, k_getC, k_getC1, k_getC2, k_bg1, k_bg2, k_bs1, k_bs2, k_bc, k_pop1, k_chn, k_chn1, k_chn2, k_chn3t, k_chn3f, k_chn4, k_tfo, k_chnB, k_chB, k_rev, k_rev1, k_revL, k_revL1, k_rg1, k_rg1', k_tupRg, k_tupRg1, k_lstRg, k_lstRg1, k_srt, k_srt1, k_parLE, k_parLE1, k_parLE2, k_augA, k_augA1, sz0, sz1, sz2, sz3, sz4, sz5, sz6, k_fun, eqI, neI, addI, subI, ltI, leI, gtI, geI, truD, isTy, tyName, pyLen, pyAbs, pyMin2, pyMax2, pyInt, pyTuple, pyList, pyIs, pyIsNot, isNon, nown, wipeD, Option.map_some, List.getElem?_cons_zero, List.getElem?_cons_succ, List.set_cons_zero, List.set_cons_succ, List.map_cons, List.map_nil, List.cons_append, List.nil_append, List.length_cons, List.length_nil, List.all_cons, List.all_nil, List.replicate_succ, List.replicate_zero, Bool.and_true, Bool.true_and, Bool.and_self, Bool.not_true, Bool.not_false, and_self, and_true, true_and, if_true, if_false, reduceIte, reduceCtorEq, decide_true, decide_false, Bool.false_eq_true, Nat.reduceAdd, Nat.reduceEqDiff, slT, nD_len, q5, q6, vals9]
  rw [law_L4]
  generalize dCmp (dRng1 (dFn (d_law_take) _)) _ _ _ _ = C1 at d1 ⊢
  generalize dF (dLst (dCons (dVar 10) _)) = V9 at hV ⊢
  rcases Nat.eq_zero_or_pos ws.length with z | z
  · have hemp : ws.isEmpty = true := by rw [List.length_eq_zero_iff.mp z]; rfl
    rw [if_pos z] at e3
    have hR0 : [PyData.tuple []] = RD [[]] := rfl
    have hRl : ((RD [[]]).length ≤ sizeLine) = True := eq_true (sz (by decide))
    simp only [k_dC, k_var_ap, k_varO_ap, k_varV_ap, k_op, k_op1, k_op2, k_fin, k_tst, k_t1, k_t2, k_tF, k_opB, k_B, k_neg, k_neg1, k_andT, k_orT, k_notT, k_and1, k_and0, k_or1, k_or0, k_not1, k_tru, k_tru1, k_andV, k_orV, k_notV, k_andV1, k_andV0, k_orV1, k_orV0, k_notV1, k_if, k_if1, k_if0, k_ifD, k_nil, k_cons, k_cons1, k_cons2, k_nilA, k_consA, k_consA1, k_consA2, k_V, k_V1, k_F, k_F1, k_tup, k_tup1, k_lst, k_lst1, k_cl, k_cl1, k_clL, k_clL1, k_finL, k_isi, k_isi1, k_fn, k_fn1, k_dat, k_fnV, k_fnV1, k_seqI, k_seqI1, k_seqI2, k_rng1, k_rng1', k_rng2, k_rng2a, k_rng2b, k_enum, k_enum1, k_zip, k_zip1, k_zip2, k_P, k_P1, k_noP, k_sl, k_sl1, k_sl2, k_sl3, k_cmp, k_cmp1, k_yes, k_seq, k_seq1, k_seq2, k_seq3, k_seq4, k_next, k_brk, k_cont, k_retN, k_asg, k_asg1, k_asgV, k_asgV1, k_asgV2, k_asgV3, k_asgO, k_asgO1, k_asgG, k_asgG1, k_nx, k_gN, k_gT, k_gC, k_g1, k_g0, k_par, k_par1, k_par2, k_drop, k_drop1, k_ret, k_ret1, k_retV, k_retV1, k_ifS, k_ifS1, k_ifS0, k_ifSD, k_fz_ap, k_app, k_app1, k_for, k_for1, k_aug1, k_fun1, k_fun2, k_idx, k_idx1, k_idx2, k_lenC, k_lenC1, k_popC, k_bset, k_getC, k_getC1, k_getC2, k_bg1, k_bg2, k_bs1, k_bs2, k_bc, k_pop1, k_chn, k_chn1, k_chn2, k_chn3t, k_chn3f, k_chn4, k_tfo, k_chnB, k_chB, k_rev, k_rev1, k_revL, k_revL1, k_rg1, k_rg1', k_tupRg, k_tupRg1, k_lstRg, k_lstRg1, k_srt, k_srt1, k_parLE, k_parLE1, k_parLE2, k_augA, k_augA1, sz0, sz1, sz2, sz3, sz4, sz5, sz6, k_fun, eqI, neI, addI, subI, ltI, leI, gtI, geI, truD, isTy, tyName, pyLen, pyAbs, pyMin2, pyMax2, pyInt, pyTuple, pyList, pyIs, pyIsNot, isNon, nown, wipeD, Option.map_some, List.getElem?_cons_zero, List.getElem?_cons_succ, List.set_cons_zero, List.set_cons_succ, List.map_cons, List.map_nil, List.cons_append, List.nil_append, List.length_cons, List.length_nil, List.all_cons, List.all_nil, List.replicate_succ, List.replicate_zero, Bool.and_true, Bool.true_and, Bool.and_self, Bool.not_true, Bool.not_false, and_self, and_true, true_and, if_true, if_false, reduceIte, reduceCtorEq, decide_true, decide_false, Bool.false_eq_true, Nat.reduceAdd, Nat.reduceEqDiff, d0, hwe, d1, eqTE, hemp, sz0, hR0, hRl, nD_len, q1, q2, e3, z1, hg, f1, f2, f4, z2, hlens, hmin, ne_eq, not_true_eq_false, f3, hV, q7, q8, q9, rngD_length, g1, hv, e2, q3, q4, e1]
  · have hemp : ws.isEmpty = false := by
      cases ws with
      | nil => simp at z
      | cons _ _ => rfl
    rw [if_neg (by omega)] at e3
    have hR0 : [PyData.tuple [.int 0]] = RD [[0]] := rfl
    have hRl : ((RD [[0]]).length ≤ sizeLine) = True := eq_true (sz (by decide))
    simp only [k_dC, k_var_ap, k_varO_ap, k_varV_ap, k_op, k_op1, k_op2, k_fin, k_tst, k_t1, k_t2, k_tF, k_opB, k_B, k_neg, k_neg1, k_andT, k_orT, k_notT, k_and1, k_and0, k_or1, k_or0, k_not1, k_tru, k_tru1, k_andV, k_orV, k_notV, k_andV1, k_andV0, k_orV1, k_orV0, k_notV1, k_if, k_if1, k_if0, k_ifD, k_nil, k_cons, k_cons1, k_cons2, k_nilA, k_consA, k_consA1, k_consA2, k_V, k_V1, k_F, k_F1, k_tup, k_tup1, k_lst, k_lst1, k_cl, k_cl1, k_clL, k_clL1, k_finL, k_isi, k_isi1, k_fn, k_fn1, k_dat, k_fnV, k_fnV1, k_seqI, k_seqI1, k_seqI2, k_rng1, k_rng1', k_rng2, k_rng2a, k_rng2b, k_enum, k_enum1, k_zip, k_zip1, k_zip2, k_P, k_P1, k_noP, k_sl, k_sl1, k_sl2, k_sl3, k_cmp, k_cmp1, k_yes, k_seq, k_seq1, k_seq2, k_seq3, k_seq4, k_next, k_brk, k_cont, k_retN, k_asg, k_asg1, k_asgV, k_asgV1, k_asgV2, k_asgV3, k_asgO, k_asgO1, k_asgG, k_asgG1, k_nx, k_gN, k_gT, k_gC, k_g1, k_g0, k_par, k_par1, k_par2, k_drop, k_drop1, k_ret, k_ret1, k_retV, k_retV1, k_ifS, k_ifS1, k_ifS0, k_ifSD, k_fz_ap, k_app, k_app1, k_for, k_for1, k_aug1, k_fun1, k_fun2, k_idx, k_idx1, k_idx2, k_lenC, k_lenC1, k_popC, k_bset, k_getC, k_getC1, k_getC2, k_bg1, k_bg2, k_bs1, k_bs2, k_bc, k_pop1, k_chn, k_chn1, k_chn2, k_chn3t, k_chn3f, k_chn4, k_tfo, k_chnB, k_chB, k_rev, k_rev1, k_revL, k_revL1, k_rg1, k_rg1', k_tupRg, k_tupRg1, k_lstRg, k_lstRg1, k_srt, k_srt1, k_parLE, k_parLE1, k_parLE2, k_augA, k_augA1, sz0, sz1, sz2, sz3, sz4, sz5, sz6, k_fun, eqI, neI, addI, subI, ltI, leI, gtI, geI, truD, isTy, tyName, pyLen, pyAbs, pyMin2, pyMax2, pyInt, pyTuple, pyList, pyIs, pyIsNot, isNon, nown, wipeD, Option.map_some, List.getElem?_cons_zero, List.getElem?_cons_succ, List.set_cons_zero, List.set_cons_succ, List.map_cons, List.map_nil, List.cons_append, List.nil_append, List.length_cons, List.length_nil, List.all_cons, List.all_nil, List.replicate_succ, List.replicate_zero, Bool.and_true, Bool.true_and, Bool.and_self, Bool.not_true, Bool.not_false, and_self, and_true, true_and, if_true, if_false, reduceIte, reduceCtorEq, decide_true, decide_false, Bool.false_eq_true, Nat.reduceAdd, Nat.reduceEqDiff, d0, hwe, d1, eqTE, hemp, sz0, hR0, hRl, nD_len, q1, q2, e3, z1, hg, f1, f2, f4, z2, hlens, hmin, ne_eq, not_true_eq_false, f3, hV, q7, q8, q9, rngD_length, g1, hv, e2, q3, q4, e1]
end Dn

-- dk2
set_option Elab.async false
set_option linter.all false
set_option autoImplicit false
set_option maxRecDepth 100000
set_option maxHeartbeats 4000000
set_option exponentiation.threshold 100000
namespace Dn
open PySem Tr
theorem tail_law {s0 s2 s3 s4 s5 s6 s7 s8 s9 s10 s11 s12 s13 s14 s15 s16 s17 s18 s19 s20 s21 : Option Sv} (B : Bx) (hb : TI B) : ∃ B', (dSeq (dAsg 3 (dOp pyAdd (dC (.int 500)) (dFn (d_law_take) (dConsA (dVarV 1) (dConsA (dV (dC (.int 501))) dNilA)))))
  (dSeq (dAsg 5 (dCl pyTuple (dCons (dF (dCmp (dRng1 (dOp pyAdd (dC (.int 1)) (dFn (d_law_take) (dConsA (dVarV 1) (dConsA (dV (dC (.int 60))) dNilA))))) (gN 4) dYes (dOp pyAdd (dC (.int 1)) (dFn (d_law_take) (dConsA (dVarV 1) (dConsA (dV (dOp pyIx (dF (dLst (dCons (dVar 3) (dCons (dC (.int 60)) dNil)))) (dFn (d_law_take) (dConsA (dVarV 1) (dConsA (dV (dC (.int 2))) dNilA))))) dNilA)))) [4])) dNil))) (dSeq (dAsgG (gT (gCons' (gN 8) (gCons' (gN 9) gNil'))) (dFn (d_fewest_trays) (dConsA (dVarV 3) (dConsA (dVarV 5) dNilA)))) (dSeq (dIfS (dOrT (dNotT (dTru (dFn (d_law_is_laying) (dConsA (dVarV 3) (dConsA (dVarV 5) (dConsA (dVarV 8) dNilA)))))) (dOrT (dNotT (dTru (dFn (d_law_are_stops) (dConsA (dVarV 3) (dConsA (dVarV 5) (dConsA (dVarV 9) dNilA)))))) (dTst pyNe (dCl pyLen (dCons (dVarO 8) dNil)) (dCl pyLen (dCons (dVarO 9) dNil))))) (dRet (dC (.bool false))) dNext) (dSeq (dAsg 14 (dOp pyAdd (dCl pyLen (dCons (dVarO 8) dNil)) (dFn (d_law_take) (dConsA (dVarV 1) (dConsA (dV (dOp pyAdd (dOp pySub (dCl pyLen (dCons (dVarO 5) dNil)) (dCl pyLen (dCons (dVarO 8) dNil))) (dC (.int 1)))) dNilA))))) (dSeq (dAsg 18 (dFn (d_even_trays) (dConsA (dVarV 3) (dConsA (dVarV 5) (dConsA (dVarV 14) dNilA))))) (dSeq (dAsg 19 (dFn (d_law_widest) (dConsA (dVarV 5) (dConsA (dVarV 18) dNilA)))) (dSeq (dIfS (dOrT (dNotT (dTru (dFn (d_law_is_laying) (dConsA (dVarV 3) (dConsA (dVarV 5) (dConsA (dVarV 18) dNilA)))))) (dOrT (dTst pyNe (dCl pyLen (dCons (dVarO 18) dNil)) (dVarO 14)) (dTst pyGt (dCl pyLen (dCons (dFn (d_law_filled) (dConsA (dVarV 19) (dConsA (dVarV 5) dNilA))) dNil)) (dVarO 14)))) (dRet (dC (.bool false))) dNext) (dRet (dOrV (dOpB pyEq (dVarO 19) (dCl pyMax1 (dCons (dVarO 5) dNil))) (dOpB pyGt (dCl pyLen (dCons (dFn (d_law_filled) (dConsA (dV (dOp pySub (dVarO 19) (dC (.int 1)))) (dConsA (dVarV 5) dNilA))) dNil)) (dVarO 14)))))))))))) [s0, some .box, s2, s3, s4, s5, s6, s7, s8, s9, s10, s11, s12, s13, s14, s15, s16, s17, s18, s19, s20, s21] B = some (.rt (.dat (.bool true)) B') := by
  obtain ⟨r0, B1, b1, hr0, hr0', d0⟩ := sp_take 501 B hb (by decide) (by decide)
  obtain ⟨w, hwe⟩ : ∃ w : Nat, 500 + r0 = (w : Int) := ⟨(500 + r0).toNat, by omega⟩
  obtain ⟨ws, B2, hn1, hn, hw, b2, d1⟩ := cm_big (s0 := s0) (s2 := s2) (s4 := s4) (s5 := s5) (s6 := s6) (s7 := s7) (s8 := s8) (s9 := s9) (s10 := s10) (s11 := s11) (s12 := s12) (s13 := s13) (s14 := s14) (s15 := s15) (s16 := s16) (s17 := s17) (s18 := s18) (s19 := s19) (s20 := s20) (s21 := s21) w (by omega) (by omega) B1 b1
  have hdl := filled_le_len (w : Int) ws
  have hlay := filled_lay hw
  have hd1 := hlay.ne hn1
  have hne : ws ≠ [] := List.length_pos_iff.mp hn1
  obtain ⟨q, B3, b3, hq0, hq1, d2⟩ := sp_take ((ws.length : Int) - ((filled (w : Int) ws).length : Int) + 1) B2 b2 (by omega) (by omega)
  obtain ⟨m, hm⟩ : ∃ m : Nat, ((filled (w : Int) ws).length : Int) + q = (m : Int) := ⟨(((filled (w : Int) ws).length : Int) + q).toNat, by omega⟩
  obtain ⟨v, R, a1, a2, a3, a4, a5, a6⟩ := sp_even (w : Int) ws m w (by omega) hne (by omega) (by omega) hw (by omega) B3
  have hv : ∀ x ∈ ws, x ≤ v := (mx_le ws v).mp a1
  have hLR := ev_lay hv a4 a5
  have hR0 : 0 < R.length := hLR.ne hn1
  have hRok : RowOk ws R := ⟨(asc_iff R).mpr hLR.up, fun x hx => by
    obtain ⟨k, hk, rfl⟩ := List.getElem_of_mem hx
    have := hLR.lt k hk
    rw [gd_el hk] at this
    exact this⟩
  have hvw : v ≤ w := by
    rcases Nat.lt_or_ge w v with z | z
    · have := a3 w ((mx_le ws w).mpr hw) z
      omega
    · exact z
  have hRv : mx (traysW ws R) = v := by
    refine Nat.le_antisymm (mx_lay hn1 hRok hLR) ?_
    rcases Nat.lt_or_ge (mx (traysW ws R)) v with z | z
    · have hl := lay_mx hRok hn1 hR0 (hLR.z hR0) (mx (traysW ws R)) (Nat.le_refl _)
      have hit := lay_items hl
      have := a3 _ ((mx_le ws _).mpr hit) z
      have := stops_le_lay (filled_stops hit) hl
      omega
    · exact z
  have hjd : jk (.tuple (nD (filled (w : Int) ws))) = true := jk_mk (by rw [nD_len]; omega) (jk_nD _)
  have hjR : jk (.tuple (nD R)) = true := jk_mk (by rw [nD_len]; omega) (jk_nD _)
  have f1 := sp_fewest (w : Int) ws (by omega) B2
  have f2 := sp_law_is_laying (w : Int) ws _ hjd (by omega) B2
  rw [filled_judL hw] at f2
  have f3 := sp_law_are_stops (w : Int) ws _ hjd (by omega) B2
  rw [filled_judS hw] at f3
  have f4 := sp_widest ws R hRok (by omega) B3
  rw [hRv] at f4
  have f5 := sp_law_is_laying (w : Int) ws _ hjR (by omega) B3
  have hjl : judL (w : Int) ws (.tuple (nD R)) = true := by
    unfold judL
    rw [rowOf_nD hRok.1 hRok.2]
    exact (lay_iff hRok).mpr (lay_mx hRok hn1 hR0 (hLR.z hR0) w (by omega))
  rw [hjl] at f5
  have f6 := sp_law_filled (v : Int) ws (by omega) B3
  have f7 := sp_law_filled ((v : Int) - 1) ws (by omega) B3
  have hq2 : ((m : Int) < ((filled (v : Int) ws).length : Int)) = False := eq_false (by omega)
  have hmx : pyMax1 [.tuple (nD ws)] = some (.int (mx ws : Nat)) := by
    cases ws with
    | nil => exact absurd rfl hne
    | cons x r => exact (max1_nD x r).2
  refine ⟨B3, ?_⟩
  generalize dCmp (dRng1 (dOp pyAdd (dC (.int 1)) (dFn (d_law_take) _))) _ _ _ _ = C1 at d1 ⊢
  have hR5 : (R.length : Int) = (m : Int) := by omega
  by_cases hvm : v = mx ws
  · have z1 : ((v : Int) = ((mx ws : Nat) : Int)) = True := eq_true (by omega)
    simp only [k_dC, k_var_ap, k_varO_ap, k_varV_ap, k_op, k_op1, k_op2, k_fin, k_tst, k_t1, k_t2, k_tF, k_opB, k_B, k_neg, k_neg1, k_andT, k_orT, k_notT, k_and1, k_and0, k_or1, k_or0, k_not1, k_tru, k_tru1, k_andV, k_orV, k_notV, k_andV1, k_andV0, k_orV1, k_orV0, k_notV1, k_if, k_if1, k_if0, k_ifD, k_nil, k_cons, k_cons1, k_cons2, k_nilA, k_consA, k_consA1, k_consA2, k_V, k_V1, k_F, k_F1, k_tup, k_tup1, k_lst, k_lst1, k_cl, k_cl1, k_clL, k_clL1, k_finL, k_isi, k_isi1, k_fn, k_fn1, k_dat, k_fnV, k_fnV1, k_seqI, k_seqI1, k_seqI2, k_rng1, k_rng1', k_rng2, k_rng2a, k_rng2b, k_enum, k_enum1, k_zip, k_zip1, k_zip2, k_P, k_P1, k_noP, k_sl, k_sl1, k_sl2, k_sl3, k_cmp, k_cmp1, k_yes, k_seq, k_seq1, k_seq2, k_seq3, k_seq4, k_next, k_brk, k_cont, k_retN, k_asg, k_asg1, k_asgV, k_asgV1, k_asgV2, k_asgV3, k_asgO, k_asgO1, k_asgG, k_asgG1, k_nx, k_gN, k_gT, k_gC, k_g1, k_g0, k_par, k_par1, k_par2, k_drop, k_drop1, k_ret, k_ret1, k_retV, k_retV1, k_ifS, k_ifS1, k_ifS0, k_ifSD, k_fz_ap, k_app, k_app1, k_for, k_for1, k_aug1, k_fun1, k_fun2, k_idx, k_idx1, k_idx2, k_lenC, k_lenC1, k_popC, k_bset, k_getC, k_getC1, k_getC2, k_bg1, k_bg2, k_bs1, k_bs2, k_bc, k_pop1, k_chn, k_chn1, k_chn2, k_chn3t, k_chn3f, k_chn4, k_tfo, k_chnB, k_chB, k_rev, k_rev1, k_revL, k_revL1, k_rg1, k_rg1', k_tupRg, k_tupRg1, k_lstRg, k_lstRg1, k_srt, k_srt1, k_parLE, k_parLE1, k_parLE2, k_augA, k_augA1, sz0, sz1, sz2, sz3, sz4, sz5, sz6, k_fun, eqI, neI, addI, subI, ltI, leI, gtI, geI, truD, isTy, tyName, pyLen, pyAbs, pyMin2, pyMax2, pyInt, pyTuple, pyList, pyIs, pyIsNot, isNon, nown, wipeD, Option.map_some, List.getElem?_cons_zero, List.getElem?_cons_succ, List.set_cons_zero, List.set_cons_succ, List.map_cons, List.map_nil, List.cons_append, List.nil_append, List.length_cons, List.length_nil, List.all_cons, List.all_nil, List.replicate_succ, List.replicate_zero, Bool.and_true, Bool.true_and, Bool.and_self, Bool.not_true, Bool.not_false, and_self, and_true, true_and, if_true, if_false, reduceIte, reduceCtorEq, decide_true, decide_false, Bool.false_eq_true, Nat.reduceAdd, Nat.reduceEqDiff, d0, hwe, d1, f1, f2, f3, nD_len, ne_eq, not_true_eq_false, d2, hm, a6, f4, f5, hR5, f6, hq2, hmx, z1]
  · have z1 : ((v : Int) = ((mx ws : Nat) : Int)) = False := eq_false (by omega)
    have hcast : (v : Int) - 1 = ((v - 1 : Nat) : Int) := by omega
    have h3 := a3 (v - 1) (by omega) (by omega)
    have z2 : ((m : Int) < ((filled ((v : Int) - 1) ws).length : Int)) = True := eq_true (by rw [hcast]; omega)
    simp only [k_dC, k_var_ap, k_varO_ap, k_varV_ap, k_op, k_op1, k_op2, k_fin, k_tst, k_t1, k_t2, k_tF, k_opB, k_B, k_neg, k_neg1, k_andT, k_orT, k_notT, k_and1, k_and0, k_or1, k_or0, k_not1, k_tru, k_tru1, k_andV, k_orV, k_notV, k_andV1, k_andV0, k_orV1, k_orV0, k_notV1, k_if, k_if1, k_if0, k_ifD, k_nil, k_cons, k_cons1, k_cons2, k_nilA, k_consA, k_consA1, k_consA2, k_V, k_V1, k_F, k_F1, k_tup, k_tup1, k_lst, k_lst1, k_cl, k_cl1, k_clL, k_clL1, k_finL, k_isi, k_isi1, k_fn, k_fn1, k_dat, k_fnV, k_fnV1, k_seqI, k_seqI1, k_seqI2, k_rng1, k_rng1', k_rng2, k_rng2a, k_rng2b, k_enum, k_enum1, k_zip, k_zip1, k_zip2, k_P, k_P1, k_noP, k_sl, k_sl1, k_sl2, k_sl3, k_cmp, k_cmp1, k_yes, k_seq, k_seq1, k_seq2, k_seq3, k_seq4, k_next, k_brk, k_cont, k_retN, k_asg, k_asg1, k_asgV, k_asgV1, k_asgV2, k_asgV3, k_asgO, k_asgO1, k_asgG, k_asgG1, k_nx, k_gN, k_gT, k_gC, k_g1, k_g0, k_par, k_par1, k_par2, k_drop, k_drop1, k_ret, k_ret1, k_retV, k_retV1, k_ifS, k_ifS1, k_ifS0, k_ifSD, k_fz_ap, k_app, k_app1, k_for, k_for1, k_aug1, k_fun1, k_fun2, k_idx, k_idx1, k_idx2, k_lenC, k_lenC1, k_popC, k_bset, k_getC, k_getC1, k_getC2, k_bg1, k_bg2, k_bs1, k_bs2, k_bc, k_pop1, k_chn, k_chn1, k_chn2, k_chn3t, k_chn3f, k_chn4, k_tfo, k_chnB, k_chB, k_rev, k_rev1, k_revL, k_revL1, k_rg1, k_rg1', k_tupRg, k_tupRg1, k_lstRg, k_lstRg1, k_srt, k_srt1, k_parLE, k_parLE1, k_parLE2, k_augA, k_augA1, sz0, sz1, sz2, sz3, sz4, sz5, sz6, k_fun, eqI, neI, addI, subI, ltI, leI, gtI, geI, truD, isTy, tyName, pyLen, pyAbs, pyMin2, pyMax2, pyInt, pyTuple, pyList, pyIs, pyIsNot, isNon, nown, wipeD, Option.map_some, List.getElem?_cons_zero, List.getElem?_cons_succ, List.set_cons_zero, List.set_cons_succ, List.map_cons, List.map_nil, List.cons_append, List.nil_append, List.length_cons, List.length_nil, List.all_cons, List.all_nil, List.replicate_succ, List.replicate_zero, Bool.and_true, Bool.true_and, Bool.and_self, Bool.not_true, Bool.not_false, and_self, and_true, true_and, if_true, if_false, reduceIte, reduceCtorEq, decide_true, decide_false, Bool.false_eq_true, Nat.reduceAdd, Nat.reduceEqDiff, d0, hwe, d1, f1, f2, f3, nD_len, ne_eq, not_true_eq_false, d2, hm, a6, f4, f5, hR5, f6, hq2, hmx, z1, f7, z2]
theorem law_den (ns : List Int) (hn : ns.length ≤ 63) : ∃ B', d_law [.scr ns] ⟨[], [], false⟩ = some (.dat (.bool true), B') := by
  obtain ⟨B0, b0, e0⟩ := sp_tape ns
  obtain ⟨sx, B2, e, h⟩ := forGo_inv (tg := gN 2) (body := law_L4) (rngD 0 3) (fun i sl B' => OKs sl ∧ TI B') (fun i x sl B' hx hp2 => by
    obtain ⟨⟨s0, s2, s3, s4, s5, s6, s7, s8, s9, s10, s11, s12, s13, s14, s15, s16, s17, s18, s19, s20, s21, rfl⟩, hb⟩ := hp2
    obtain ⟨sl, B3, ok, b3, h⟩ := body_L4 (s0 := s0) (s2 := some (.dat x)) (s3 := s3) (s4 := s4) (s5 := s5) (s6 := s6) (s7 := s7) (s8 := s8) (s9 := s9) (s10 := s10) (s11 := s11) (s12 := s12) (s13 := s13) (s14 := s14) (s15 := s15) (s16 := s16) (s17 := s17) (s18 := s18) (s19 := s19) (s20 := s20) (s21 := s21) B' hb
    exact ⟨_, sl, B3, rfl, .inl h, ok, b3⟩)
    0 [some (.scr ns), some .box, none, none, none, none, none, none, none, none, none, none, none, none, none, none, none, none, none, none, none, none] B0 (Nat.zero_le _) ⟨mk22, b0⟩
  rw [List.drop_zero] at e
  obtain ⟨⟨s0, s2, s3, s4, s5, s6, s7, s8, s9, s10, s11, s12, s13, s14, s15, s16, s17, s18, s19, s20, s21, rfl⟩, hb⟩ := h
  obtain ⟨B3, hT⟩ := tail_law (s0 := s0) (s2 := s2) (s3 := s3) (s4 := s4) (s5 := s5) (s6 := s6) (s7 := s7) (s8 := s8) (s9 := s9) (s10 := s10) (s11 := s11) (s12 := s12) (s13 := s13) (s14 := s14) (s15 := s15) (s16 := s16) (s17 := s17) (s18 := s18) (s19 := s19) (s20 := s20) (s21 := s21) B2 hb
  refine ⟨B3, ?_⟩
  have r1 := rng_okI (i := 3) (by decide) (by decide)
  have r2 : ((3 : Int)).toNat = 3 := rfl
  rw [d_law, b_law]
  generalize dSeq (dAsg 3 _) _ = T at hT ⊢
  simp only [k_dC, k_var_ap, k_varO_ap, k_varV_ap, k_op, k_op1, k_op2, k_fin, k_tst, k_t1, k_t2, k_tF, k_opB, k_B, k_neg, k_neg1, k_andT, k_orT, k_notT, k_and1, k_and0, k_or1, k_or0, k_not1, k_tru, k_tru1, k_andV, k_orV, k_notV, k_andV1, k_andV0, k_orV1, k_orV0, k_notV1, k_if, k_if1, k_if0, k_ifD, k_nil, k_cons, k_cons1, k_cons2, k_nilA, k_consA, k_consA1, k_consA2, k_V, k_V1, k_F, k_F1, k_tup, k_tup1, k_lst, k_lst1, k_cl, k_cl1, k_clL, k_clL1, k_finL, k_isi, k_isi1, k_fn, k_fn1, k_dat, k_fnV, k_fnV1, k_seqI, k_seqI1, k_seqI2, k_rng1, k_rng1', k_rng2, k_rng2a, k_rng2b, k_enum, k_enum1, k_zip, k_zip1, k_zip2, k_P, k_P1, k_noP, k_sl, k_sl1, k_sl2, k_sl3, k_cmp, k_cmp1, k_yes, k_seq, k_seq1, k_seq2, k_seq3, k_seq4, k_next, k_brk, k_cont, k_retN, k_asg, k_asg1, k_asgV, k_asgV1, k_asgV2, k_asgV3, k_asgO, k_asgO1, k_asgG, k_asgG1, k_nx, k_gN, k_gT, k_gC, k_g1, k_g0, k_par, k_par1, k_par2, k_drop, k_drop1, k_ret, k_ret1, k_retV, k_retV1, k_ifS, k_ifS1, k_ifS0, k_ifSD, k_fz_ap, k_app, k_app1, k_for, k_for1, k_aug1, k_fun1, k_fun2, k_idx, k_idx1, k_idx2, k_lenC, k_lenC1, k_popC, k_bset, k_getC, k_getC1, k_getC2, k_at0, k_at1, k_at2, k_bg1, k_bg2, k_bs1, k_bs2, k_bc, k_pop1, k_chn, k_chn1, k_chn2, k_chn3t, k_chn3f, k_chn4, k_tfo, k_chnB, k_chB, k_rev, k_rev1, k_revL, k_revL1, k_rg1, k_rg1', k_tupRg, k_tupRg1, k_lstRg, k_lstRg1, k_srt, k_srt1, k_parLE, k_parLE1, k_parLE2, k_augA, k_augA1, sz0, sz1, sz2, sz3, sz4, sz5, sz6, k_fun, eqI, neI, addI, subI, ltI, leI, gtI, geI, truD, isTy, tyName, pyLen, pyAbs, pyMin2, pyMax2, pyInt, pyTuple, pyList, pyIx, pyIs, pyIsNot, isNon, nown, wipeD, Option.map_some, List.getElem?_cons_zero, List.getElem?_cons_succ, List.set_cons_zero, List.set_cons_succ, List.map_cons, List.map_nil, List.cons_append, List.nil_append, List.length_cons, List.length_nil, List.all_cons, List.all_nil, List.replicate_succ, List.replicate_zero, Bool.and_true, Bool.true_and, Bool.and_self, Bool.not_true, Bool.not_false, and_self, and_true, true_and, if_true, if_false, reduceIte, reduceCtorEq, decide_true, decide_false, Bool.false_eq_true, Nat.reduceAdd, Nat.reduceEqDiff, e0, r1, r2, e, hT]
end Dn

set_option maxHeartbeats 0
namespace Dn
open PySem PySem.Spec PyProof.Rows L2
theorem all_mk {l : PySem.W.OpenLaw} {w : World} {K : Frg} {h : Heap} {mg : Str → Option Value} {fa : Addr} (X : K.In h) (G : h.Ns mainGlobals mg) (hfa : mg "law" = some (.ref fa))
    {f1 : Addr} {od1 an1 : Option Addr} {sl1 : Array (Option Value)} {oc1 kV1 dc1 pm1 cd1 ct1 : Value}
    {f2 : Addr} {od2 an2 : Option Addr} {sl2 : Array (Option Value)} {oc2 kV2 dc2 pm2 cd2 ct2 : Value}
    {f3 : Addr} {od3 an3 : Option Addr} {sl3 : Array (Option Value)} {oc3 kV3 dc3 pm3 cd3 ct3 : Value}
    {f4 : Addr} {od4 an4 : Option Addr} {sl4 : Array (Option Value)} {oc4 kV4 dc4 pm4 cd4 ct4 : Value}
    {f5 : Addr} {od5 an5 : Option Addr} {sl5 : Array (Option Value)} {oc5 kV5 dc5 pm5 cd5 ct5 : Value}
    {f6 : Addr} {od6 an6 : Option Addr} {sl6 : Array (Option Value)} {oc6 kV6 dc6 pm6 cd6 ct6 : Value}
    {f7 : Addr} {od7 an7 : Option Addr} {sl7 : Array (Option Value)} {oc7 kV7 dc7 pm7 cd7 ct7 : Value}
    {f8 : Addr} {od8 an8 : Option Addr} {sl8 : Array (Option Value)} {oc8 kV8 dc8 pm8 cd8 ct8 : Value}
    {f9 : Addr} {od9 an9 : Option Addr} {sl9 : Array (Option Value)} {oc9 kV9 dc9 pm9 cd9 ct9 : Value}
    {f10 : Addr} {od10 an10 : Option Addr} {sl10 : Array (Option Value)} {oc10 kV10 dc10 pm10 cd10 ct10 : Value}
    {f11 : Addr} {od11 an11 : Option Addr} {sl11 : Array (Option Value)} {oc11 kV11 dc11 pm11 cd11 ct11 : Value}
    {f12 : Addr} {od12 an12 : Option Addr} {sl12 : Array (Option Value)} {oc12 kV12 dc12 pm12 cd12 ct12 : Value}
    {f13 : Addr} {od13 an13 : Option Addr} {sl13 : Array (Option Value)} {oc13 kV13 dc13 pm13 cd13 ct13 : Value}
    {f14 : Addr} {od14 an14 : Option Addr} {sl14 : Array (Option Value)} {oc14 kV14 dc14 pm14 cd14 ct14 : Value}
    {f15 : Addr} {od15 an15 : Option Addr} {sl15 : Array (Option Value)} {oc15 kV15 dc15 pm15 cd15 ct15 : Value}
    {f16 : Addr} {od16 an16 : Option Addr} {sl16 : Array (Option Value)} {oc16 kV16 dc16 pm16 cd16 ct16 : Value}
    {f17 : Addr} {od17 an17 : Option Addr} {sl17 : Array (Option Value)} {oc17 kV17 dc17 pm17 cd17 ct17 : Value}
    {f18 : Addr} {od18 an18 : Option Addr} {sl18 : Array (Option Value)} {oc18 kV18 dc18 pm18 cd18 ct18 : Value}
    {f19 : Addr} {od19 an19 : Option Addr} {sl19 : Array (Option Value)} {oc19 kV19 dc19 pm19 cd19 ct19 : Value}
    {f20 : Addr} {od20 an20 : Option Addr} {sl20 : Array (Option Value)} {oc20 kV20 dc20 pm20 cd20 ct20 : Value}
    {f21 : Addr} {od21 an21 : Option Addr} {sl21 : Array (Option Value)} {oc21 kV21 dc21 pm21 cd21 ct21 : Value}
    {f22 : Addr} {od22 an22 : Option Addr} {sl22 : Array (Option Value)} {oc22 kV22 dc22 pm22 cd22 ct22 : Value}
    (a1 : PySem.W.nsIn K mainGlobals "_law_tape" = some (some (.ref f1))) (l1 : K.lookup f1 = some ⟨oc1, od1, .func (PySem.W.fnOf "_law_tape" "_law_tape" (defArgs s_law_tape) (defBody s_law_tape) (defScope s_law_tape) .none kV1 dc1 pm1 an1 cd1 ct1), sl1⟩) (c1 : PySem.W.codeIn K cd1 "_law_tape" = true) (k1 : PySem.W.keepIn K (.ref f1) = true)
    (a2 : PySem.W.nsIn K mainGlobals "filled_trays" = some (some (.ref f2))) (l2 : K.lookup f2 = some ⟨oc2, od2, .func (PySem.W.fnOf "filled_trays" "filled_trays" (defArgs s_filled_trays) (defBody s_filled_trays) (defScope s_filled_trays) .none kV2 dc2 pm2 an2 cd2 ct2), sl2⟩) (c2 : PySem.W.codeIn K cd2 "filled_trays" = true) (k2 : PySem.W.keepIn K (.ref f2) = true)
    (a3 : PySem.W.nsIn K mainGlobals "fewest_trays" = some (some (.ref f3))) (l3 : K.lookup f3 = some ⟨oc3, od3, .func (PySem.W.fnOf "fewest_trays" "fewest_trays" (defArgs s_fewest_trays) (defBody s_fewest_trays) (defScope s_fewest_trays) .none kV3 dc3 pm3 an3 cd3 ct3), sl3⟩) (c3 : PySem.W.codeIn K cd3 "fewest_trays" = true) (k3 : PySem.W.keepIn K (.ref f3) = true)
    (a4 : PySem.W.nsIn K mainGlobals "narrowest" = some (some (.ref f4))) (l4 : K.lookup f4 = some ⟨oc4, od4, .func (PySem.W.fnOf "narrowest" "narrowest" (defArgs s_narrowest) (defBody s_narrowest) (defScope s_narrowest) .none kV4 dc4 pm4 an4 cd4 ct4), sl4⟩) (c4 : PySem.W.codeIn K cd4 "narrowest" = true) (k4 : PySem.W.keepIn K (.ref f4) = true)
    (a5 : PySem.W.nsIn K mainGlobals "even_trays" = some (some (.ref f5))) (l5 : K.lookup f5 = some ⟨oc5, od5, .func (PySem.W.fnOf "even_trays" "even_trays" (defArgs s_even_trays) (defBody s_even_trays) (defScope s_even_trays) .none kV5 dc5 pm5 an5 cd5 ct5), sl5⟩) (c5 : PySem.W.codeIn K cd5 "even_trays" = true) (k5 : PySem.W.keepIn K (.ref f5) = true)
    (a6 : PySem.W.nsIn K mainGlobals "_law_widest" = some (some (.ref f6))) (l6 : K.lookup f6 = some ⟨oc6, od6, .func (PySem.W.fnOf "_law_widest" "_law_widest" (defArgs s_law_widest) (defBody s_law_widest) (defScope s_law_widest) .none kV6 dc6 pm6 an6 cd6 ct6), sl6⟩) (c6 : PySem.W.codeIn K cd6 "_law_widest" = true) (k6 : PySem.W.keepIn K (.ref f6) = true)
    (a7 : PySem.W.nsIn K mainGlobals "_law_filled" = some (some (.ref f7))) (l7 : K.lookup f7 = some ⟨oc7, od7, .func (PySem.W.fnOf "_law_filled" "_law_filled" (defArgs s_law_filled) (defBody s_law_filled) (defScope s_law_filled) .none kV7 dc7 pm7 an7 cd7 ct7), sl7⟩) (c7 : PySem.W.codeIn K cd7 "_law_filled" = true) (k7 : PySem.W.keepIn K (.ref f7) = true)
    (a8 : PySem.W.nsIn K mainGlobals "_law_mix" = some (some (.ref f8))) (l8 : K.lookup f8 = some ⟨oc8, od8, .func (PySem.W.fnOf "_law_mix" "_law_mix" (defArgs s_law_mix) (defBody s_law_mix) (defScope s_law_mix) .none kV8 dc8 pm8 an8 cd8 ct8), sl8⟩) (c8 : PySem.W.codeIn K cd8 "_law_mix" = true) (k8 : PySem.W.keepIn K (.ref f8) = true)
    (a9 : PySem.W.nsIn K mainGlobals "_law_take" = some (some (.ref f9))) (l9 : K.lookup f9 = some ⟨oc9, od9, .func (PySem.W.fnOf "_law_take" "_law_take" (defArgs s_law_take) (defBody s_law_take) (defScope s_law_take) .none kV9 dc9 pm9 an9 cd9 ct9), sl9⟩) (c9 : PySem.W.codeIn K cd9 "_law_take" = true) (k9 : PySem.W.keepIn K (.ref f9) = true)
    (a10 : PySem.W.nsIn K mainGlobals "_law_whole" = some (some (.ref f10))) (l10 : K.lookup f10 = some ⟨oc10, od10, .func (PySem.W.fnOf "_law_whole" "_law_whole" (defArgs s_law_whole) (defBody s_law_whole) (defScope s_law_whole) .none kV10 dc10 pm10 an10 cd10 ct10), sl10⟩) (c10 : PySem.W.codeIn K cd10 "_law_whole" = true) (k10 : PySem.W.keepIn K (.ref f10) = true)
    (a11 : PySem.W.nsIn K mainGlobals "_law_is_row" = some (some (.ref f11))) (l11 : K.lookup f11 = some ⟨oc11, od11, .func (PySem.W.fnOf "_law_is_row" "_law_is_row" (defArgs s_law_is_row) (defBody s_law_is_row) (defScope s_law_is_row) .none kV11 dc11 pm11 an11 cd11 ct11), sl11⟩) (c11 : PySem.W.codeIn K cd11 "_law_is_row" = true) (k11 : PySem.W.keepIn K (.ref f11) = true)
    (a12 : PySem.W.nsIn K mainGlobals "_law_is_laying" = some (some (.ref f12))) (l12 : K.lookup f12 = some ⟨oc12, od12, .func (PySem.W.fnOf "_law_is_laying" "_law_is_laying" (defArgs s_law_is_laying) (defBody s_law_is_laying) (defScope s_law_is_laying) .none kV12 dc12 pm12 an12 cd12 ct12), sl12⟩) (c12 : PySem.W.codeIn K cd12 "_law_is_laying" = true) (k12 : PySem.W.keepIn K (.ref f12) = true)
    (a13 : PySem.W.nsIn K mainGlobals "_law_are_stops" = some (some (.ref f13))) (l13 : K.lookup f13 = some ⟨oc13, od13, .func (PySem.W.fnOf "_law_are_stops" "_law_are_stops" (defArgs s_law_are_stops) (defBody s_law_are_stops) (defScope s_law_are_stops) .none kV13 dc13 pm13 an13 cd13 ct13), sl13⟩) (c13 : PySem.W.codeIn K cd13 "_law_are_stops" = true) (k13 : PySem.W.keepIn K (.ref f13) = true)
    (a14 : PySem.W.nsIn K mainGlobals "_law_same" = some (some (.ref f14))) (l14 : K.lookup f14 = some ⟨oc14, od14, .func (PySem.W.fnOf "_law_same" "_law_same" (defArgs s_law_same) (defBody s_law_same) (defScope s_law_same) .none kV14 dc14 pm14 an14 cd14 ct14), sl14⟩) (c14 : PySem.W.codeIn K cd14 "_law_same" = true) (k14 : PySem.W.keepIn K (.ref f14) = true)
    (a15 : PySem.W.nsIn K mainGlobals "_law_spoilt" = some (some (.ref f15))) (l15 : K.lookup f15 = some ⟨oc15, od15, .func (PySem.W.fnOf "_law_spoilt" "_law_spoilt" (defArgs s_law_spoilt) (defBody s_law_spoilt) (defScope s_law_spoilt) .none kV15 dc15 pm15 an15 cd15 ct15), sl15⟩) (c15 : PySem.W.codeIn K cd15 "_law_spoilt" = true) (k15 : PySem.W.keepIn K (.ref f15) = true)
    (a16 : PySem.W.nsIn K mainGlobals "is_ascending" = some (some (.ref f16))) (l16 : K.lookup f16 = some ⟨oc16, od16, .func (PySem.W.fnOf "is_ascending" "is_ascending" (defArgs s_is_ascending) (defBody s_is_ascending) (defScope s_is_ascending) .none kV16 dc16 pm16 an16 cd16 ct16), sl16⟩) (c16 : PySem.W.codeIn K cd16 "is_ascending" = true) (k16 : PySem.W.keepIn K (.ref f16) = true)
    (a17 : PySem.W.nsIn K mainGlobals "is_number" = some (some (.ref f17))) (l17 : K.lookup f17 = some ⟨oc17, od17, .func (PySem.W.fnOf "is_number" "is_number" (defArgs s_is_number) (defBody s_is_number) (defScope s_is_number) .none kV17 dc17 pm17 an17 cd17 ct17), sl17⟩) (c17 : PySem.W.codeIn K cd17 "is_number" = true) (k17 : PySem.W.keepIn K (.ref f17) = true)
    (a18 : PySem.W.nsIn K mainGlobals "is_index_row" = some (some (.ref f18))) (l18 : K.lookup f18 = some ⟨oc18, od18, .func (PySem.W.fnOf "is_index_row" "is_index_row" (defArgs s_is_index_row) (defBody s_is_index_row) (defScope s_is_index_row) .none kV18 dc18 pm18 an18 cd18 ct18), sl18⟩) (c18 : PySem.W.codeIn K cd18 "is_index_row" = true) (k18 : PySem.W.keepIn K (.ref f18) = true)
    (a19 : PySem.W.nsIn K mainGlobals "rows_by" = some (some (.ref f19))) (l19 : K.lookup f19 = some ⟨oc19, od19, .func (PySem.W.fnOf "rows_by" "rows_by" (defArgs s_rows_by) (defBody s_rows_by) (defScope s_rows_by) .none kV19 dc19 pm19 an19 cd19 ct19), sl19⟩) (c19 : PySem.W.codeIn K cd19 "rows_by" = true) (k19 : PySem.W.keepIn K (.ref f19) = true)
    (a20 : PySem.W.nsIn K mainGlobals "is_laying" = some (some (.ref f20))) (l20 : K.lookup f20 = some ⟨oc20, od20, .func (PySem.W.fnOf "is_laying" "is_laying" (defArgs s_is_laying) (defBody s_is_laying) (defScope s_is_laying) .none kV20 dc20 pm20 an20 cd20 ct20), sl20⟩) (c20 : PySem.W.codeIn K cd20 "is_laying" = true) (k20 : PySem.W.keepIn K (.ref f20) = true)
    (a21 : PySem.W.nsIn K mainGlobals "are_stops" = some (some (.ref f21))) (l21 : K.lookup f21 = some ⟨oc21, od21, .func (PySem.W.fnOf "are_stops" "are_stops" (defArgs s_are_stops) (defBody s_are_stops) (defScope s_are_stops) .none kV21 dc21 pm21 an21 cd21 ct21), sl21⟩) (c21 : PySem.W.codeIn K cd21 "are_stops" = true) (k21 : PySem.W.keepIn K (.ref f21) = true)
    (a22 : PySem.W.nsIn K mainGlobals "law" = some (some (.ref f22))) (l22 : K.lookup f22 = some ⟨oc22, od22, .func (PySem.W.fnOf "law" "law" (defArgs s_law) (defBody s_law) (defScope s_law) .none kV22 dc22 pm22 an22 cd22 ct22), sl22⟩) (c22 : PySem.W.codeIn K cd22 "law" = true) (k22 : PySem.W.keepIn K (.ref f22) = true)
    (z0 : PySem.W.nsIn K mainGlobals "all" = some none)
    (z1 : PySem.W.nsIn K mainGlobals "bool" = some none)
    (z2 : PySem.W.nsIn K mainGlobals "enumerate" = some none)
    (z3 : PySem.W.nsIn K mainGlobals "int" = some none)
    (z4 : PySem.W.nsIn K mainGlobals "isinstance" = some none)
    (z5 : PySem.W.nsIn K mainGlobals "len" = some none)
    (z6 : PySem.W.nsIn K mainGlobals "list" = some none)
    (z7 : PySem.W.nsIn K mainGlobals "max" = some none)
    (z8 : PySem.W.nsIn K mainGlobals "min" = some none)
    (z9 : PySem.W.nsIn K mainGlobals "range" = some none)
    (z10 : PySem.W.nsIn K mainGlobals "set" = some none)
    (z11 : PySem.W.nsIn K mainGlobals "sorted" = some none)
    (z12 : PySem.W.nsIn K mainGlobals "str" = some none)
    (z13 : PySem.W.nsIn K mainGlobals "sum" = some none)
    (z14 : PySem.W.nsIn K mainGlobals "tuple" = some none)
    (z15 : PySem.W.nsIn K mainGlobals "zip" = some none) :
    ∃ fd : FuncData, (∀ (s : Shared) (v : Value), BindsTo s fd ⟨[v], []⟩ [("script", v)]) ∧ ∀ base : Heap, K.In base → base.Ns mainGlobals mg → FnOk l.prog w K mg base CX0 23 fa fd ["script"] (spD K d_law) := by
  have e := hfa.symm.trans (PySem.W.mg_of X G a22)
  cases e
  have T : Tx mg := ⟨PySem.W.mg_none_of X G z0, PySem.W.mg_none_of X G z1, PySem.W.mg_none_of X G z2, PySem.W.mg_none_of X G z3, PySem.W.mg_none_of X G z4, PySem.W.mg_none_of X G z5, PySem.W.mg_none_of X G z6, PySem.W.mg_none_of X G z7, PySem.W.mg_none_of X G z8, PySem.W.mg_none_of X G z9, PySem.W.mg_none_of X G z10, PySem.W.mg_none_of X G z11, PySem.W.mg_none_of X G z12, PySem.W.mg_none_of X G z13, PySem.W.mg_none_of X G z14, PySem.W.mg_none_of X G z15⟩
  have F1 := fun_mk (st := s_law_tape) l1 c1 k1
  have b1 := F1.binds (ps := ["script"]) fun _ _ _ _ _ _ us hl => match us, hl with | [_], _ => rfl
  have F2 := fun_mk (st := s_filled_trays) l2 c2 k2
  have b2 := F2.binds (ps := ["w", "widths"]) fun _ _ _ _ _ _ us hl => match us, hl with | [_, _], _ => rfl
  have F3 := fun_mk (st := s_fewest_trays) l3 c3 k3
  have b3 := F3.binds (ps := ["w", "widths"]) fun _ _ _ _ _ _ us hl => match us, hl with | [_, _], _ => rfl
  have F4 := fun_mk (st := s_narrowest) l4 c4 k4
  have b4 := F4.binds (ps := ["widths", "many"]) fun _ _ _ _ _ _ us hl => match us, hl with | [_, _], _ => rfl
  have F5 := fun_mk (st := s_even_trays) l5 c5 k5
  have b5 := F5.binds (ps := ["w", "widths", "many"]) fun _ _ _ _ _ _ us hl => match us, hl with | [_, _, _], _ => rfl
  have F6 := fun_mk (st := s_law_widest) l6 c6 k6
  have b6 := F6.binds (ps := ["widths", "laying"]) fun _ _ _ _ _ _ us hl => match us, hl with | [_, _], _ => rfl
  have F7 := fun_mk (st := s_law_filled) l7 c7 k7
  have b7 := F7.binds (ps := ["w", "widths"]) fun _ _ _ _ _ _ us hl => match us, hl with | [_, _], _ => rfl
  have F8 := fun_mk (st := s_law_mix) l8 c8 k8
  have b8 := F8.binds (ps := ["number"]) fun _ _ _ _ _ _ us hl => match us, hl with | [_], _ => rfl
  have F9 := fun_mk (st := s_law_take) l9 c9 k9
  have b9 := F9.binds (ps := ["tape", "many"]) fun _ _ _ _ _ _ us hl => match us, hl with | [_, _], _ => rfl
  have F10 := fun_mk (st := s_law_whole) l10 c10 k10
  have b10 := F10.binds (ps := ["value", "low", "high"]) fun _ _ _ _ _ _ us hl => match us, hl with | [_, _, _], _ => rfl
  have F11 := fun_mk (st := s_law_is_row) l11 c11 k11
  have b11 := F11.binds (ps := ["many", "value"]) fun _ _ _ _ _ _ us hl => match us, hl with | [_, _], _ => rfl
  have F12 := fun_mk (st := s_law_is_laying) l12 c12 k12
  have b12 := F12.binds (ps := ["w", "widths", "value"]) fun _ _ _ _ _ _ us hl => match us, hl with | [_, _, _], _ => rfl
  have F13 := fun_mk (st := s_law_are_stops) l13 c13 k13
  have b13 := F13.binds (ps := ["w", "widths", "value"]) fun _ _ _ _ _ _ us hl => match us, hl with | [_, _, _], _ => rfl
  have F14 := fun_mk (st := s_law_same) l14 c14 k14
  have b14 := F14.binds (ps := ["a", "b"]) fun _ _ _ _ _ _ us hl => match us, hl with | [_, _], _ => rfl
  have F15 := fun_mk (st := s_law_spoilt) l15 c15 k15
  have b15 := F15.binds (ps := ["tape", "value"]) fun _ _ _ _ _ _ us hl => match us, hl with | [_, _], _ => rfl
  have F16 := fun_mk (st := s_is_ascending) l16 c16 k16
  have b16 := F16.binds (ps := ["rows"]) fun _ _ _ _ _ _ us hl => match us, hl with | [_], _ => rfl
  have F17 := fun_mk (st := s_is_number) l17 c17 k17
  have b17 := F17.binds (ps := ["value", "least", "most"]) fun _ _ _ _ _ _ us hl => match us, hl with | [_, _, _], _ => rfl
  have F18 := fun_mk (st := s_is_index_row) l18 c18 k18
  have b18 := F18.binds (ps := ["many", "value"]) fun _ _ _ _ _ _ us hl => match us, hl with | [_, _], _ => rfl
  have F19 := fun_mk (st := s_rows_by) l19 c19 k19
  have b19 := F19.binds (ps := ["widths", "laying"]) fun _ _ _ _ _ _ us hl => match us, hl with | [_, _], _ => rfl
  have F20 := fun_mk (st := s_is_laying) l20 c20 k20
  have b20 := F20.binds (ps := ["w", "widths", "value"]) fun _ _ _ _ _ _ us hl => match us, hl with | [_, _, _], _ => rfl
  have F21 := fun_mk (st := s_are_stops) l21 c21 k21
  have b21 := F21.binds (ps := ["w", "widths", "value"]) fun _ _ _ _ _ _ us hl => match us, hl with | [_, _, _], _ => rfl
  have F22 := fun_mk (st := s_law) l22 c22 k22
  refine ⟨PySem.W.fnOf "law" "law" (defArgs s_law) (defBody s_law) (defScope s_law) .none kV22 dc22 pm22 an22 cd22 ct22, fun s v => .of_eq rfl, fun base _ _ => ?_⟩
  have D_law_tape : Def l.prog w K mg base 1 "_law_tape" d_law_tape := ⟨f1, _, ["script"], ok_law_tape T F1 , PySem.W.mg_of X G a1, F1.kp, b1⟩
  have D_filled_trays : Def l.prog w K mg base 1 "filled_trays" d_filled_trays := ⟨f2, _, ["w", "widths"], ok_filled_trays T F2 , PySem.W.mg_of X G a2, F2.kp, b2⟩
  have D_fewest_trays : Def l.prog w K mg base 2 "fewest_trays" d_fewest_trays := ⟨f3, _, ["w", "widths"], ok_fewest_trays T F3 D_filled_trays, PySem.W.mg_of X G a3, F3.kp, b3⟩
  have D_narrowest : Def l.prog w K mg base 2 "narrowest" d_narrowest := ⟨f4, _, ["widths", "many"], ok_narrowest T F4 D_filled_trays, PySem.W.mg_of X G a4, F4.kp, b4⟩
  have D_even_trays : Def l.prog w K mg base 3 "even_trays" d_even_trays := ⟨f5, _, ["w", "widths", "many"], ok_even_trays T F5 D_narrowest D_filled_trays, PySem.W.mg_of X G a5, F5.kp, b5⟩
  have D_law_widest : Def l.prog w K mg base 1 "_law_widest" d_law_widest := ⟨f6, _, ["widths", "laying"], ok_law_widest T F6 , PySem.W.mg_of X G a6, F6.kp, b6⟩
  have D_law_filled : Def l.prog w K mg base 1 "_law_filled" d_law_filled := ⟨f7, _, ["w", "widths"], ok_law_filled T F7 , PySem.W.mg_of X G a7, F7.kp, b7⟩
  have D_law_mix : Def l.prog w K mg base 1 "_law_mix" d_law_mix := ⟨f8, _, ["number"], ok_law_mix T F8 , PySem.W.mg_of X G a8, F8.kp, b8⟩
  have D_law_take : Def l.prog w K mg base 2 "_law_take" d_law_take := ⟨f9, _, ["tape", "many"], ok_law_take T F9 D_law_mix, PySem.W.mg_of X G a9, F9.kp, b9⟩
  have D_law_whole : Def l.prog w K mg base 1 "_law_whole" d_law_whole := ⟨f10, _, ["value", "low", "high"], ok_law_whole T F10 , PySem.W.mg_of X G a10, F10.kp, b10⟩
  have D_law_is_row : Def l.prog w K mg base 2 "_law_is_row" d_law_is_row := ⟨f11, _, ["many", "value"], ok_law_is_row T F11 D_law_whole, PySem.W.mg_of X G a11, F11.kp, b11⟩
  have D_law_is_laying : Def l.prog w K mg base 3 "_law_is_laying" d_law_is_laying := ⟨f12, _, ["w", "widths", "value"], ok_law_is_laying T F12 D_law_is_row D_law_widest, PySem.W.mg_of X G a12, F12.kp, b12⟩
  have D_law_are_stops : Def l.prog w K mg base 3 "_law_are_stops" d_law_are_stops := ⟨f13, _, ["w", "widths", "value"], ok_law_are_stops T F13 D_law_is_row, PySem.W.mg_of X G a13, F13.kp, b13⟩
  have D_law_same : Def l.prog w K mg base 8 "_law_same" (d_law_same 8) := ⟨f14, _, ["a", "b"], (ok_law_same T F14 (PySem.W.mg_of X G a14) b14  8).mono (by decide), PySem.W.mg_of X G a14, F14.kp, b14⟩
  have D_law_spoilt : Def l.prog w K mg base 22 "_law_spoilt" (d_law_spoilt 20) := ⟨f15, _, ["tape", "value"], (ok_law_spoilt T F15 (PySem.W.mg_of X G a15) b15 D_law_take 20).mono (by decide), PySem.W.mg_of X G a15, F15.kp, b15⟩
  have D_is_ascending : Def l.prog w K mg base 1 "is_ascending" d_is_ascending := ⟨f16, _, ["rows"], ok_is_ascending T F16 , PySem.W.mg_of X G a16, F16.kp, b16⟩
  have D_is_number : Def l.prog w K mg base 1 "is_number" d_is_number := ⟨f17, _, ["value", "least", "most"], ok_is_number T F17 , PySem.W.mg_of X G a17, F17.kp, b17⟩
  have D_is_index_row : Def l.prog w K mg base 2 "is_index_row" d_is_index_row := ⟨f18, _, ["many", "value"], ok_is_index_row T F18 D_is_ascending D_is_number, PySem.W.mg_of X G a18, F18.kp, b18⟩
  have D_rows_by : Def l.prog w K mg base 1 "rows_by" d_rows_by := ⟨f19, _, ["widths", "laying"], ok_rows_by T F19 , PySem.W.mg_of X G a19, F19.kp, b19⟩
  have D_is_laying : Def l.prog w K mg base 3 "is_laying" d_is_laying := ⟨f20, _, ["w", "widths", "value"], ok_is_laying T F20 D_is_index_row D_rows_by, PySem.W.mg_of X G a20, F20.kp, b20⟩
  have D_are_stops : Def l.prog w K mg base 3 "are_stops" d_are_stops := ⟨f21, _, ["w", "widths", "value"], ok_are_stops T F21 D_is_index_row, PySem.W.mg_of X G a21, F21.kp, b21⟩
  exact ok_law T F22 D_law_tape D_fewest_trays D_even_trays D_law_widest D_law_filled D_law_take D_law_is_laying D_law_are_stops D_law_same D_law_spoilt D_is_laying D_are_stops
theorem law_sp {K : Frg} {H : Hp} {a : Addr} {ns : List Int} (hl : ns.length ≤ 63) (h : SqL K H a (ns.map V.int)) : spD K d_law [.ref a] H (fun v _ => v = .bl true) fun _ _ _ => False := by
  obtain ⟨B', e⟩ := law_den ns hl
  refine ⟨H, none, ⟨[], [], false⟩, [.scr ns], .dat (.bool true), B', Ext.refl H, ⟨fun p z => (nomatch z), rfl⟩, .cons ⟨a, rfl, h⟩ .nil, e, fun v H' F' b' _ _ _ q => ?_⟩
  cases (show Rp K F' v (.bool true) from q)
  rfl
end Dn
open PySem PySem.W PyProof.Rows
set_option maxHeartbeats 0 in
theorem PySem.Challenge.cw_pantrykept_k87_whole_trays_in_order_holds : PySem.Challenge.rw_pantrykept_k87_whole_trays_in_order.Holds := by
  w_on; o_law; k_head; (case hw => w_witness2)
  k_fill
  refine L2.walk_of (l := PySem.Challenge.rw_pantrykept_k87_whole_trays_in_order) (n := 63) (k := 23) (x := "script") (CX := fun _ => L2.CX0) (sp := fun w => Dn.spD _ Dn.d_law) rfl (by decide) rfl ⟨rfl, by decide, by decide⟩ (fun w h Y => PySem.W.kIn_of Y) ?F (fun _ _ a ns hl _ hS => Dn.law_sp hl hS) (fun _ _ _ _ _ h => h)
  case F =>
    intro w mg fa h KX G hmg
    refine' Dn.all_mk KX G hmg ?a1 ?l1 ?c1 ?k1 ?a2 ?l2 ?c2 ?k2 ?a3 ?l3 ?c3 ?k3 ?a4 ?l4 ?c4 ?k4 ?a5 ?l5 ?c5 ?k5 ?a6 ?l6 ?c6 ?k6 ?a7 ?l7 ?c7 ?k7 ?a8 ?l8 ?c8 ?k8 ?a9 ?l9 ?c9 ?k9 ?a10 ?l10 ?c10 ?k10 ?a11 ?l11 ?c11 ?k11 ?a12 ?l12 ?c12 ?k12 ?a13 ?l13 ?c13 ?k13 ?a14 ?l14 ?c14 ?k14 ?a15 ?l15 ?c15 ?k15 ?a16 ?l16 ?c16 ?k16 ?a17 ?l17 ?c17 ?k17 ?a18 ?l18 ?c18 ?k18 ?a19 ?l19 ?c19 ?k19 ?a20 ?l20 ?c20 ?k20 ?a21 ?l21 ?c21 ?k21 ?a22 ?l22 ?c22 ?k22 ?z0 ?z1 ?z2 ?z3 ?z4 ?z5 ?z6 ?z7 ?z8 ?z9 ?z10 ?z11 ?z12 ?z13 ?z14 ?z15
    (case a1 => k_is); (case l1 => k_is); (case c1 => k_is); (case k1 => k_is); (case a2 => k_is); (case l2 => k_is); (case c2 => k_is); (case k2 => k_is); (case a3 => k_is); (case l3 => k_is); (case c3 => k_is); (case k3 => k_is); (case a4 => k_is); (case l4 => k_is); (case c4 => k_is); (case k4 => k_is); (case a5 => k_is); (case l5 => k_is); (case c5 => k_is); (case k5 => k_is); (case a6 => k_is); (case l6 => k_is); (case c6 => k_is); (case k6 => k_is); (case a7 => k_is); (case l7 => k_is); (case c7 => k_is); (case k7 => k_is); (case a8 => k_is); (case l8 => k_is); (case c8 => k_is); (case k8 => k_is); (case a9 => k_is); (case l9 => k_is); (case c9 => k_is); (case k9 => k_is); (case a10 => k_is); (case l10 => k_is); (case c10 => k_is); (case k10 => k_is); (case a11 => k_is); (case l11 => k_is); (case c11 => k_is); (case k11 => k_is); (case a12 => k_is); (case l12 => k_is); (case c12 => k_is); (case k12 => k_is); (case a13 => k_is); (case l13 => k_is); (case c13 => k_is); (case k13 => k_is); (case a14 => k_is); (case l14 => k_is); (case c14 => k_is); (case k14 => k_is); (case a15 => k_is); (case l15 => k_is); (case c15 => k_is); (case k15 => k_is); (case a16 => k_is); (case l16 => k_is); (case c16 => k_is); (case k16 => k_is); (case a17 => k_is); (case l17 => k_is); (case c17 => k_is); (case k17 => k_is); (case a18 => k_is); (case l18 => k_is); (case c18 => k_is); (case k18 => k_is); (case a19 => k_is); (case l19 => k_is); (case c19 => k_is); (case k19 => k_is); (case a20 => k_is); (case l20 => k_is); (case c20 => k_is); (case k20 => k_is); (case a21 => k_is); (case l21 => k_is); (case c21 => k_is); (case k21 => k_is); (case a22 => k_is); (case l22 => k_is); (case c22 => k_is); (case k22 => k_is); (case z0 => k_is); (case z1 => k_is); (case z2 => k_is); (case z3 => k_is); (case z4 => k_is); (case z5 => k_is); (case z6 => k_is); (case z7 => k_is); (case z8 => k_is); (case z9 => k_is); (case z10 => k_is); (case z11 => k_is); (case z12 => k_is); (case z13 => k_is); (case z14 => k_is); (case z15 => k_is)

