import PyProof.Rows.All
import Wide.All
import OpenK.AllK
import Wide.FinOn
import HandS.ForMost
import HandS.IsInst
import HandS.Wide
import HandS.Style
import HandS.Deep
import HandS.TupAny
import KE.GoesNew
import KE.DataCmp
import KE.DataMinMax
import KE.SortData
import PyProof.P3In
import HandS.SortKw
import KE.KRevSl
import HandS.Conv
import HandS.SetFor
import HandS.Strs
import KE.KTupSum
import HandS.TupMul
import PyProof.TupleOfSeq
import PyProof.Rows.SortWalk
import HandS.More
import HandS.Dict
import KE.KDictSum
import HandS.ListItems
import HandS.Rev
import PySem.Challenge.RW_pantrykept_k63_whole_costs_that_grow
set_option Elab.async false
set_option linter.all false
set_option autoImplicit false
set_option maxRecDepth 100000
set_option maxHeartbeats 1000000
/-! Functional denotations over the hand layer: values are data, a def's own lists live in its slots, the law's draws are a state. -/
namespace Dn
open PySem PySem.Spec PyProof.Rows L2

abbrev Frg := PySem.W.Frag
/-- what a slot holds, what an expression gives -/
inductive Sv where
  | dat (d : PyData)
  | own (xs : List PyData)
  | box | cells
  | scr (ns : List Int)
  | dic (kvs : List (Int × PyData))
  | fdc (kvs : List (Int × PyData))
abbrev Sl := List (Option Sv)
/-- the state that the law draws from -/
structure Bx where
  cells : List Int
  regs : List Int
  on : Bool
abbrev Bad := Option (Addr × Addr)

mutual
inductive Rp (K : Frg) (F : Hp) : V → PyData → Prop
  | non : Rp K F .non .none
  | bl (b : Bool) : Rp K F (.bl b) (.bool b)
  | int (i : Int) : Rp K F (.int i) (.int i)
  | str (x : Str) : Rp K F (.str x) (.str x)
  | lst {a : Addr} {xs : List V} {ds : List PyData} : F a = some (.lst xs) → Rps K F xs ds → Rp K F (.ref a) (.list ds)
  | tup {a : Addr} {xs : List V} {ds : List PyData} : SqT K F a xs → Rps K F xs ds → Rp K F (.ref a) (.tuple ds)
inductive Rps (K : Frg) (F : Hp) : List V → List PyData → Prop
  | nil : Rps K F [] []
  | cons {v : V} {vs : List V} {d : PyData} {ds : List PyData} : Rp K F v d → Rps K F vs ds → Rps K F (v :: vs) (d :: ds)
end

def Ext (H H' : Hp) : Prop := ∀ a o, H a = some o → H' a = some o
theorem Ext.refl (H : Hp) : Ext H H := fun _ _ h => h
theorem Ext.trans {H H1 H2 : Hp} (a : Ext H H1) (b : Ext H1 H2) : Ext H H2 := fun x o h => b x o (a x o h)
theorem Ext.new {H : Hp} {p : Addr} {o : HO} (h : H p = none) : Ext H (upd H p o) := fun a u e => by
  rw [upd_ne (ne_of_none e h)]
  exact e
theorem Ext.rd {H H' : Hp} {a : Addr} {u : HO} (e : Ext H H') (h : Rd H a u) : Rd H' a u := by
  rcases h with h | ⟨o, h⟩
  · exact Or.inl (e a _ h)
  · exact Or.inr ⟨o, e a _ h⟩
theorem Ext.sqL {K : Frg} {H H' : Hp} {a : Addr} {xs : List V} (e : Ext H H') (h : SqL K H a xs) : SqL K H' a xs := h.imp (fun z => e.rd z) id
theorem Ext.sqT {K : Frg} {H H' : Hp} {a : Addr} {xs : List V} (e : Ext H H') (h : SqT K H a xs) : SqT K H' a xs := h.imp (fun z => e.rd z) id

mutual
theorem Rp.mono {K : Frg} {F F' : Hp} (e : Ext F F') : ∀ {d : PyData} {v : V}, Rp K F v d → Rp K F' v d
  | .none, _, h => by cases h; exact .non
  | .bool b, _, h => by cases h; exact .bl b
  | .int b, _, h => by cases h; exact .int b
  | .str b, _, h => by cases h; exact .str b
  | .list ds, _, h => by
    cases h with
    | lst h1 h2 => exact .lst (e _ _ h1) (Rps.mono e h2)
  | .tuple ds, _, h => by
    cases h with
    | tup h1 h2 => exact .tup (e.sqT h1) (Rps.mono e h2)
  | .dict _, _, h => by cases h
theorem Rps.mono {K : Frg} {F F' : Hp} (e : Ext F F') : ∀ {ds : List PyData} {vs : List V}, Rps K F vs ds → Rps K F' vs ds
  | [], _, h => by cases h; exact .nil
  | d :: ds, _, h => by
    cases h with
    | cons h1 h2 => exact .cons (Rp.mono e h1) (Rps.mono e h2)
end
mutual
theorem Rp.dp {K : Frg} {F : Hp} : ∀ {d : PyData} {v : V}, Rp K F v d → Dp K F v d
  | .none, _, h => by cases h; exact .non
  | .bool b, _, h => by cases h; exact .bl b
  | .int b, _, h => by cases h; exact .int b
  | .str b, _, h => by cases h; exact .str b
  | .list ds, _, h => by
    cases h with
    | lst h1 h2 => exact .lst (SqL.of h1) (Rps.dp h2)
  | .tuple ds, _, h => by
    cases h with
    | tup h1 h2 => exact .tup h1 (Rps.dp h2)
  | .dict _, _, h => by cases h
theorem Rps.dp {K : Frg} {F : Hp} : ∀ {ds : List PyData} {vs : List V}, Rps K F vs ds → DpAll K F vs ds
  | [], _, h => by cases h; exact .nil
  | d :: ds, _, h => by
    cases h with
    | cons h1 h2 => exact .cons (Rp.dp h1) (Rps.dp h2)
end
section
variable {K : Frg} {F : Hp}
theorem Rps.length : ∀ {vs : List V} {ds : List PyData}, Rps K F vs ds → vs.length = ds.length
  | [], [], _ => rfl
  | _ :: _, _ :: _, h => by
    cases h with
    | cons _ h2 => rw [List.length_cons, List.length_cons, Rps.length h2]
  | [], _ :: _, h => by cases h
  | _ :: _, [], h => by cases h
theorem Rps.get : ∀ {vs : List V} {ds : List PyData} {i : Nat} {d : PyData}, Rps K F vs ds → ds[i]? = some d → ∃ v, vs[i]? = some v ∧ Rp K F v d
  | _ :: _, _ :: _, 0, _, h, e => by
    cases h with
    | cons h1 _ =>
      cases e
      exact ⟨_, rfl, h1⟩
  | _ :: _, _ :: _, i + 1, _, h, e => by
    cases h with
    | cons _ h2 => exact Rps.get (i := i) h2 e
  | [], [], _, _, _, e => by cases e
  | [], _ :: _, _, _, h, _ => by cases h
  | _ :: _, [], _, _, h, _ => by cases h
theorem Rps.get' : ∀ {vs : List V} {ds : List PyData} {i : Nat} {v : V}, Rps K F vs ds → vs[i]? = some v → ∃ d, ds[i]? = some d ∧ Rp K F v d
  | _ :: _, _ :: _, 0, _, h, e => by
    cases h with
    | cons h1 _ =>
      cases e
      exact ⟨_, rfl, h1⟩
  | _ :: _, _ :: _, i + 1, _, h, e => by
    cases h with
    | cons _ h2 => exact Rps.get' (i := i) h2 e
  | [], [], _, _, _, e => by cases e
  | [], _ :: _, _, _, h, _ => by cases h
  | _ :: _, [], _, _, h, _ => by cases h
theorem Rps.append : ∀ {vs us : List V} {ds es : List PyData}, Rps K F vs ds → Rps K F us es → Rps K F (vs ++ us) (ds ++ es)
  | [], _, [], _, _, h => h
  | _ :: _, _, _ :: _, _, h, h' => by
    cases h with
    | cons h1 h2 => exact .cons h1 (Rps.append h2 h')
  | [], _, _ :: _, _, h, _ => by cases h
  | _ :: _, _, [], _, h, _ => by cases h
theorem Rps.drop : ∀ (n : Nat) {vs : List V} {ds : List PyData}, Rps K F vs ds → Rps K F (vs.drop n) (ds.drop n)
  | 0, _, _, h => h
  | _ + 1, [], [], _ => .nil
  | n + 1, _ :: _, _ :: _, h => by
    cases h with
    | cons _ h2 => exact Rps.drop n h2
  | _ + 1, [], _ :: _, h => by cases h
  | _ + 1, _ :: _, [], h => by cases h
theorem Rps.take : ∀ (n : Nat) {vs : List V} {ds : List PyData}, Rps K F vs ds → Rps K F (vs.take n) (ds.take n)
  | 0, _, _, _ => .nil
  | _ + 1, [], [], _ => .nil
  | n + 1, _ :: _, _ :: _, h => by
    cases h with
    | cons h1 h2 => exact .cons h1 (Rps.take n h2)
  | _ + 1, [], _ :: _, h => by cases h
  | _ + 1, _ :: _, [], h => by cases h
theorem Rps.one {v : V} {d : PyData} (h : Rp K F v d) : Rps K F [v] [d] := .cons h .nil
theorem Rps.set {v : V} {d : PyData} (h : Rp K F v d) : ∀ (n : Nat) {vs : List V} {ds : List PyData}, Rps K F vs ds → Rps K F (vs.set n v) (ds.set n d)
  | _, [], [], _ => .nil
  | 0, _ :: _, _ :: _, h' => by
    cases h' with
    | cons _ h2 => exact .cons h h2
  | n + 1, _ :: _, _ :: _, h' => by
    cases h' with
    | cons h1 h2 => exact .cons h1 (Rps.set h n h2)
  | _, [], _ :: _, h => by cases h
  | _, _ :: _, [], h => by cases h
theorem Rps.reverse : ∀ {vs : List V} {ds : List PyData}, Rps K F vs ds → Rps K F vs.reverse ds.reverse
  | [], [], _ => .nil
  | v :: vs, d :: ds, h => by
    cases h with
    | cons h1 h2 =>
      rw [List.reverse_cons, List.reverse_cons]
      exact Rps.append (Rps.reverse h2) (.one h1)
  | [], _ :: _, h => by cases h
  | _ :: _, [], h => by cases h
theorem Rps.erase : ∀ (n : Nat) {vs : List V} {ds : List PyData}, Rps K F vs ds → Rps K F (vs.eraseIdx n) (ds.eraseIdx n)
  | _, [], [], _ => .nil
  | 0, _ :: _, _ :: _, h' => by
    cases h' with
    | cons _ h2 => exact h2
  | n + 1, _ :: _, _ :: _, h' => by
    cases h' with
    | cons h1 h2 => exact .cons h1 (Rps.erase n h2)
  | _, [], _ :: _, h => by cases h
  | _, _ :: _, [], h => by cases h
theorem Rps.ints : ∀ {vs : List V} {ns : List Int}, Rps K F vs (ns.map PyData.int) → vs = ns.map V.int
  | [], [], _ => rfl
  | v :: vs, n :: ns, h => by
    cases h with
    | cons h1 h2 =>
      cases h1
      rw [Rps.ints h2]
      rfl
  | [], _ :: _, h => by cases h
  | _ :: _, [], h => by cases h
theorem Rps.of_ints : ∀ (ns : List Int), Rps K F (ns.map V.int) (ns.map PyData.int)
  | [] => .nil
  | n :: ns => .cons (.int n) (Rps.of_ints ns)
theorem Rps.bls : ∀ {vs : List V} {ns : List Bool}, Rps K F vs (ns.map PyData.bool) → vs = ns.map V.bl
  | [], [], _ => rfl
  | v :: vs, n :: ns, h => by
    cases h with
    | cons h1 h2 =>
      cases h1
      rw [Rps.bls h2]
      rfl
  | [], _ :: _, h => by cases h
  | _ :: _, [], h => by cases h
end

/-! ### the state's relation -/
structure Fx where
  H0 : Hp
  F0 : Hp
  b0 : Bad
def inb (b : Bad) (a : Addr) : Prop := ∃ p, b = some p ∧ (a = p.1 ∨ a = p.2)
/-- a dict's pairs, its keys ints -/
abbrev KvR (K : Frg) (F : Hp) : List (Key × V) → List (Int × PyData) → Prop := Paired (fun p q => p.1 = .inl q.1 ∧ Rp K F p.2 q.2)
theorem KvR.mono {K : Frg} {F F' : Hp} (e : Ext F F') {ks : List (Key × V)} {kvs : List (Int × PyData)} (h : KvR K F ks kvs) : KvR K F' ks kvs := Paired.mapP h fun _ _ z => ⟨z.1, Rp.mono e z.2⟩
def SvR (K : Frg) (F H : Hp) (b : Bad) (v : V) : Sv → Prop
  | .dat d => Rp K F v d
  | .own xs => ∃ a vs, v = .ref a ∧ H a = some (.lst vs) ∧ Rps K F vs xs ∧ F a = none ∧ ¬ inb b a
  | .box => ∃ p, b = some p ∧ v = .ref p.1
  | .cells => ∃ p, b = some p ∧ v = .ref p.2
  | .scr ns => ∃ a, v = .ref a ∧ SqL K F a (ns.map V.int)
  | .dic kvs => ∃ a ks, v = .ref a ∧ H a = some (.dK ks) ∧ KvR K F ks kvs ∧ F a = none ∧ ¬ inb b a
  | .fdc kvs => ∃ a o ks, v = .ref a ∧ F a = some (.frz o (.dK ks)) ∧ KvR K F ks kvs
structure BxR (F H : Hp) (b : Bad) (B : Bx) : Prop where
  at_ : ∀ p, b = some p → H p.1 = some (.lst (.ref p.2 :: B.regs.map V.int)) ∧ H p.2 = some (.lst (B.cells.map V.int)) ∧ F p.1 = none ∧ F p.2 = none ∧ p.1 ≠ p.2
  liv : b.isSome = B.on
structure Rel (K : Frg) (C : Fx) (sl : Sl) (B : Bx) (F : Hp) (b : Bad) (σ : L2.St) (H : Hp) : Prop where
  fro : Ext F H
  len : sl.length = σ.length
  slt : ∀ (i : Nat) (s : Sv), sl[i]? = some (some s) → ∃ v, σ[i]? = some (some v) ∧ SvR K F H b v s
  dis : ∀ (i j : Nat) (xs ys : List PyData) (a : Addr), sl[i]? = some (some (.own xs)) → sl[j]? = some (some (.own ys)) → σ[i]? = some (some (.ref a)) → σ[j]? = some (some (.ref a)) → i = j
  own0 : ∀ (i : Nat) (xs : List PyData) (a : Addr), sl[i]? = some (some (.own xs)) → σ[i]? = some (some (.ref a)) → C.H0 a = none
  bx : BxR F H b B
  e1 : Ext C.F0 F
  e2 : ∀ a, C.H0 a ≠ none → C.F0 a = none → F a = none
  e3 : ∀ a o, C.H0 a = some o → ¬ inb C.b0 a → H a = some o
  e4 : ∀ p, C.b0 = some p → b = some p
  e5 : ∀ a, inb b a → C.H0 a = none ∨ inb C.b0 a
  dis2 : ∀ (i j : Nat) (xs ys : List (Int × PyData)) (a : Addr), sl[i]? = some (some (.dic xs)) → sl[j]? = some (some (.dic ys)) → σ[i]? = some (some (.ref a)) → σ[j]? = some (some (.ref a)) → i = j
  own2 : ∀ (i : Nat) (xs : List (Int × PyData)) (a : Addr), sl[i]? = some (some (.dic xs)) → σ[i]? = some (some (.ref a)) → C.H0 a = none
/-- what an expression does to the heap -/
structure Stp (F : Hp) (b : Bad) (H : Hp) (F' : Hp) (b' : Bad) (H' : Hp) : Prop where
  ex : Ext F F'
  pr : ∀ a o, H a = some o → ¬ inb b a → H' a = some o
  ko : ∀ a, H a ≠ none → F a = none → F' a = none
  bb : ∀ p, b = some p → b' = some p
  nb : ∀ a, inb b' a → inb b a ∨ H a = none
  tr : ∀ a, H a ≠ none → H' a ≠ none
section
variable {F F1 F2 H H1 H2 : Hp} {b b1 b2 : Bad}
theorem Stp.refl : Stp F b H F b H := ⟨Ext.refl _, fun _ _ h _ => h, fun _ _ h => h, fun _ h => h, fun _ h => .inl h, fun _ h => h⟩
theorem Stp.trans (x : Stp F b H F1 b1 H1) (y : Stp F1 b1 H1 F2 b2 H2) : Stp F b H F2 b2 H2 where
  ex := x.ex.trans y.ex
  pr := fun a o h n => y.pr a o (x.pr a o h n) fun z => by
    rcases x.nb a z with q | q
    · exact n q
    · rw [h] at q; cases q
  ko := fun a h n => y.ko a (x.tr a h) (x.ko a h n)
  bb := fun p h => y.bb p (x.bb p h)
  nb := fun a h => by
    rcases y.nb a h with q | q
    · exact x.nb a q
    · by_cases z : H a = none
      · exact .inr z
      · exact absurd q (x.tr a z)
  tr := fun a h => y.tr a (x.tr a h)
theorem Stp.new {p : Addr} {o : HO} (h : H p = none) : Stp F b H F b (upd H p o) where
  ex := Ext.refl _
  pr := fun a u e _ => Ext.new h a u e
  ko := fun _ _ h => h
  bb := fun _ h => h
  nb := fun _ h => .inl h
  tr := fun a q => by
    unfold upd
    split
    · exact Option.some_ne_none _
    · exact q
theorem Stp.fz {p : Addr} {o : HO} (fr : Ext F H) (h : H p = none) : Stp F b H (upd F p o) b (upd H p o) where
  ex := Ext.new (by
    cases q : F p with
    | none => rfl
    | some u => rw [fr p u q] at h; cases h)
  pr := fun a u e _ => Ext.new h a u e
  ko := fun a q n => by
    rw [upd_ne (fun z => by subst z; exact q h)]
    exact n
  bb := fun _ h => h
  nb := fun _ h => .inl h
  tr := fun a q => by
    unfold upd
    split
    · exact Option.some_ne_none _
    · exact q
theorem not_in_F (fr : Ext F H) {p : Addr} (h : H p = none) : F p = none := by
  cases q : F p with
  | none => rfl
  | some u => rw [fr p u q] at h; cases h
end
theorem SvR.mono {K : Frg} {F F' H H' : Hp} {b b' : Bad} {v : V} {s : Sv} (x : Stp F b H F' b' H') (h : SvR K F H b v s) : SvR K F' H' b' v s := by
  cases s with
  | dat d => exact Rp.mono x.ex h
  | own xs =>
    obtain ⟨a, vs, e, h1, h2, h3, h4⟩ := h
    refine ⟨a, vs, e, x.pr a _ h1 h4, Rps.mono x.ex h2, x.ko a (by rw [h1]; exact Option.some_ne_none _) h3, fun z => ?_⟩
    rcases x.nb a z with q | q
    · exact h4 q
    · rw [h1] at q; cases q
  | box =>
    obtain ⟨p, e, h⟩ := h
    exact ⟨p, x.bb p e, h⟩
  | cells =>
    obtain ⟨p, e, h⟩ := h
    exact ⟨p, x.bb p e, h⟩
  | scr ns =>
    obtain ⟨a, e, h⟩ := h
    exact ⟨a, e, x.ex.sqL h⟩
  | dic kvs =>
    obtain ⟨a, ks, e, h1, h2, h3, h4⟩ := h
    refine ⟨a, ks, e, x.pr a _ h1 h4, KvR.mono x.ex h2, x.ko a (by rw [h1]; exact Option.some_ne_none _) h3, fun z => ?_⟩
    rcases x.nb a z with q | q
    · exact h4 q
    · rw [h1] at q; cases q
  | fdc kvs =>
    obtain ⟨a, o, ks, e, h1, h2⟩ := h
    exact ⟨a, o, ks, e, x.ex a _ h1, KvR.mono x.ex h2⟩
abbrev SvsR (K : Frg) (F H : Hp) (b : Bad) : List V → List Sv → Prop := Paired (fun v s => SvR K F H b v s)
theorem SvsR.mono {K : Frg} {F F' H H' : Hp} {b b' : Bad} (x : Stp F b H F' b' H') : ∀ {vs : List V} {ss : List Sv}, SvsR K F H b vs ss → SvsR K F' H' b' vs ss
  | _, _, .nil => .nil
  | _, _, .cons h t => .cons (SvR.mono x h) (SvsR.mono x t)
section
variable {K : Frg} {C : Fx} {sl : Sl} {B B' : Bx} {F F' H H' : Hp} {b b' : Bad} {σ : L2.St}
/-- a step that leaves the box as told -/
theorem Rel.step (r : Rel K C sl B F b σ H) (x : Stp F b H F' b' H') (fr : Ext F' H') (bx : BxR F' H' b' B') : Rel K C sl B' F' b' σ H' where
  fro := fr
  len := r.len
  slt := fun i s h => let ⟨v, e, q⟩ := r.slt i s h; ⟨v, e, q.mono x⟩
  dis := r.dis
  own0 := r.own0
  dis2 := r.dis2
  own2 := r.own2
  bx := bx
  e1 := r.e1.trans x.ex
  e2 := fun a h0 h1 => by
    have h2 := r.e2 a h0 h1
    by_cases z : H a = none
    · exfalso
      by_cases hb : inb C.b0 a
      · obtain ⟨p, e, q⟩ := hb
        have hp := r.bx.at_ p (r.e4 p e)
        rcases q with q | q
        · rw [q, hp.1] at z; cases z
        · rw [q, hp.2.1] at z; cases z
      · cases q : C.H0 a with
        | none => exact h0 q
        | some o => rw [r.e3 a o q hb] at z; cases z
    · exact x.ko a z h2
  e3 := fun a o h n => x.pr a o (r.e3 a o h n) fun z => by
    rcases r.e5 a z with q | q
    · rw [h] at q; cases q
    · exact n q
  e4 := fun p h => x.bb p (r.e4 p h)
  e5 := fun a h => by
    rcases x.nb a h with q | q
    · exact r.e5 a q
    · refine .inl ?_
      by_cases hb : inb C.b0 a
      · obtain ⟨p, e, q'⟩ := hb
        have hp := r.bx.at_ p (r.e4 p e)
        rcases q' with q' | q'
        · rw [q', hp.1] at q; cases q
        · rw [q', hp.2.1] at q; cases q
      · cases z : C.H0 a with
        | none => rfl
        | some o => rw [r.e3 a o z hb] at q; cases q
theorem Rel.t0 (r : Rel K C sl B F b σ H) {a : Addr} (h : H a = none) : C.H0 a = none := by
  by_cases hb : inb C.b0 a
  · obtain ⟨p, e, q'⟩ := hb
    have hp := r.bx.at_ p (r.e4 p e)
    rcases q' with q' | q'
    · rw [q', hp.1] at h; cases h
    · rw [q', hp.2.1] at h; cases h
  · cases z : C.H0 a with
    | none => rfl
    | some o => rw [r.e3 a o z hb] at h; cases h
theorem Rel.nbx (r : Rel K C sl B F b σ H) {a : Addr} (h : H a = none) : ¬ inb b a := fun ⟨p, e, q⟩ => by
  have hp := r.bx.at_ p e
  rcases q with q | q
  · rw [q, hp.1] at h; cases h
  · rw [q, hp.2.1] at h; cases h
theorem BxR.new {p : Addr} {o : HO} (x : BxR F H b B) (h : H p = none) : BxR F (upd H p o) b B := ⟨fun q e => by
  obtain ⟨h1, h2, h3, h4, h5⟩ := x.at_ q e
  exact ⟨by rw [upd_ne (ne_of_none h1 h)]; exact h1, by rw [upd_ne (ne_of_none h2 h)]; exact h2, h3, h4, h5⟩, x.liv⟩
theorem BxR.fz {p : Addr} {o : HO} (x : BxR F H b B) (h : H p = none) : BxR (upd F p o) (upd H p o) b B := ⟨fun q e => by
  obtain ⟨h1, h2, h3, h4, h5⟩ := x.at_ q e
  exact ⟨by rw [upd_ne (ne_of_none h1 h)]; exact h1, by rw [upd_ne (ne_of_none h2 h)]; exact h2, by rw [upd_ne (ne_of_none h1 h)]; exact h3, by rw [upd_ne (ne_of_none h2 h)]; exact h4, h5⟩, x.liv⟩
/-- a new object, not frozen | frozen at once -/
theorem Rel.new {p : Addr} {o : HO} (r : Rel K C sl B F b σ H) (h : H p = none) : Rel K C sl B F b σ (upd H p o) :=
  r.step (Stp.new h) (r.fro.trans (Ext.new h)) (r.bx.new h)
theorem Rel.fz {p : Addr} {o : HO} (r : Rel K C sl B F b σ H) (h : H p = none) : Rel K C sl B (upd F p o) b σ (upd H p o) :=
  r.step (Stp.fz r.fro h) (fun a u e => by
    by_cases z : a = p
    · subst z; rw [upd_same] at e; rw [upd_same]; exact e
    · rw [upd_ne z] at e; rw [upd_ne z]; exact r.fro a u e) (r.bx.fz h)
end
end Dn

set_option Elab.async false
set_option linter.all false
set_option autoImplicit false
set_option maxRecDepth 100000
set_option maxHeartbeats 1000000
namespace Dn
open PySem PySem.Spec PyProof.Rows L2

/-! ### what is read of the top of a value: an own list too -/
def TopR (K : Frg) (F H : Hp) (b : Bad) (v : V) : PyData → Prop
  | .list xs => ∃ a vs, v = .ref a ∧ H a = some (.lst vs) ∧ ¬ inb b a ∧ Rps K F vs xs
  | d => Rp K F v d
abbrev TopRs (K : Frg) (F H : Hp) (b : Bad) : List V → List PyData → Prop := Paired (fun v d => TopR K F H b v d)
section
variable {K : Frg} {C : Fx} {sl : Sl} {B B' : Bx} {F F' H H' : Hp} {b b' : Bad} {σ : L2.St} {v : V} {d : PyData}
theorem TopR.of (fr : Ext F H) (bx : BxR F H b B) (h : Rp K F v d) : TopR K F H b v d := by
  cases d with
  | list xs =>
    cases h with
    | lst h1 h2 =>
      refine ⟨_, _, rfl, fr _ _ h1, fun ⟨p, e, q⟩ => ?_, h2⟩
      have hp := bx.at_ p e
      rcases q with q | q
      · rw [q, hp.2.2.1] at h1; cases h1
      · rw [q, hp.2.2.2.1] at h1; cases h1
  | _ => exact h
theorem TopR.mono (x : Stp F b H F' b' H') (h : TopR K F H b v d) : TopR K F' H' b' v d := by
  cases d with
  | list xs =>
    obtain ⟨a, vs, e, h1, h2, h3⟩ := h
    refine ⟨a, vs, e, x.pr a _ h1 h2, fun z => ?_, Rps.mono x.ex h3⟩
    rcases x.nb a z with q | q
    · exact h2 q
    · rw [h1] at q; cases q
  | none => exact Rp.mono x.ex h
  | bool _ => exact Rp.mono x.ex h
  | int _ => exact Rp.mono x.ex h
  | str _ => exact Rp.mono x.ex h
  | tuple _ => exact Rp.mono x.ex h
  | dict _ => exact Rp.mono x.ex h
theorem TopR.dp (fr : Ext F H) (h : TopR K F H b v d) : Dp K H v d := by
  cases d with
  | list xs =>
    obtain ⟨a, vs, e, h1, h2, h3⟩ := h
    subst e
    exact .lst (SqL.of h1) (Rps.dp (Rps.mono fr h3))
  | none => exact (Rp.mono fr h).dp
  | bool _ => exact (Rp.mono fr h).dp
  | int _ => exact (Rp.mono fr h).dp
  | str _ => exact (Rp.mono fr h).dp
  | tuple _ => exact (Rp.mono fr h).dp
  | dict _ => exact (Rp.mono fr h).dp
theorem TopRs.mono (x : Stp F b H F' b' H') : ∀ {vs : List V} {ds : List PyData}, TopRs K F H b vs ds → TopRs K F' H' b' vs ds
  | _, _, .nil => .nil
  | _, _, .cons h t => .cons (TopR.mono x h) (TopRs.mono x t)
end
theorem top_int {K : Frg} {F H : Hp} {b : Bad} {v : V} {i : Int} (h : TopR K F H b v (.int i)) : v = .int i := by
  have h' : Rp K F v (.int i) := h
  cases h'
  rfl
theorem top_bool {K : Frg} {F H : Hp} {b : Bad} {v : V} {i : Bool} (h : TopR K F H b v (.bool i)) : v = .bl i := by
  have h' : Rp K F v (.bool i) := h
  cases h'
  rfl
theorem top_str {K : Frg} {F H : Hp} {b : Bad} {v : V} {i : Str} (h : TopR K F H b v (.str i)) : v = .str i := by
  have h' : Rp K F v (.str i) := h
  cases h'
  rfl
theorem top_none {K : Frg} {F H : Hp} {b : Bad} {v : V} (h : TopR K F H b v .none) : v = .non := by
  have h' : Rp K F v .none := h
  cases h'
  rfl
theorem top_tup {K : Frg} {F H : Hp} {b : Bad} {v : V} {ds : List PyData} (fr : Ext F H) (h : TopR K F H b v (.tuple ds)) : ∃ a vs, v = .ref a ∧ SqT K H a vs ∧ Rps K F vs ds := by
  have h' : Rp K F v (.tuple ds) := h
  cases h' with
  | tup h1 h2 => exact ⟨_, _, rfl, fr.sqT h1, h2⟩

/-! ### new objects -/
inductive Al : Hp → Hp → Hp → Hp → Prop
  | refl {F H : Hp} : Al F H F H
  | fz {F H F' H' : Hp} {p : Addr} {o : HO} : H p = none → Al (upd F p o) (upd H p o) F' H' → Al F H F' H'
  | nw {F H F' H' : Hp} {p : Addr} {o : HO} : H p = none → Al F (upd H p o) F' H' → Al F H F' H'
theorem Al.rel {K : Frg} {C : Fx} {sl : Sl} {B : Bx} {b : Bad} {σ : L2.St} {F H F' H' : Hp} (x : Al F H F' H') : Rel K C sl B F b σ H → Rel K C sl B F' b σ H' ∧ Stp F b H F' b H' := by
  induction x with
  | refl => exact fun r => ⟨r, Stp.refl⟩
  | fz h _ ih => exact fun r => let ⟨r2, s2⟩ := ih (r.fz h); ⟨r2, (Stp.fz r.fro h).trans s2⟩
  | nw h _ ih => exact fun r => let ⟨r2, s2⟩ := ih (r.new h); ⟨r2, (Stp.new h).trans s2⟩
theorem Al.one {F H : Hp} {p : Addr} {o : HO} (h : H p = none) : Al F H (upd F p o) (upd H p o) := .fz h .refl

/-! ### readings by denotations -/
abbrev DE := Sl → Bx → Option (PyData × Bx)
abbrev DV := Sl → Bx → Option (Sv × Bx)
abbrev DT := Sl → Bx → Option (Bool × Bx)
abbrev DA := Sl → Bx → Option (List Sv × Bx)
abbrev DL := Sl → Bx → Option (List PyData × Bx)
def liftE (K : Frg) (C : Fx) (d : DE) : TE := fun σ H Q => ∃ sl B F b r B', Rel K C sl B F b σ H ∧ d sl B = some (r, B') ∧ ∀ v H' F' b', Rel K C sl B' F' b' σ H' → Stp F b H F' b' H' → Rp K F' v r → Q v H'
def liftO (K : Frg) (C : Fx) (d : DE) : TE := fun σ H Q => ∃ sl B F b r B', Rel K C sl B F b σ H ∧ d sl B = some (r, B') ∧ ∀ v H' F' b', Rel K C sl B' F' b' σ H' → Stp F b H F' b' H' → TopR K F' H' b' v r → Q v H'
def liftV (K : Frg) (C : Fx) (d : DV) : TE := fun σ H Q => ∃ sl B F b r B', Rel K C sl B F b σ H ∧ d sl B = some (r, B') ∧ ∀ v H' F' b', Rel K C sl B' F' b' σ H' → Stp F b H F' b' H' → SvR K F' H' b' v r → Q v H'
def liftT (K : Frg) (C : Fx) (d : DT) : TT := fun σ H Q => ∃ sl B F b r B', Rel K C sl B F b σ H ∧ d sl B = some (r, B') ∧ ∀ H' F' b', Rel K C sl B' F' b' σ H' → Stp F b H F' b' H' → Q r H'
def liftA (K : Frg) (C : Fx) (d : DA) : TA := fun σ H Q => ∃ sl B F b r B', Rel K C sl B F b σ H ∧ d sl B = some (r, B') ∧ ∀ v H' F' b', Rel K C sl B' F' b' σ H' → Stp F b H F' b' H' → SvsR K F' H' b' v r → Q v H'
def liftQ (K : Frg) (C : Fx) (d : DL) : TA := fun σ H Q => ∃ sl B F b r B', Rel K C sl B F b σ H ∧ d sl B = some (r, B') ∧ ∀ v H' F' b', Rel K C sl B' F' b' σ H' → Stp F b H F' b' H' → TopRs K F' H' b' v r → Q v H'
/-- deep operands, for a display -/
def liftD (K : Frg) (C : Fx) (d : DL) : TA := fun σ H Q => ∃ sl B F b r B', Rel K C sl B F b σ H ∧ d sl B = some (r, B') ∧ ∀ v H' F' b', Rel K C sl B' F' b' σ H' → Stp F b H F' b' H' → Rps K F' v r → Q v H'
/-- a new list that nobody else holds -/
def liftL (K : Frg) (C : Fx) (d : DL) : TE := fun σ H Q => ∃ sl B F b r B', Rel K C sl B F b σ H ∧ d sl B = some (r, B') ∧ ∀ a vs H' F' b', Rel K C sl B' F' b' σ H' → Stp F b H F' b' H' → H a = none → F' a = none → ¬ inb b' a → H' a = some (.lst vs) → Rps K F' vs r → Q (.ref a) H'

section
variable {X : Cx}
theorem imp_e {e : Expr} {t t' : TE} (h : ∀ σ H Q, t' σ H Q → t σ H Q) (p : PE X e t) : PE X e t' := ⟨fun pins s σ H Q I w => p.run pins s σ H Q I (h σ H Q w)⟩
theorem imp_t {e : Expr} {t t' : TT} (h : ∀ σ H Q, t' σ H Q → t σ H Q) (p : PT X e t) : PT X e t' := ⟨fun pins s σ H Q I w => p.run pins s σ H Q I (h σ H Q w)⟩
theorem imp_w {e : Expr} {t t' : TT} (h : ∀ σ H Q, t' σ H Q → t σ H Q) (p : PW X e t) : PW X e t' := ⟨fun wh pins s σ H Q I w => p.run wh pins s σ H Q I (h σ H Q w)⟩
theorem imp_ts {e : List Expr} {t t' : TT} (h : ∀ σ H Q, t' σ H Q → t σ H Q) (p : PTs X e t) : PTs X e t' := ⟨fun pins s σ H Q I w => p.run pins s σ H Q I (h σ H Q w)⟩
theorem imp_a {es : List Expr} {t t' : TA} (h : ∀ σ H Q, t' σ H Q → t σ H Q) (p : PA X es t) : PA X es t' := ⟨fun pos pins s σ H Q I w => p.run pos pins s σ H Q I (h σ H Q w)⟩
theorem imp_s {e : Stmt} {t t' : TS} (h : ∀ D σ H, t' D σ H → t D σ H) (p : PS X e t) : PS X e t' := ⟨fun pins s σ H D I w => p.run pins s σ H D I (h D σ H w)⟩
theorem imp_ss {e : List Stmt} {t t' : TS} (h : ∀ D σ H, t' D σ H → t D σ H) (p : PSs X e t) : PSs X e t' := ⟨fun pins s σ H D I w => p.run pins s σ H D I (h D σ H w)⟩
theorem imp_g {e : Expr} {t t' : TG} (h : ∀ v σ H Q, t' v σ H Q → t v σ H Q) (p : PG X e t) : PG X e t' := ⟨fun pins s σ H v u Q I r w => p.run pins s σ H v u Q I r (h v σ H Q w)⟩
end
theorem bnd {α β : Type} {o : Option α} {f : α → Option β} {z : β} (h : o.bind f = some z) : ∃ x, o = some x ∧ f x = some z := Option.bind_eq_some_iff.mp h
theorem mpd {α β : Type} {o : Option α} {f : α → β} {z : β} (h : o.map f = some z) : ∃ x, o = some x ∧ f x = z := Option.map_eq_some_iff.mp h

/-! ### names, constants, operands -/
def dVar (i : Nat) : DE := fun sl B => match sl[i]? with
  | some (some (.dat d)) => some (d, B)
  | _ => none
def dVarO (i : Nat) : DE := fun sl B => match sl[i]? with
  | some (some (.dat d)) => some (d, B)
  | some (some (.own xs)) => some (.list xs, B)
  | _ => none
def dVarV (i : Nat) : DV := fun sl B => match sl[i]? with
  | some (some (.own _)) => none
  | some (some s) => some (s, B)
  | _ => none
def dC (d : PyData) : DE := fun _ B => some (d, B)
section
variable {X : Cx} {C : Fx}
theorem e_var (i : Nat) {x : Str} {pos : Pos} (hN : X.N[i]? = some x := by rfl) (hv : Vis X.env.scope x := by first | exact Or.inl rfl | exact Or.inr (Or.inl rfl) | exact Or.inr (Or.inr rfl)) (hd : (x == ("__debug__" : Str)) = false := by decide)
    (hcd : (x == ("__classdict__" : Str)) = false := by decide) : PE X (.Name x pos) (liftE X.K C (dVar i)) :=
  imp_e (fun σ H Q ⟨sl, B, F, b, r, B', R, e, k⟩ => by
    unfold dVar at e
    split at e
    · rename_i d hs
      cases e
      obtain ⟨v, hv, q⟩ := R.slt i _ hs
      exact ⟨v, hv, k v H F b R Stp.refl q⟩
    · cases e) (pe_var hN hv hd hcd)
theorem o_var (i : Nat) {x : Str} {pos : Pos} (hN : X.N[i]? = some x := by rfl) (hv : Vis X.env.scope x := by first | exact Or.inl rfl | exact Or.inr (Or.inl rfl) | exact Or.inr (Or.inr rfl)) (hd : (x == ("__debug__" : Str)) = false := by decide)
    (hcd : (x == ("__classdict__" : Str)) = false := by decide) : PE X (.Name x pos) (liftO X.K C (dVarO i)) :=
  imp_e (fun σ H Q ⟨sl, B, F, b, r, B', R, e, k⟩ => by
    unfold dVarO at e
    split at e
    · rename_i d hs
      cases e
      obtain ⟨v, hv, q⟩ := R.slt i _ hs
      exact ⟨v, hv, k v H F b R Stp.refl (TopR.of R.fro R.bx q)⟩
    · rename_i xs hs
      cases e
      obtain ⟨v, hv, a, vs, e1, h1, h2, h3, h4⟩ := R.slt i _ hs
      exact ⟨v, hv, k v H F b R Stp.refl ⟨a, vs, e1, h1, h4, h2⟩⟩
    · cases e) (pe_var hN hv hd hcd)
theorem v_var (i : Nat) {x : Str} {pos : Pos} (hN : X.N[i]? = some x := by rfl) (hv : Vis X.env.scope x := by first | exact Or.inl rfl | exact Or.inr (Or.inl rfl) | exact Or.inr (Or.inr rfl)) (hd : (x == ("__debug__" : Str)) = false := by decide)
    (hcd : (x == ("__classdict__" : Str)) = false := by decide) : PE X (.Name x pos) (liftV X.K C (dVarV i)) :=
  imp_e (fun σ H Q ⟨sl, B, F, b, r, B', R, e, k⟩ => by
    unfold dVarV at e
    split at e
    · cases e
    · rename_i s hn hs
      cases e
      obtain ⟨v, hv, q⟩ := R.slt i _ hs
      exact ⟨v, hv, k v H F b R Stp.refl q⟩
    · cases e) (pe_var hN hv hd hcd)
theorem c_of {e : Expr} {v : V} {d : PyData} (h : PE X e (tC v)) (r : ∀ F, Rp X.K F v d) : PE X e (liftE X.K C (dC d)) :=
  imp_e (fun σ H Q ⟨sl, B, F, b, rr, B', R, e, k⟩ => by
    cases e
    exact k v H F b R Stp.refl (r F)) h
theorem e_int {i j pos} : PE X (.Constant (.int i) j pos) (liftE X.K C (dC (.int i))) := c_of pe_int fun _ => .int i
theorem e_bl {i j pos} : PE X (.Constant (.bool i) j pos) (liftE X.K C (dC (.bool i))) := c_of pe_bl fun _ => .bl i
theorem e_non {j pos} : PE X (.Constant .none j pos) (liftE X.K C (dC .none)) := c_of pe_non fun _ => .non
theorem e_str {x j pos} : PE X (.Constant (.str x) j pos) (liftE X.K C (dC (.str x))) := c_of pe_str fun _ => .str x
/-- a module's constant -/
theorem e_glob {x : Str} {v : V} {u : Value} {d : PyData} {pos : Pos} (hm : X.mg x = some u) (r : RelV v u) (q : ∀ F, Rp X.K F v d) (hg : Gl X x := by rfl) (hd : (x == ("__debug__" : Str)) = false := by decide) : PE X (.Name x pos) (liftE X.K C (dC d)) :=
  c_of (pe_glob hg hm r hd) q
/-- a value as an operand, as an argument -/
theorem o_of {e : Expr} {d : DE} (h : PE X e (liftE X.K C d)) : PE X e (liftO X.K C d) :=
  imp_e (fun σ H Q ⟨sl, B, F, b, r, B', R, e, k⟩ => ⟨sl, B, F, b, r, B', R, e, fun v H' F' b' R' S' q => k v H' F' b' R' S' (TopR.of R'.fro R'.bx q)⟩) h
def dV (d : DE) : DV := fun sl B => (d sl B).map fun p => (.dat p.1, p.2)
theorem v_of {e : Expr} {d : DE} (h : PE X e (liftE X.K C d)) : PE X e (liftV X.K C (dV d)) :=
  imp_e (fun σ H Q ⟨sl, B, F, b, r, B', R, e, k⟩ => by
    obtain ⟨⟨x, B1⟩, e1, e2⟩ := mpd e
    cases e2
    exact ⟨sl, B, F, b, x, B1, R, e1, fun v H' F' b' R' S' q => k v H' F' b' R' S' q⟩) h
/-- a new list, frozen -/
def dF (d : DL) : DE := fun sl B => (d sl B).map fun p => (.list p.1, p.2)
theorem Rel.freeze {K : Frg} {C : Fx} {sl : Sl} {B B' : Bx} {F F' H H' : Hp} {b b' : Bad} {σ : L2.St} {a : Addr} {vs : List V} (R : Rel K C sl B F b σ H) (R' : Rel K C sl B' F' b' σ H') (S : Stp F b H F' b' H') (h0 : H a = none) (h1 : F' a = none) (h2 : ¬ inb b' a) (h3 : H' a = some (.lst vs)) :
    Rel K C sl B' (upd F' a (.lst vs)) b' σ H' ∧ Stp F b H (upd F' a (.lst vs)) b' H' := by
  have ex : Ext F' (upd F' a (.lst vs)) := Ext.new h1
  have S' : Stp F b H (upd F' a (.lst vs)) b' H' :=
    ⟨S.ex.trans ex, S.pr, fun c hc hn => by
      rw [upd_ne (fun z => by subst z; exact hc h0)]
      exact S.ko c hc hn, S.bb, S.nb, S.tr⟩
  refine ⟨R.step S' (fun c o hc => ?_) ⟨fun p e => ?_, R'.bx.liv⟩, S'⟩
  · by_cases z : c = a
    · subst z; rw [upd_same] at hc; rw [h3]; exact hc
    · rw [upd_ne z] at hc; exact R'.fro c o hc
  · obtain ⟨k1, k2, k3, k4, k5⟩ := R'.bx.at_ p e
    exact ⟨k1, k2, by rw [upd_ne (fun z => h2 ⟨p, e, .inl z.symm⟩)]; exact k3, by rw [upd_ne (fun z => h2 ⟨p, e, .inr z.symm⟩)]; exact k4, k5⟩
theorem f_of {e : Expr} {d : DL} (h : PE X e (liftL X.K C d)) : PE X e (liftE X.K C (dF d)) :=
  imp_e (fun σ H Q ⟨sl, B, F, b, r, B', R, e, k⟩ => by
    obtain ⟨⟨xs, B1⟩, e1, e2⟩ := mpd e
    cases e2
    refine ⟨sl, B, F, b, xs, B1, R, e1, fun a vs H' F' b' R' S' h0 h1 h2 h3 h4 => ?_⟩
    obtain ⟨R2, S2⟩ := R.freeze R' S' h0 h1 h2 h3
    exact k _ _ _ _ R2 S2 (.lst upd_same (Rps.mono (Ext.new h1) h4))) h
end

/-! ### two operands -/
def dOp (f : PyData → PyData → Option PyData) (da db : DE) : DE := fun sl B => (da sl B).bind fun p => (db sl p.2).bind fun q => (f p.1 q.1).map fun z => (z, q.2)
def dTst (f : PyData → PyData → Option Bool) (da db : DE) : DT := fun sl B => (da sl B).bind fun p => (db sl p.2).bind fun q => (f p.1 q.1).map fun z => (z, q.2)
def dOpB (f : PyData → PyData → Option Bool) (da db : DE) : DE := fun sl B => (da sl B).bind fun p => (db sl p.2).bind fun q => (f p.1 q.1).map fun z => (.bool z, q.2)
theorem two_o {K : Frg} {C : Fx} {sl : Sl} {B B1 B2 : Bx} {F H : Hp} {b : Bad} {σ : L2.St} {da db : DE} {x y : PyData} {Q : V → V → Hp → Prop} (R : Rel K C sl B F b σ H) (ea : da sl B = some (x, B1)) (eb : db sl B1 = some (y, B2))
    (k : ∀ v u H' F' b', Rel K C sl B2 F' b' σ H' → Stp F b H F' b' H' → TopR K F' H' b' v x → TopR K F' H' b' u y → Q v u H') : liftO K C da σ H fun v H1 => liftO K C db σ H1 fun u H2 => Q v u H2 :=
  ⟨sl, B, F, b, x, B1, R, ea, fun v H1 F1 b1 R1 S1 q1 => ⟨sl, B1, F1, b1, y, B2, R1, eb, fun u H2 F2 b2 R2 S2 q2 => k v u H2 F2 b2 R2 (S1.trans S2) (q1.mono S2) q2⟩⟩
/-- by values: an operator that gives data | a truth value -/
def ROp (K : Frg) (r : R2) (f : PyData → PyData → Option PyData) : Prop := ∀ x y z, f x y = some z → ∀ (F H : Hp) (b : Bad) (v u : V) (Q : VK), Ext F H → TopR K F H b v x → TopR K F H b u y → (∀ w F' H', Al F H F' H' → Rp K F' w z → Q w H') → r v u H Q
def RTs (K : Frg) (r : R2) (f : PyData → PyData → Option Bool) : Prop := ∀ x y z, f x y = some z → ∀ (F H : Hp) (b : Bad) (v u : V) (Q : VK), Ext F H → TopR K F H b v x → TopR K F H b u y → Q (.bl z) H → r v u H Q
section
variable {X : Cx} {C : Fx} {a c : Expr} {da db : DE} {pos : Pos}
theorem op_imp {r : R2} {f : PyData → PyData → Option PyData} (hr : ROp X.K r f) : ∀ σ H Q, liftE X.K C (dOp f da db) σ H Q → tOp r (liftO X.K C da) (liftO X.K C db) σ H Q :=
  fun σ H Q ⟨sl, B, F, b, rr, B', R, e, k⟩ => by
    obtain ⟨⟨x, B1⟩, e1, e⟩ := bnd e
    obtain ⟨⟨y, B2⟩, e2, e⟩ := bnd e
    obtain ⟨z, e3, e⟩ := mpd e
    cases e
    refine two_o R e1 e2 fun v u H' F' b' R' S' qx qy => ?_
    refine hr x y _ e3 F' H' b' v u Q R'.fro qx qy fun w F2 H2 al rp => ?_
    obtain ⟨R2, S2⟩ := al.rel R'
    exact k w H2 F2 b' R2 (S'.trans S2) rp
theorem ts_imp {r : R2} {f : PyData → PyData → Option Bool} (hr : RTs X.K r f) : ∀ σ H Q, liftT X.K C (dTst f da db) σ H Q → tTest (tOp r (liftO X.K C da) (liftO X.K C db)) σ H Q :=
  fun σ H Q ⟨sl, B, F, b, rr, B', R, e, k⟩ => by
    obtain ⟨⟨x, B1⟩, e1, e⟩ := bnd e
    obtain ⟨⟨y, B2⟩, e2, e⟩ := bnd e
    obtain ⟨z, e3, e⟩ := mpd e
    cases e
    refine two_o R e1 e2 fun v u H' F' b' R' S' qx qy => ?_
    exact hr x y _ e3 F' H' b' v u _ R'.fro qx qy ⟨_, rfl, k H' F' b' R' S'⟩
theorem tb_imp {r : R2} {f : PyData → PyData → Option Bool} (hr : RTs X.K r f) : ∀ σ H Q, liftE X.K C (dOpB f da db) σ H Q → tOp r (liftO X.K C da) (liftO X.K C db) σ H Q :=
  fun σ H Q ⟨sl, B, F, b, rr, B', R, e, k⟩ => by
    obtain ⟨⟨x, B1⟩, e1, e⟩ := bnd e
    obtain ⟨⟨y, B2⟩, e2, e⟩ := bnd e
    obtain ⟨z, e3, e⟩ := mpd e
    cases e
    refine two_o R e1 e2 fun v u H' F' b' R' S' qx qy => ?_
    exact hr x y _ e3 F' H' b' v u _ R'.fro qx qy (k _ H' F' b' R' S' (.bl _))
theorem e_op {op : Operator} {r : R2} {f : PyData → PyData → Option PyData} (ho : OpR X (binaryOp op) r) (hr : ROp X.K r f) (ha : PE X a (liftO X.K C da)) (hb : PE X c (liftO X.K C db)) : PE X (.BinOp a op c pos) (liftE X.K C (dOp f da db)) :=
  imp_e (op_imp hr) (pe_op ho ha hb)
theorem t_cmp {op : CmpOp} {r : R2} {f : PyData → PyData → Option Bool} (ho : OpR X (compareOp op) r) (hr : RTs X.K r f) (hm : behindInMarks op c = false) (ha : PE X a (liftO X.K C da)) (hb : PE X c (liftO X.K C db)) : PT X (.Compare a [op] [c] pos) (liftT X.K C (dTst f da db)) :=
  imp_t (ts_imp hr) (pt_cmpR ho ha hb hm)
theorem e_cmp {op : CmpOp} {r : R2} {f : PyData → PyData → Option Bool} (ho : OpR X (compareOp op) r) (hr : RTs X.K r f) (hm : behindInMarks op c = false) (ha : PE X a (liftO X.K C da)) (hb : PE X c (liftO X.K C db)) : PE X (.Compare a [op] [c] pos) (liftE X.K C (dOpB f da db)) :=
  imp_e (tb_imp hr) (pe_cmpR ho ha hb hm)
end

/-! ### the operators by values -/
def mulOk (i j : Int) : Bool := decide ((-(2 ^ 64) < i ∧ i < 2 ^ 64) ∨ (-(2 ^ 64) < j ∧ j < 2 ^ 64)) || decide (i.natAbs.log2 + j.natAbs.log2 < 1000000)
def pyAdd : PyData → PyData → Option PyData
  | .int i, .int j => some (.int (i + j))
  | .str x, .str y => if x.length + y.length ≤ sizeLine then some (.str (x ++ y)) else none
  | .list xs, .list ys => if xs.length + ys.length ≤ sizeLine then some (.list (xs ++ ys)) else none
  | .tuple xs, .tuple ys => if xs.length + ys.length ≤ sizeLine then some (.tuple (xs ++ ys)) else none
  | _, _ => none
def pySub : PyData → PyData → Option PyData
  | .int i, .int j => some (.int (i - j))
  | _, _ => none
def pyMul : PyData → PyData → Option PyData
  | .int i, .int j => if mulOk i j then some (.int (i * j)) else none
  | _, _ => none
def pyDiv : PyData → PyData → Option PyData
  | .int i, .int j => if 0 < j ∧ j.natAbs.log2 < 9000 then some (.int (i / j)) else none
  | _, _ => none
def pyMod : PyData → PyData → Option PyData
  | .int i, .int j => if 0 < j then some (.int (i % j)) else none
  | _, _ => none
def pyPow : PyData → PyData → Option PyData
  | .int i, .int j => if 0 ≤ j ∧ j ≤ 1000000 ∧ i.natAbs < 2 ^ 64 then some (.int (i ^ j.toNat)) else none
  | _, _ => none
def pyShl : PyData → PyData → Option PyData
  | .int i, .int j => if 0 ≤ j ∧ j ≤ 1000000 ∧ i.natAbs < 2 ^ 64 then some (.int (i * 2 ^ j.toNat)) else none
  | _, _ => none
def pyShr : PyData → PyData → Option PyData
  | .int i, .int j => if 0 ≤ j then some (.int (i / 2 ^ j.toNat)) else none
  | _, _ => none
def pyAnd : PyData → PyData → Option PyData
  | .int i, .int j => some (.int (Builtin.bitAnd i j))
  | _, _ => none
section
variable {X : Cx}
def rMulA : R2 := fun x y H Q => rI CMul (fun i j => .int (i * j)) x y H Q ∨ rI CMulW (fun i j => .int (i * j)) x y H Q
theorem op_mulA : OpR X (binaryOp .Mult) rMulA := op_mul.or op_mulW
theorem r_mul : ROp X.K rMulA pyMul := fun x y z e F H b v u Q fr qx qy k => by
  unfold pyMul at e
  split at e
  · rename_i i j
    have ex := top_int qx
    have ey := top_int qy
    split at e
    · rename_i hc
      cases e
      unfold mulOk at hc
      rw [Bool.or_eq_true, decide_eq_true_eq, decide_eq_true_eq] at hc
      have q : Q (.int (i * j)) H := k _ _ _ .refl (.int _)
      rcases hc with hc | hc
      · exact .inl ⟨i, j, ex, ey, hc, q⟩
      · exact .inr ⟨i, j, ex, ey, hc, q⟩
    · cases e
  · cases e
theorem r_int0 {g : Int → Int → Int} {f : PyData → PyData → Option PyData} (hf : ∀ x y z, f x y = some z → ∃ i j, x = .int i ∧ y = .int j ∧ z = .int (g i j)) : ROp X.K (rI0 fun i j => .int (g i j)) f := fun x y z e F H b v u Q fr qx qy k => by
  obtain ⟨i, j, rfl, rfl, rfl⟩ := hf x y z e
  exact ⟨i, j, top_int qx, top_int qy, k _ _ _ .refl (.int _)⟩
theorem r_intC {Cc : Int → Int → Prop} {g : Int → Int → Int} {f : PyData → PyData → Option PyData} (hf : ∀ x y z, f x y = some z → ∃ i j, x = .int i ∧ y = .int j ∧ Cc i j ∧ z = .int (g i j)) : ROp X.K (rI Cc fun i j => .int (g i j)) f := fun x y z e F H b v u Q fr qx qy k => by
  obtain ⟨i, j, rfl, rfl, hc, rfl⟩ := hf x y z e
  exact ⟨i, j, top_int qx, top_int qy, hc, k _ _ _ .refl (.int _)⟩
theorem r_sub : ROp X.K (rI0 fun i j => .int (i - j)) pySub := r_int0 fun x y z e => by
  unfold pySub at e
  split at e
  · cases e; exact ⟨_, _, rfl, rfl, rfl⟩
  · cases e
theorem r_and : ROp X.K (rI0 fun i j => .int (Builtin.bitAnd i j)) pyAnd := r_int0 fun x y z e => by
  unfold pyAnd at e
  split at e
  · cases e; exact ⟨_, _, rfl, rfl, rfl⟩
  · cases e
theorem r_div : ROp X.K (rI CDivW fun i j => .int (i / j)) pyDiv := r_intC fun x y z e => by
  unfold pyDiv at e
  split at e
  · split at e
    · rename_i h
      cases e; exact ⟨_, _, rfl, rfl, h, rfl⟩
    · cases e
  · cases e
theorem r_mod : ROp X.K (rI (fun _ j => 0 < j) fun i j => .int (i % j)) pyMod := r_intC fun x y z e => by
  unfold pyMod at e
  split at e
  · split at e
    · rename_i h
      cases e; exact ⟨_, _, rfl, rfl, h, rfl⟩
    · cases e
  · cases e
theorem r_pow : ROp X.K (rI CPow fun i j => .int (i ^ j.toNat)) pyPow := r_intC fun x y z e => by
  unfold pyPow at e
  split at e
  · split at e
    · rename_i h
      cases e; exact ⟨_, _, rfl, rfl, h, rfl⟩
    · cases e
  · cases e
theorem r_shl : ROp X.K (rI CPow fun i j => .int (i * 2 ^ j.toNat)) pyShl := r_intC fun x y z e => by
  unfold pyShl at e
  split at e
  · split at e
    · rename_i h
      cases e; exact ⟨_, _, rfl, rfl, h, rfl⟩
    · cases e
  · cases e
theorem r_shr : ROp X.K (rI (fun _ j => 0 ≤ j) fun i j => .int (i / 2 ^ j.toNat)) pyShr := r_intC fun x y z e => by
  unfold pyShr at e
  split at e
  · split at e
    · rename_i h
      cases e; exact ⟨_, _, rfl, rfl, h, rfl⟩
    · cases e
  · cases e
def rAddA (K : Frg) : R2 := fun x y H Q => (rI0 (fun i j => .int (i + j)) x y H Q ∨ (∃ i j, x = .str i ∧ y = .str j ∧ i.length + j.length ≤ sizeLine ∧ Q (.str (i ++ j)) H)) ∨ (rCat x y H Q ∨ rCatA K x y H Q)
theorem op_addA : OpR X (binaryOp .Add) (rAddA X.K) := (op_add.or op_add_str).or (op_cat.or op_catA)
theorem r_add : ROp X.K (rAddA X.K) pyAdd := fun x y z e F H b v u Q fr qx qy k => by
  unfold pyAdd at e
  split at e
  · cases e
    exact .inl (.inl ⟨_, _, top_int qx, top_int qy, k _ _ _ .refl (.int _)⟩)
  · split at e
    · rename_i h
      cases e
      exact .inl (.inr ⟨_, _, top_str qx, top_str qy, h, k _ _ _ .refl (.str _)⟩)
    · cases e
  · split at e
    · rename_i h
      cases e
      obtain ⟨p, vs, e1, h1, _, r1⟩ := qx
      obtain ⟨q, us, e2, h2, _, r2⟩ := qy
      refine .inr (.inl ⟨p, q, vs, us, e1, e2, h1, h2, by rw [r1.length, r2.length]; exact h, fun n hn => ?_⟩)
      exact k _ _ _ (.one hn) (.lst upd_same (Rps.mono (Ext.new (not_in_F fr hn)) (Rps.append r1 r2)))
    · cases e
  · split at e
    · rename_i h
      cases e
      obtain ⟨p, vs, e1, h1, r1⟩ := top_tup fr qx
      obtain ⟨q, us, e2, h2, r2⟩ := top_tup fr qy
      have ln1 := r1.length
      have ln2 := r2.length
      refine .inr (.inr ⟨p, q, vs, us, e1, e2, h1, h2, by rw [r1.length, r2.length]; exact h, fun z => ?_, fun _ z => ?_, fun _ _ n hn => ?_⟩)
      · subst z
        cases r1
        rw [← e2]
        exact k _ _ _ .refl qy
      · subst z
        cases r2
        rw [← e1]
        refine k _ _ _ .refl ?_
        rw [List.append_nil]
        exact qx
      · exact k _ _ _ (.one hn) (.tup (SqT.of upd_same) (Rps.mono (Ext.new (not_in_F fr hn)) (Rps.append r1 r2)))
    · cases e
  · cases e
end
end Dn

set_option Elab.async false
set_option linter.all false
set_option autoImplicit false
set_option maxRecDepth 100000
set_option maxHeartbeats 1000000
namespace Dn
open PySem PySem.Spec PyProof.Rows L2

/-! ### comparisons -/
def pyEq (x y : PyData) : Option Bool := if SeqAt.shaped x = true ∧ SeqAt.shaped y = true then some (PyData.eqv x y) else none
def pyNe (x y : PyData) : Option Bool := if SeqAt.shaped x = true ∧ SeqAt.shaped y = true then some (!PyData.eqv x y) else none
def pyLt : PyData → PyData → Option Bool
  | .int i, .int j => some (decide (i < j))
  | _, _ => none
def pyLe : PyData → PyData → Option Bool
  | .int i, .int j => some (decide (i ≤ j))
  | _, _ => none
def pyGt : PyData → PyData → Option Bool
  | .int i, .int j => some (decide (j < i))
  | _, _ => none
def pyGe : PyData → PyData → Option Bool
  | .int i, .int j => some (decide (j ≤ i))
  | _, _ => none
def isNon : PyData → Bool
  | .none => true
  | _ => false
def pyIs : PyData → PyData → Option Bool
  | x, .none => some (isNon x)
  | .bool a, .bool b => some (decide (a = b))
  | _, _ => none
def pyIsNot : PyData → PyData → Option Bool
  | x, .none => some (!isNon x)
  | .bool a, .bool b => some (!decide (a = b))
  | _, _ => none
theorem isNon_top {K : Frg} {F H : Hp} {b : Bad} {v : V} {d : PyData} (h : TopR K F H b v d) : decide (v = .non) = isNon d := by
  cases d with
  | none => rw [top_none h]; rfl
  | bool _ => rw [top_bool h]; rfl
  | int _ => rw [top_int h]; rfl
  | str _ => rw [top_str h]; rfl
  | list _ =>
    obtain ⟨a, vs, e, _⟩ := h
    rw [e]; rfl
  | tuple _ =>
    have h' : Rp K F v (.tuple _) := h
    cases h'; rfl
  | dict _ =>
    have h' : Rp K F v (.dict _) := h
    cases h'
section
variable {X : Cx}
theorem r_eq : RTs X.K (rEqD X.K) pyEq := fun x y z e F H b v u Q fr qx qy k => by
  unfold pyEq at e
  split at e
  · rename_i h
    cases e
    exact ⟨x, y, qx.dp fr, qy.dp fr, h.1, h.2, k⟩
  · cases e
theorem r_ne : RTs X.K (rNeD X.K) pyNe := fun x y z e F H b v u Q fr qx qy k => by
  unfold pyNe at e
  split at e
  · rename_i h
    cases e
    exact ⟨x, y, qx.dp fr, qy.dp fr, h.1, h.2, k⟩
  · cases e
theorem r_cmpI {g : Int → Int → Bool} {f : PyData → PyData → Option Bool} (hf : ∀ x y z, f x y = some z → ∃ i j, x = .int i ∧ y = .int j ∧ z = g i j) : RTs X.K (rI0 fun i j => .bl (g i j)) f := fun x y z e F H b v u Q fr qx qy k => by
  obtain ⟨i, j, rfl, rfl, rfl⟩ := hf x y z e
  exact ⟨i, j, top_int qx, top_int qy, k⟩
theorem r_lt : RTs X.K (rI0 fun i j => .bl (decide (i < j))) pyLt := r_cmpI (g := fun i j => decide (i < j)) fun x y z e => by
  unfold pyLt at e
  split at e
  · cases e; exact ⟨_, _, rfl, rfl, rfl⟩
  · cases e
theorem r_le : RTs X.K (rI0 fun i j => .bl (decide (i ≤ j))) pyLe := r_cmpI (g := fun i j => decide (i ≤ j)) fun x y z e => by
  unfold pyLe at e
  split at e
  · cases e; exact ⟨_, _, rfl, rfl, rfl⟩
  · cases e
theorem r_gt : RTs X.K (rI0 fun i j => .bl (decide (j < i))) pyGt := r_cmpI (g := fun i j => decide (j < i)) fun x y z e => by
  unfold pyGt at e
  split at e
  · cases e; exact ⟨_, _, rfl, rfl, rfl⟩
  · cases e
theorem r_ge : RTs X.K (rI0 fun i j => .bl (decide (j ≤ i))) pyGe := r_cmpI (g := fun i j => decide (j ≤ i)) fun x y z e => by
  unfold pyGe at e
  split at e
  · cases e; exact ⟨_, _, rfl, rfl, rfl⟩
  · cases e
def rIsA : R2 := fun x y H Q => (y = .non ∧ Q (.bl (decide (x = .non))) H) ∨ rIsB x y H Q
def rIsNotA : R2 := fun x y H Q => (y = .non ∧ Q (.bl (!decide (x = .non))) H) ∨ rNotB x y H Q
theorem op_isA : OpR X (compareOp .Is) rIsA := op_isN.or op_isBl
theorem op_isnotA : OpR X (compareOp .IsNot) rIsNotA := op_notN.or op_notBl
theorem r_is : RTs X.K rIsA pyIs := fun x y z e F H b v u Q fr qx qy k => by
  unfold pyIs at e
  split at e
  · cases e
    exact .inl ⟨top_none qy, by rw [isNon_top qx]; exact k⟩
  · cases e
    exact .inr ⟨_, _, top_bool qx, top_bool qy, k⟩
  · cases e
theorem r_isnot : RTs X.K rIsNotA pyIsNot := fun x y z e F H b v u Q fr qx qy k => by
  unfold pyIsNot at e
  split at e
  · cases e
    exact .inl ⟨top_none qy, by rw [isNon_top qx]; exact k⟩
  · cases e
    exact .inr ⟨_, _, top_bool qx, top_bool qy, k⟩
  · cases e
end

/-! ### one operand -/
def dNeg (da : DE) : DE := fun sl B => (da sl B).bind fun p => match p.1 with
  | .int i => some (.int (-i), p.2)
  | _ => none
section
variable {X : Cx} {C : Fx} {a c : Expr} {da db : DE} {ta tb : DT} {pos : Pos} {rest : List Expr}
theorem e_neg (ha : PE X a (liftE X.K C da)) : PE X (.UnaryOp .USub a pos) (liftE X.K C (dNeg da)) :=
  imp_e (fun σ H Q ⟨sl, B, F, b, rr, B', R, e, k⟩ => by
    obtain ⟨⟨x, B1⟩, e1, e⟩ := bnd e
    split at e
    · rename_i i hi
      cases e
      refine ⟨sl, B, F, b, x, B1, R, e1, fun v H' F' b' R' S' q => ?_⟩
      have hi' : x = .int i := hi
      subst hi'
      cases q
      exact ⟨i, rfl, k _ H' F' b' R' S' (.int _)⟩
    · cases e) (pe_un un_neg ha)

/-! ### tests -/
def dAndT (t u : DT) : DT := fun sl B => (t sl B).bind fun p => if p.1 = true then u sl p.2 else some (false, p.2)
def dOrT (t u : DT) : DT := fun sl B => (t sl B).bind fun p => if p.1 = true then some (true, p.2) else u sl p.2
def dNotT (t : DT) : DT := fun sl B => (t sl B).map fun p => (!p.1, p.2)
def dTV (d : DE) : DT := fun sl B => (d sl B).bind fun p => match p.1 with
  | .bool k => some (k, p.2)
  | _ => none
theorem w_and1 (ha : PT X a (liftT X.K C ta)) : PW X (.BoolOp .And [a] pos) (liftT X.K C ta) := pw_and1 ha
theorem w_or1 (ha : PT X a (liftT X.K C ta)) : PW X (.BoolOp .Or [a] pos) (liftT X.K C ta) := pw_or1 ha
theorem w_and (ha : PT X a (liftT X.K C ta)) (hb : PW X (.BoolOp .And (c :: rest) pos) (liftT X.K C tb)) : PW X (.BoolOp .And (a :: c :: rest) pos) (liftT X.K C (dAndT ta tb)) :=
  imp_w (fun σ H Q ⟨sl, B, F, b, rr, B', R, e, k⟩ => by
    obtain ⟨⟨x, B1⟩, e1, e⟩ := bnd e
    refine ⟨sl, B, F, b, x, B1, R, e1, fun H1 F1 b1 R1 S1 => ?_⟩
    cases x with
    | true => exact iteT ⟨sl, B1, F1, b1, rr, B', R1, e, fun H2 F2 b2 R2 S2 => k H2 F2 b2 R2 (S1.trans S2)⟩
    | false =>
      cases e
      exact iteF (k H1 F1 b1 R1 S1)) (pw_and ha hb)
theorem w_or (ha : PT X a (liftT X.K C ta)) (hb : PW X (.BoolOp .Or (c :: rest) pos) (liftT X.K C tb)) : PW X (.BoolOp .Or (a :: c :: rest) pos) (liftT X.K C (dOrT ta tb)) :=
  imp_w (fun σ H Q ⟨sl, B, F, b, rr, B', R, e, k⟩ => by
    obtain ⟨⟨x, B1⟩, e1, e⟩ := bnd e
    refine ⟨sl, B, F, b, x, B1, R, e1, fun H1 F1 b1 R1 S1 => ?_⟩
    cases x with
    | false => exact iteF ⟨sl, B1, F1, b1, rr, B', R1, e, fun H2 F2 b2 R2 S2 => k H2 F2 b2 R2 (S1.trans S2)⟩
    | true =>
      cases e
      exact iteT (k H1 F1 b1 R1 S1)) (pw_or ha hb)
theorem t_not (ha : PT X a (liftT X.K C ta)) : PT X (.UnaryOp .Not a pos) (liftT X.K C (dNotT ta)) :=
  imp_t (fun σ H Q ⟨sl, B, F, b, rr, B', R, e, k⟩ => by
    obtain ⟨⟨x, B1⟩, e1, e⟩ := mpd e
    cases e
    exact ⟨sl, B, F, b, x, B1, R, e1, fun H1 F1 b1 R1 S1 => k H1 F1 b1 R1 S1⟩) (pt_not ha)
theorem t_val (h : PE X a (liftE X.K C da)) (he : ∀ whole, isTrue a X.env whole = (do let v ← whole; standAt a.pos; holding [v] (truthy v)) := by intro _; rfl) : PT X a (liftT X.K C (dTV da)) :=
  imp_t (fun σ H Q ⟨sl, B, F, b, rr, B', R, e, k⟩ => by
    obtain ⟨⟨x, B1⟩, e1, e⟩ := bnd e
    split at e
    · rename_i i hi
      cases e
      refine ⟨sl, B, F, b, x, B1, R, e1, fun v H' F' b' R' S' q => ?_⟩
      have hi' : x = .bool _ := hi
      subst hi'
      cases q
      exact ⟨_, rfl, k H' F' b' R' S'⟩
    · cases e) (pt_val h he)
/-- truth of any value -/
def truD : PyData → Option Bool
  | .none => some false
  | .bool b => some b
  | .int i => some (i != 0)
  | .str x => if x.length ≤ sizeLine then some ((x.length : Int) != 0) else none
  | .list xs => some (!xs.isEmpty)
  | .tuple xs => some (!xs.isEmpty)
  | .dict _ => none
def dTru (d : DE) : DT := fun sl B => (d sl B).bind fun p => (truD p.1).map fun k => (k, p.2)
theorem tru_top {K : Frg} {F H : Hp} {b : Bad} {v : V} {d : PyData} {k : Bool} (fr : Ext F H) (h : TopR K F H b v d) (e : truD d = some k) : TruV K v H k := by
  cases d with
  | none => rw [top_none h]; cases e; rfl
  | bool _ => rw [top_bool h]; cases e; rfl
  | int _ => rw [top_int h]; cases e; rfl
  | str x =>
    rw [top_str h]
    unfold truD at e
    simp only at e
    split at e
    · rename_i hz
      cases e
      exact ⟨hz, rfl⟩
    · cases e
  | list xs =>
    obtain ⟨a, vs, e1, h1, _, h2⟩ := h
    cases e
    rw [e1]
    refine .inl ⟨vs, SqL.of h1, ?_⟩
    cases h2 <;> rfl
  | tuple xs =>
    obtain ⟨a, vs, e1, h1, h2⟩ := top_tup fr h
    cases e
    rw [e1]
    refine .inr (.inl ⟨vs, h1, ?_⟩)
    cases h2 <;> rfl
  | dict _ => cases e
theorem t_tru (h : PE X a (liftO X.K C da)) (he : ∀ whole, isTrue a X.env whole = (do let v ← whole; standAt a.pos; holding [v] (truthy v)) := by intro _; rfl) : PT X a (liftT X.K C (dTru da)) :=
  imp_t (fun σ H Q ⟨sl, B, F, b, rr, B', R, e, k⟩ => by
    obtain ⟨⟨x, B1⟩, e1, e⟩ := bnd e
    obtain ⟨z, e2, e⟩ := mpd e
    cases e
    exact ⟨sl, B, F, b, x, B1, R, e1, fun v H' F' b' R' S' q => ⟨_, tru_top R'.fro q e2, k H' F' b' R' S'⟩⟩) (pt_truth h he)
/-! ### and, or, not as values -/
def dAndV (da db : DE) : DE := fun sl B => (da sl B).bind fun p => match p.1 with
  | .bool k => if k = true then db sl p.2 else some (.bool false, p.2)
  | _ => none
def dOrV (da db : DE) : DE := fun sl B => (da sl B).bind fun p => match p.1 with
  | .bool k => if k = true then some (.bool true, p.2) else db sl p.2
  | _ => none
def dNotV (da : DE) : DE := fun sl B => (da sl B).bind fun p => match p.1 with
  | .bool k => some (.bool (!k), p.2)
  | _ => none
theorem e_one {op} (h : PE X a (liftE X.K C da)) : PE X (.BoolOp op [a] pos) (liftE X.K C da) := pe_one h
theorem e_and (ha : PE X a (liftE X.K C da)) (hb : PE X (.BoolOp .And (c :: rest) pos) (liftE X.K C db)) : PE X (.BoolOp .And (a :: c :: rest) pos) (liftE X.K C (dAndV da db)) :=
  imp_e (fun σ H Q ⟨sl, B, F, b, rr, B', R, e, k⟩ => by
    obtain ⟨⟨x, B1⟩, e1, e⟩ := bnd e
    split at e
    · rename_i i hi
      refine ⟨sl, B, F, b, x, B1, R, e1, fun v H1 F1 b1 R1 S1 q => ?_⟩
      have hi' : x = .bool i := hi
      subst hi'
      cases q
      refine ⟨i, rfl, ?_⟩
      cases i with
      | true => exact iteT ⟨sl, B1, F1, b1, rr, B', R1, e, fun v H2 F2 b2 R2 S2 => k v H2 F2 b2 R2 (S1.trans S2)⟩
      | false =>
        cases e
        exact iteF (k _ H1 F1 b1 R1 S1 (.bl false))
    · cases e) (pe_and ha hb)
theorem e_or (ha : PE X a (liftE X.K C da)) (hb : PE X (.BoolOp .Or (c :: rest) pos) (liftE X.K C db)) : PE X (.BoolOp .Or (a :: c :: rest) pos) (liftE X.K C (dOrV da db)) :=
  imp_e (fun σ H Q ⟨sl, B, F, b, rr, B', R, e, k⟩ => by
    obtain ⟨⟨x, B1⟩, e1, e⟩ := bnd e
    split at e
    · rename_i i hi
      refine ⟨sl, B, F, b, x, B1, R, e1, fun v H1 F1 b1 R1 S1 q => ?_⟩
      have hi' : x = .bool i := hi
      subst hi'
      cases q
      refine ⟨i, rfl, ?_⟩
      cases i with
      | false => exact iteF ⟨sl, B1, F1, b1, rr, B', R1, e, fun v H2 F2 b2 R2 S2 => k v H2 F2 b2 R2 (S1.trans S2)⟩
      | true =>
        cases e
        exact iteT (k _ H1 F1 b1 R1 S1 (.bl true))
    · cases e) (pe_or ha hb)
theorem e_not (ha : PE X a (liftE X.K C da)) : PE X (.UnaryOp .Not a pos) (liftE X.K C (dNotV da)) :=
  imp_e (fun σ H Q ⟨sl, B, F, b, rr, B', R, e, k⟩ => by
    obtain ⟨⟨x, B1⟩, e1, e⟩ := bnd e
    split at e
    · rename_i i hi
      cases e
      refine ⟨sl, B, F, b, x, B1, R, e1, fun v H1 F1 b1 R1 S1 q => ?_⟩
      have hi' : x = .bool i := hi
      subst hi'
      cases q
      exact ⟨i, rfl, k _ H1 F1 b1 R1 S1 (.bl _)⟩
    · cases e) (pe_not ha)
/-! ### a if t else b -/
def dIf (t : DT) (da db : DE) : DE := fun sl B => (t sl B).bind fun p => if p.1 = true then da sl p.2 else db sl p.2
theorem e_if {t : Expr} (hc : PT X t (liftT X.K C ta)) (ha : PE X a (liftE X.K C da)) (hb : PE X c (liftE X.K C db)) : PE X (.IfExp t a c pos) (liftE X.K C (dIf ta da db)) :=
  imp_e (fun σ H Q ⟨sl, B, F, b, rr, B', R, e, k⟩ => by
    obtain ⟨⟨x, B1⟩, e1, e⟩ := bnd e
    refine ⟨sl, B, F, b, x, B1, R, e1, fun H1 F1 b1 R1 S1 => ?_⟩
    cases x with
    | true => exact iteT ⟨sl, B1, F1, b1, rr, B', R1, e, fun v H2 F2 b2 R2 S2 => k v H2 F2 b2 R2 (S1.trans S2)⟩
    | false => exact iteF ⟨sl, B1, F1, b1, rr, B', R1, e, fun v H2 F2 b2 R2 S2 => k v H2 F2 b2 R2 (S1.trans S2)⟩) (pe_ifExp hc ha hb)
end

/-! ### argument lists -/
def dNil : DL := fun _ B => some ([], B)
def dCons (d : DE) (ds : DL) : DL := fun sl B => (d sl B).bind fun p => (ds sl p.2).map fun q => (p.1 :: q.1, q.2)
def dNilA : DA := fun _ B => some ([], B)
def dConsA (d : DV) (ds : DA) : DA := fun sl B => (d sl B).bind fun p => (ds sl p.2).map fun q => (p.1 :: q.1, q.2)
section
variable {X : Cx} {C : Fx} {e : Expr} {es : List Expr} {d : DE} {ds : DL} {pos : Pos}
theorem d_nil : PA X [] (liftD X.K C dNil) := imp_a (fun σ H Q ⟨sl, B, F, b, rr, B', R, e, k⟩ => by
  cases e
  exact k [] H F b R Stp.refl .nil) pa_nil
theorem d_cons (h : PE X e (liftE X.K C d)) (hr : PA X es (liftD X.K C ds)) (hs : starEach (e :: es) X.env = (false, eval e X.env) :: starEach es X.env := by rfl) : PA X (e :: es) (liftD X.K C (dCons d ds)) :=
  imp_a (fun σ H Q ⟨sl, B, F, b, rr, B', R, e, k⟩ => by
    obtain ⟨⟨x, B1⟩, e1, e⟩ := bnd e
    obtain ⟨⟨xs, B2⟩, e2, e⟩ := mpd e
    cases e
    exact ⟨sl, B, F, b, x, B1, R, e1, fun v H1 F1 b1 R1 S1 q1 => ⟨sl, B1, F1, b1, xs, B2, R1, e2, fun vs H2 F2 b2 R2 S2 q2 => k (v :: vs) H2 F2 b2 R2 (S1.trans S2) (.cons (Rp.mono S2.ex q1) q2)⟩⟩) (pa_cons h hr hs)
theorem q_nil : PA X [] (liftQ X.K C dNil) := imp_a (fun σ H Q ⟨sl, B, F, b, rr, B', R, e, k⟩ => by
  cases e
  exact k [] H F b R Stp.refl .nil) pa_nil
theorem q_cons (h : PE X e (liftO X.K C d)) (hr : PA X es (liftQ X.K C ds)) (hs : starEach (e :: es) X.env = (false, eval e X.env) :: starEach es X.env := by rfl) : PA X (e :: es) (liftQ X.K C (dCons d ds)) :=
  imp_a (fun σ H Q ⟨sl, B, F, b, rr, B', R, e, k⟩ => by
    obtain ⟨⟨x, B1⟩, e1, e⟩ := bnd e
    obtain ⟨⟨xs, B2⟩, e2, e⟩ := mpd e
    cases e
    exact ⟨sl, B, F, b, x, B1, R, e1, fun v H1 F1 b1 R1 S1 q1 => ⟨sl, B1, F1, b1, xs, B2, R1, e2, fun vs H2 F2 b2 R2 S2 q2 => k (v :: vs) H2 F2 b2 R2 (S1.trans S2) (.cons (q1.mono S2) q2)⟩⟩) (pa_cons h hr hs)
theorem a_nil : PA X [] (liftA X.K C dNilA) := imp_a (fun σ H Q ⟨sl, B, F, b, rr, B', R, e, k⟩ => by
  cases e
  exact k [] H F b R Stp.refl .nil) pa_nil
theorem a_cons {d : DV} {ds : DA} (h : PE X e (liftV X.K C d)) (hr : PA X es (liftA X.K C ds)) (hs : starEach (e :: es) X.env = (false, eval e X.env) :: starEach es X.env := by rfl) : PA X (e :: es) (liftA X.K C (dConsA d ds)) :=
  imp_a (fun σ H Q ⟨sl, B, F, b, rr, B', R, e, k⟩ => by
    obtain ⟨⟨x, B1⟩, e1, e⟩ := bnd e
    obtain ⟨⟨xs, B2⟩, e2, e⟩ := mpd e
    cases e
    exact ⟨sl, B, F, b, x, B1, R, e1, fun v H1 F1 b1 R1 S1 q1 => ⟨sl, B1, F1, b1, xs, B2, R1, e2, fun vs H2 F2 b2 R2 S2 q2 => k (v :: vs) H2 F2 b2 R2 (S1.trans S2) (.cons (q1.mono S2) q2)⟩⟩) (pa_cons h hr hs)
/-! ### displays -/
def dTup (d : DL) : DE := fun sl B => (d sl B).bind fun p => if p.1.length ≤ sizeLine then some (.tuple p.1, p.2) else none
def dLst (d : DL) : DL := fun sl B => (d sl B).bind fun p => if p.1.length ≤ sizeLine then some p else none
theorem e_tup {x1} (h : PA X es (liftD X.K C ds)) : PE X (.Tuple es x1 pos) (liftE X.K C (dTup ds)) :=
  imp_e (fun σ H Q ⟨sl, B, F, b, rr, B', R, e, k⟩ => by
    obtain ⟨⟨xs, B1⟩, e1, e⟩ := bnd e
    simp only at e
    split at e
    · rename_i hz
      cases e
      refine ⟨sl, B, F, b, _, _, R, e1, fun vs H1 F1 b1 R1 S1 q1 => ⟨by rw [q1.length]; exact hz, fun p hp => ?_⟩⟩
      obtain ⟨R2, S2⟩ := (Al.one (o := .tup vs) hp).rel R1
      exact k _ _ _ _ R2 (S1.trans S2) (.tup (SqT.of upd_same) (Rps.mono S2.ex q1))
    · cases e) (pe_tup h)
theorem l_lst (h : PA X es (liftD X.K C ds)) : PE X (.List es pos) (liftL X.K C (dLst ds)) :=
  imp_e (fun σ H Q ⟨sl, B, F, b, rr, B', R, e, k⟩ => by
    obtain ⟨⟨xs, B1⟩, e1, e⟩ := bnd e
    simp only at e
    split at e
    · rename_i hz
      cases e
      refine ⟨sl, B, F, b, _, _, R, e1, fun vs H1 F1 b1 R1 S1 q1 => ⟨by rw [q1.length]; exact hz, fun p hp => ?_⟩⟩
      have h0 : H p = none := by
        cases z : H p with
        | none => rfl
        | some o => exact absurd hp (S1.tr p (by rw [z]; exact Option.some_ne_none _))
      exact k p vs _ _ _ (R1.new hp) (S1.trans (Stp.new hp)) h0 (not_in_F R1.fro hp) (R1.nbx hp) upd_same q1
    · cases e) (pe_lst h)
end

/-! ### items and slices -/
def pyIx : PyData → PyData → Option PyData
  | .list xs, .int i => atI xs i
  | .tuple xs, .int i => atI xs i
  | .str z, .int i => if z.length ≤ sizeLine then (atI z.cps.toList i).map fun c => .str ⟨#[c]⟩ else none
  | _, _ => none
theorem atI_rps {K : Frg} {F : Hp} {vs : List V} {ds : List PyData} {i : Int} {d : PyData} (r : Rps K F vs ds) (e : atI ds i = some d) : ∃ v, atI vs i = some v ∧ Rp K F v d := by
  unfold atI at e ⊢
  obtain ⟨j, e1, e2⟩ := bnd e
  obtain ⟨v, h1, h2⟩ := r.get e2
  refine ⟨v, ?_, h2⟩
  rw [r.length, e1]
  exact h1
def cutD (ds : List PyData) (lo hi : Option Int) : List PyData := (ds.drop (HT.sIx ds.length 0 lo)).take (HT.sIx ds.length ds.length hi - HT.sIx ds.length 0 lo)
theorem cut_rps {K : Frg} {F : Hp} {vs : List V} {ds : List PyData} (lo hi : Option Int) (r : Rps K F vs ds) : Rps K F (cutV vs lo hi) (cutD ds lo hi) := by
  unfold cutV cutD
  rw [r.length]
  exact Rps.take _ (Rps.drop _ r)
section
variable {X : Cx} {C : Fx} {a c e : Expr} {da db : DE} {pos p2 : Pos}
theorem r_ix : ROp X.K (rIx X.K) pyIx := fun x y z e F H b v u Q fr qx qy k => by
  unfold pyIx at e
  split at e
  · obtain ⟨p, vs, e1, h1, _, r1⟩ := qx
    obtain ⟨w, h2, r2⟩ := atI_rps r1 e
    exact .inl ⟨p, vs, _, w, e1, top_int qy, SqL.of h1, h2, k _ _ _ .refl r2⟩
  · obtain ⟨p, vs, e1, h1, r1⟩ := top_tup fr qx
    obtain ⟨w, h2, r2⟩ := atI_rps r1 e
    exact .inr (.inl ⟨p, vs, _, w, e1, top_int qy, h1, h2, k _ _ _ .refl r2⟩)
  · split at e
    · rename_i hz
      obtain ⟨cc, e1, e⟩ := mpd e
      cases e
      exact .inr (.inr ⟨_, _, cc, top_str qx, top_int qy, hz, e1, k _ _ _ .refl (.str _)⟩)
    · cases e
  · cases e
theorem e_ix (ha : PE X a (liftO X.K C da)) (hb : PE X c (liftO X.K C db)) (hs : PlainIx c := by exact fun _ _ => rfl) : PE X (.Subscript a c pos) (liftE X.K C (dOp pyIx da db)) :=
  imp_e (op_imp r_ix) (pe_ix ix_seq ha hb hs)
/-- a part of a slice -/
abbrev DP := Sl → Bx → Option (Option Int × Bx)
def liftP (K : Frg) (C : Fx) (d : DP) : TO := fun σ H Q => ∃ sl B F b r B', Rel K C sl B F b σ H ∧ d sl B = some (r, B') ∧ ∀ H' F' b', Rel K C sl B' F' b' σ H' → Stp F b H F' b' H' → Q r H'
def dNoP : DP := fun _ B => some (none, B)
def dPart (d : DE) : DP := fun sl B => (d sl B).bind fun p => match p.1 with
  | .int i => some (some i, p.2)
  | _ => none
theorem imp_o {e : Option Expr} {t t' : TO} (h : ∀ σ H Q, t' σ H Q → t σ H Q) (p : PO X e t) : PO X e t' := ⟨fun pins s σ H Q I w => p.run pins s σ H Q I (h σ H Q w)⟩
theorem p_none : PO X none (liftP X.K C dNoP) := imp_o (fun σ H Q ⟨sl, B, F, b, rr, B', R, e, k⟩ => by
  cases e
  exact k H F b R Stp.refl) po_none
theorem p_some (h : PE X e (liftE X.K C da)) : PO X (some e) (liftP X.K C (dPart da)) := imp_o (fun σ H Q ⟨sl, B, F, b, rr, B', R, e, k⟩ => by
  obtain ⟨⟨x, B1⟩, e1, e⟩ := bnd e
  split at e
  · rename_i i hi
    cases e
    refine ⟨sl, B, F, b, x, B1, R, e1, fun v H' F' b' R' S' q => ?_⟩
    have hi' : x = .int i := hi
    subst hi'
    cases q
    exact ⟨i, rfl, k H' F' b' R' S'⟩
  · cases e) (po_some h)
def cutStr (z : Str) (lo hi : Option Int) : Str := cutS z lo hi
def pySl : PyData → Option Int → Option Int → Option PyData
  | .list xs, lo, hi => some (.list (cutD xs lo hi))
  | .tuple xs, lo, hi => some (.tuple (cutD xs lo hi))
  | _, _, _ => none
def dSl (f : PyData → Option Int → Option Int → Option PyData) (d : DE) (l h : DP) : DE := fun sl B => (d sl B).bind fun p => (l sl p.2).bind fun q => (h sl q.2).bind fun r => (f p.1 q.1 r.1).map fun z => (z, r.2)
def rSlLA (K : Frg) : V → Option Int → Option Int → Hp → VK → Prop := fun x lo hi H Q => rSlL K x lo hi H Q ∨ rSlA K x lo hi H Q
theorem cutD_all {ds : List PyData} {lo hi : Option Int} (h : HT.sIx ds.length 0 lo = 0 ∧ HT.sIx ds.length ds.length hi = ds.length) : cutD ds lo hi = ds := by
  unfold cutD
  rw [h.1, h.2, Nat.sub_zero, List.drop_zero, List.take_length]
theorem e_sl {lo hi : Option Expr} {dl dh : DP} (ha : PE X a (liftO X.K C da)) (hl : PO X lo (liftP X.K C dl)) (hh : PO X hi (liftP X.K C dh)) : PE X (.Subscript a (.Slice lo hi none p2) pos) (liftE X.K C (dSl pySl da dl dh)) :=
  imp_e (fun σ H Q ⟨sl, B, F, b, rr, B', R, e, k⟩ => by
    obtain ⟨⟨x, B1⟩, e1, e⟩ := bnd e
    obtain ⟨⟨l, B2⟩, e2, e⟩ := bnd e
    obtain ⟨⟨h, B3⟩, e3, e⟩ := bnd e
    obtain ⟨z, e4, e⟩ := mpd e
    cases e
    refine ⟨sl, B, F, b, x, B1, R, e1, fun v H1 F1 b1 R1 S1 q1 => ⟨sl, B1, F1, b1, l, B2, R1, e2, fun H2 F2 b2 R2 S2 => ⟨sl, B2, F2, b2, h, B3, R2, e3, fun H3 F3 b3 R3 S3 => ?_⟩⟩⟩
    have S := (S1.trans S2).trans S3
    have q := q1.mono (S2.trans S3)
    have e4' : pySl x l h = some rr := e4
    show rSlL X.K v l h H3 Q ∨ rSlA X.K v l h H3 Q
    unfold pySl at e4'
    split at e4'
    · cases e4'
      obtain ⟨p, vs, g1, g2, _, g3⟩ := q
      refine .inl ⟨p, vs, g1, SqL.of g2, fun n hn => ?_⟩
      obtain ⟨R4, S4⟩ := (Al.one (o := .lst (cutV vs l h)) hn).rel R3
      exact k _ _ _ _ R4 (S.trans S4) (.lst upd_same (Rps.mono S4.ex (cut_rps _ _ g3)))
    · cases e4'
      obtain ⟨p, vs, g1, g2, g3⟩ := top_tup R3.fro q
      refine .inr ⟨p, vs, g1, g2, fun hz => ?_, fun hz n hn => ?_⟩
      · rw [g3.length] at hz
        rw [← g1]
        refine k v H3 F3 b3 R3 S ?_
        rw [cutD_all hz]
        exact q
      · obtain ⟨R4, S4⟩ := (Al.one (o := .tup (cutV vs l h)) hn).rel R3
        exact k _ _ _ _ R4 (S.trans S4) (.tup (SqT.of upd_same) (Rps.mono S4.ex (cut_rps _ _ g3)))
    · cases e4') (pe_slice (sl_list.or sl_tupA) ha hl hh)
end
end Dn

set_option Elab.async false
set_option linter.all false
set_option autoImplicit false
set_option maxRecDepth 100000
set_option maxHeartbeats 1000000
namespace Dn
open PySem PySem.Spec PyProof.Rows L2

/-! ### built-ins by values -/
def RCl (K : Frg) (r : List V → Hp → VK → Prop) (f : List PyData → Option PyData) : Prop := ∀ ds z, f ds = some z → ∀ (F H : Hp) (b : Bad) (vs : List V) (Q : VK), Ext F H → TopRs K F H b vs ds → (∀ w F' H', Al F H F' H' → Rp K F' w z → Q w H') → r vs H Q
/-- .. that give a new list -/
def RClL (K : Frg) (r : List V → Hp → VK → Prop) (f : List PyData → Option (List PyData)) : Prop := ∀ ds z, f ds = some z → ∀ (F H : Hp) (b : Bad) (vs : List V) (Q : VK), Ext F H → TopRs K F H b vs ds → (∀ p us, H p = none → Rps K F us z → Q (.ref p) (upd H p (.lst us))) → r vs H Q
def dCl (f : List PyData → Option PyData) (da : DL) : DE := fun sl B => (da sl B).bind fun p => (f p.1).map fun z => (z, p.2)
def dClL (f : List PyData → Option (List PyData)) (da : DL) : DL := fun sl B => (da sl B).bind fun p => (f p.1).map fun z => (z, p.2)
section
variable {X : Cx} {C : Fx} {e : Expr} {es : List Expr} {da : DL} {p pos : Pos} {x : Str}
theorem cl_imp {r : List V → Hp → VK → Prop} {f : List PyData → Option PyData} (hr : RCl X.K r f) : ∀ σ H Q, liftE X.K C (dCl f da) σ H Q → tCB r (liftQ X.K C da) σ H Q :=
  fun σ H Q ⟨sl, B, F, b, rr, B', R, e, k⟩ => by
    obtain ⟨⟨xs, B1⟩, e1, e⟩ := bnd e
    obtain ⟨z, e2, e⟩ := mpd e
    cases e
    refine ⟨sl, B, F, b, _, _, R, e1, fun vs H1 F1 b1 R1 S1 q1 => hr _ _ e2 F1 H1 b1 vs Q R1.fro q1 fun w F2 H2 al q => ?_⟩
    obtain ⟨R2, S2⟩ := al.rel R1
    exact k w H2 F2 b1 R2 (S1.trans S2) q
theorem clL_imp {r : List V → Hp → VK → Prop} {f : List PyData → Option (List PyData)} (hr : RClL X.K r f) : ∀ σ H Q, liftL X.K C (dClL f da) σ H Q → tCB r (liftQ X.K C da) σ H Q :=
  fun σ H Q ⟨sl, B, F, b, rr, B', R, e, k⟩ => by
    obtain ⟨⟨xs, B1⟩, e1, e⟩ := bnd e
    obtain ⟨z, e2, e⟩ := mpd e
    cases e
    refine ⟨sl, B, F, b, _, _, R, e1, fun vs H1 F1 b1 R1 S1 q1 => hr _ _ e2 F1 H1 b1 vs Q R1.fro q1 fun p us hp q => ?_⟩
    have h0 : H p = none := by
      cases z : H p with
      | none => rfl
      | some o => exact absurd hp (S1.tr p (by rw [z]; exact Option.some_ne_none _))
    exact k p us _ _ _ (R1.new hp) (S1.trans (Stp.new hp)) h0 (not_in_F R1.fro hp) (R1.nbx hp) upd_same q
theorem e_clB {id : String} {r : List V → Hp → VK → Prop} {f : List PyData → Option PyData} (hc : CallR X (.builtin id) r) (hr : RCl X.K r f) (hm : X.mg x = none) (hv : bootBuiltins x = some (.builtin id)) (ha : PA X (e :: es) (liftQ X.K C da)) (hg : Gl X x := by rfl) (hn : x ≠ "__name__" := by decide) (hdb : (x == ("__debug__" : Str)) = false := by decide)
    (he : starEach (e :: es) X.env = (false, eval e X.env) :: starEach es X.env := by rfl) (hpl : (backTo pos (starEach es X.env)).any (·.1) = false := by rfl) : PE X (.Call (.Name x p) (e :: es) [] pos) (liftE X.K C (dCl f da)) :=
  imp_e (cl_imp hr) (pe_callB hc hg hm hv ha hn hdb he hpl)
theorem e_clT {T : String} {r : List V → Hp → VK → Prop} {f : List PyData → Option PyData} (hc : CallR X (.type T) r) (hr : RCl X.K r f) (hm : X.mg x = none) (hv : bootBuiltins x = some (.type T)) (ha : PA X (e :: es) (liftQ X.K C da)) (hg : Gl X x := by rfl) (hn : x ≠ "__name__" := by decide) (hdb : (x == ("__debug__" : Str)) = false := by decide)
    (he : starEach (e :: es) X.env = (false, eval e X.env) :: starEach es X.env := by rfl) (hpl : (backTo pos (starEach es X.env)).any (·.1) = false := by rfl) : PE X (.Call (.Name x p) (e :: es) [] pos) (liftE X.K C (dCl f da)) :=
  imp_e (cl_imp hr) (pe_callTy hc hg hm hv ha hn hdb he hpl)
theorem l_clT {T : String} {r : List V → Hp → VK → Prop} {f : List PyData → Option (List PyData)} (hc : CallR X (.type T) r) (hr : RClL X.K r f) (hm : X.mg x = none) (hv : bootBuiltins x = some (.type T)) (ha : PA X (e :: es) (liftQ X.K C da)) (hg : Gl X x := by rfl) (hn : x ≠ "__name__" := by decide) (hdb : (x == ("__debug__" : Str)) = false := by decide)
    (he : starEach (e :: es) X.env = (false, eval e X.env) :: starEach es X.env := by rfl) (hpl : (backTo pos (starEach es X.env)).any (·.1) = false := by rfl) : PE X (.Call (.Name x p) (e :: es) [] pos) (liftL X.K C (dClL f da)) :=
  imp_e (clL_imp hr) (pe_callTy hc hg hm hv ha hn hdb he hpl)
theorem l_clB {T : String} {r : List V → Hp → VK → Prop} {f : List PyData → Option (List PyData)} (hc : CallR X (.builtin T) r) (hr : RClL X.K r f) (hm : X.mg x = none) (hv : bootBuiltins x = some (.builtin T)) (ha : PA X (e :: es) (liftQ X.K C da)) (hg : Gl X x := by rfl) (hn : x ≠ "__name__" := by decide) (hdb : (x == ("__debug__" : Str)) = false := by decide)
    (he : starEach (e :: es) X.env = (false, eval e X.env) :: starEach es X.env := by rfl) (hpl : (backTo pos (starEach es X.env)).any (·.1) = false := by rfl) : PE X (.Call (.Name x p) (e :: es) [] pos) (liftL X.K C (dClL f da)) :=
  imp_e (clL_imp hr) (pe_callB hc hg hm hv ha hn hdb he hpl)
end
theorem tops1 {K : Frg} {F H : Hp} {b : Bad} {vs : List V} {d : PyData} (h : TopRs K F H b vs [d]) : ∃ v, vs = [v] ∧ TopR K F H b v d := by
  cases h with
  | cons h1 h2 => cases h2; exact ⟨_, rfl, h1⟩
theorem tops2 {K : Frg} {F H : Hp} {b : Bad} {vs : List V} {d e : PyData} (h : TopRs K F H b vs [d, e]) : ∃ v u, vs = [v, u] ∧ TopR K F H b v d ∧ TopR K F H b u e := by
  cases h with
  | cons h1 h2 =>
    cases h2 with
    | cons h2 h3 => cases h3; exact ⟨_, _, rfl, h1, h2⟩
def pyLen : List PyData → Option PyData
  | [.list xs] => some (.int (xs.length : Int))
  | [.tuple xs] => some (.int (xs.length : Int))
  | [.str x] => if x.length ≤ sizeLine then some (.int (x.length : Int)) else none
  | _ => none
def pyAbs : List PyData → Option PyData
  | [.int i] => some (.int (if i < 0 then -i else i))
  | _ => none
def pyMin2 : List PyData → Option PyData
  | [.int i, .int j] => some (.int (if j < i then j else i))
  | _ => none
def pyMax2 : List PyData → Option PyData
  | [.int i, .int j] => some (.int (if j > i then j else i))
  | _ => none
def pyInt : List PyData → Option PyData
  | [.int i] => some (.int i)
  | [.bool k] => some (.int (if k then 1 else 0))
  | _ => none
def pyTuple : List PyData → Option PyData
  | [.list xs] => some (.tuple xs)
  | [.tuple xs] => some (.tuple xs)
  | _ => none
def pyList : List PyData → Option (List PyData)
  | [.list xs] => some xs
  | [.tuple xs] => some xs
  | _ => none
def intsOf : List PyData → Option (List Int)
  | [] => some []
  | .int i :: r => (intsOf r).map (i :: ·)
  | _ => none
def bolsOf : List PyData → Option (List Bool)
  | [] => some []
  | .bool i :: r => (bolsOf r).map (i :: ·)
  | _ => none
theorem intsOf_eq : ∀ {ds : List PyData} {ns : List Int}, intsOf ds = some ns → ds = ns.map PyData.int
  | [], _, h => by cases h; rfl
  | .int i :: r, _, h => by
    obtain ⟨ms, h1, h2⟩ := mpd h
    cases h2
    rw [intsOf_eq h1]; rfl
  | .none :: _, _, h => by cases h
  | .bool _ :: _, _, h => by cases h
  | .str _ :: _, _, h => by cases h
  | .list _ :: _, _, h => by cases h
  | .tuple _ :: _, _, h => by cases h
  | .dict _ :: _, _, h => by cases h
theorem bolsOf_eq : ∀ {ds : List PyData} {ns : List Bool}, bolsOf ds = some ns → ds = ns.map PyData.bool
  | [], _, h => by cases h; rfl
  | .bool i :: r, _, h => by
    obtain ⟨ms, h1, h2⟩ := mpd h
    cases h2
    rw [bolsOf_eq h1]; rfl
  | .none :: _, _, h => by cases h
  | .int _ :: _, _, h => by cases h
  | .str _ :: _, _, h => by cases h
  | .list _ :: _, _, h => by cases h
  | .tuple _ :: _, _, h => by cases h
  | .dict _ :: _, _, h => by cases h
theorem intsOf_map (ns : List Int) : intsOf (ns.map PyData.int) = some ns := by
  induction ns with
  | nil => rfl
  | cons n r ih => simp [intsOf, ih]
theorem bolsOf_map (ns : List Bool) : bolsOf (ns.map PyData.bool) = some ns := by
  induction ns with
  | nil => rfl
  | cons n r ih => simp [bolsOf, ih]
def pySum : List PyData → Option PyData
  | [.list xs] => (intsOf xs).map fun ns => .int ns.sum
  | _ => none
def pyAll : List PyData → Option PyData
  | [.list xs] => (bolsOf xs).map fun ns => .bool (ns.all id)
  | _ => none
def pyAny : List PyData → Option PyData
  | [.list xs] => (bolsOf xs).map fun ns => .bool (ns.any id)
  | _ => none
section
variable {X : Cx}
theorem r_len : RCl X.K (fun xs H Q => ∃ x n, xs = [x] ∧ LenV X.K x H n ∧ Q (.int n) H) pyLen := fun ds z e F H b vs Q fr q k => by
  unfold pyLen at e
  split at e
  · cases e
    obtain ⟨v, rfl, p, us, rfl, h1, _, h2⟩ := tops1 q
    refine ⟨_, _, rfl, .inl ⟨us, SqL.of h1, rfl⟩, ?_⟩
    rw [h2.length]
    exact k _ _ _ .refl (.int _)
  · cases e
    obtain ⟨v, rfl, h⟩ := tops1 q
    obtain ⟨p, us, rfl, h1, h2⟩ := top_tup fr h
    refine ⟨_, _, rfl, .inr ⟨us, h1, rfl⟩, ?_⟩
    rw [h2.length]
    exact k _ _ _ .refl (.int _)
  · split at e
    · rename_i hz
      cases e
      obtain ⟨v, rfl, h⟩ := tops1 q
      rw [top_str h]
      exact ⟨_, _, rfl, ⟨hz, rfl⟩, k _ _ _ .refl (.int _)⟩
    · cases e
  · cases e
theorem r_abs : RCl X.K (fun xs H Q => ∃ i, xs = [.int i] ∧ Q (.int (if i < 0 then -i else i)) H) pyAbs := fun ds z e F H b vs Q fr q k => by
  unfold pyAbs at e
  split at e
  · cases e
    obtain ⟨v, rfl, h⟩ := tops1 q
    rw [top_int h]
    exact ⟨_, rfl, k _ _ _ .refl (.int _)⟩
  · cases e
theorem r_min2 : RCl X.K (fun xs H Q => ∃ i j, xs = [.int i, .int j] ∧ Q (.int (if j < i then j else i)) H) pyMin2 := fun ds z e F H b vs Q fr q k => by
  unfold pyMin2 at e
  split at e
  · cases e
    obtain ⟨v, u, rfl, h, h'⟩ := tops2 q
    rw [top_int h, top_int h']
    exact ⟨_, _, rfl, k _ _ _ .refl (.int _)⟩
  · cases e
theorem r_max2 : RCl X.K (fun xs H Q => ∃ i j, xs = [.int i, .int j] ∧ Q (.int (if j > i then j else i)) H) pyMax2 := fun ds z e F H b vs Q fr q k => by
  unfold pyMax2 at e
  split at e
  · cases e
    obtain ⟨v, u, rfl, h, h'⟩ := tops2 q
    rw [top_int h, top_int h']
    exact ⟨_, _, rfl, k _ _ _ .refl (.int _)⟩
  · cases e
theorem r_int : RCl X.K (fun xs H Q => (∃ i, xs = [.int i] ∧ Q (.int i) H) ∨ ∃ k, xs = [.bl k] ∧ Q (.int (if k then 1 else 0)) H) pyInt := fun ds z e F H b vs Q fr q k => by
  unfold pyInt at e
  split at e
  · cases e
    obtain ⟨v, rfl, h⟩ := tops1 q
    rw [top_int h]
    exact .inl ⟨_, rfl, k _ _ _ .refl (.int _)⟩
  · cases e
    obtain ⟨v, rfl, h⟩ := tops1 q
    rw [top_bool h]
    exact .inr ⟨_, rfl, k _ _ _ .refl (.int _)⟩
  · cases e
theorem r_tuple : RCl X.K (fun xs H Q => ∃ p ys, xs = [.ref p] ∧ ((SqL X.K H p ys ∧ ∀ l, H l = none → Q (.ref l) (upd H l (.tup ys))) ∨ (SqT X.K H p ys ∧ Q (.ref p) H))) pyTuple := fun ds z e F H b vs Q fr q k => by
  unfold pyTuple at e
  split at e
  · cases e
    obtain ⟨v, rfl, p, us, rfl, h1, _, h2⟩ := tops1 q
    exact ⟨p, us, rfl, .inl ⟨SqL.of h1, fun l hl => k _ _ _ (.one hl) (.tup (SqT.of upd_same) (Rps.mono (Ext.new (not_in_F fr hl)) h2))⟩⟩
  · cases e
    obtain ⟨v, rfl, h⟩ := tops1 q
    obtain ⟨p, us, rfl, h1, h2⟩ := top_tup fr h
    exact ⟨p, us, rfl, .inr ⟨h1, k _ _ _ .refl h⟩⟩
  · cases e
theorem r_list : RClL X.K (fun xs H Q => ∃ p ys, xs = [.ref p] ∧ (SqL X.K H p ys ∨ SqT X.K H p ys) ∧ ∀ l, H l = none → Q (.ref l) (upd H l (.lst ys))) pyList := fun ds z e F H b vs Q fr q k => by
  unfold pyList at e
  split at e
  · cases e
    obtain ⟨v, rfl, p, us, rfl, h1, _, h2⟩ := tops1 q
    exact ⟨p, us, rfl, .inl (SqL.of h1), fun l hl => k _ _ hl h2⟩
  · cases e
    obtain ⟨v, rfl, h⟩ := tops1 q
    obtain ⟨p, us, rfl, h1, h2⟩ := top_tup fr h
    exact ⟨p, us, rfl, .inr h1, fun l hl => k _ _ hl h2⟩
  · cases e
theorem r_sum : RCl X.K (rSum X.K) pySum := fun ds z e F H b vs Q fr q k => by
  unfold pySum at e
  split at e
  · obtain ⟨ns, e1, e⟩ := mpd e
    cases e
    have e1 := intsOf_eq e1
    subst e1
    obtain ⟨v, rfl, p, us, rfl, h1, _, h2⟩ := tops1 q
    have e2 := h2.ints
    subst e2
    exact ⟨p, ns, rfl, SqL.of h1, k _ _ _ .refl (.int _)⟩
  · cases e
theorem r_all : RCl X.K (rAll X.K) pyAll := fun ds z e F H b vs Q fr q k => by
  unfold pyAll at e
  split at e
  · obtain ⟨ns, e1, e⟩ := mpd e
    cases e
    have e1 := bolsOf_eq e1
    subst e1
    obtain ⟨v, rfl, p, us, rfl, h1, _, h2⟩ := tops1 q
    have e2 := h2.bls
    subst e2
    exact ⟨p, ns, rfl, SqL.of h1, k _ _ _ .refl (.bl _)⟩
  · cases e
theorem r_any : RCl X.K (rAny X.K) pyAny := fun ds z e F H b vs Q fr q k => by
  unfold pyAny at e
  split at e
  · obtain ⟨ns, e1, e⟩ := mpd e
    cases e
    have e1 := bolsOf_eq e1
    subst e1
    obtain ⟨v, rfl, p, us, rfl, h1, _, h2⟩ := tops1 q
    have e2 := h2.bls
    subst e2
    exact ⟨p, ns, rfl, SqL.of h1, k _ _ _ .refl (.bl _)⟩
  · cases e
end

/-! ### isinstance -/
def tyName : PyData → String
  | .none => "NoneType"
  | .bool _ => "bool"
  | .int _ => "int"
  | .str _ => "str"
  | .list _ => "list"
  | .tuple _ => "tuple"
  | .dict _ => "dict"
def isTy (T : String) (d : PyData) : Bool := tyName d == T || (T == "int" && tyName d == "bool")
def dIsi (T : String) (da : DE) : DE := fun sl B => (da sl B).bind fun p => some (.bool (isTy T p.1), p.2)
theorem kitB_all (T : String) (hT : T = "int" ∨ T = "bool" ∨ T = "str" ∨ T = "list" ∨ T = "tuple") (d : PyData) : kitB (tyName d) T = some (isTy T d) := by
  have key : ∀ n, n = "NoneType" ∨ n = "bool" ∨ n = "int" ∨ n = "str" ∨ n = "list" ∨ n = "tuple" ∨ n = "dict" → kitB n T = some (n == T || (T == "int" && n == "bool")) := by
    intro n hn
    rcases hT with rfl | rfl | rfl | rfl | rfl <;> rcases hn with rfl | rfl | rfl | rfl | rfl | rfl | rfl <;> decide +kernel
  apply key
  cases d <;> simp [tyName]
theorem tyX_top {K : Frg} {F H : Hp} {b : Bad} {v : V} {d : PyData} (fr : Ext F H) (h : TopR K F H b v d) : TyX K H v (.type (tyName d)) := by
  cases d with
  | none => rw [top_none h]; exact .base .non
  | bool x => rw [top_bool h]; exact .base (.bl x)
  | int i => rw [top_int h]; exact .base (.int i)
  | str x => rw [top_str h]; exact .base (.str x)
  | list xs =>
    obtain ⟨a, vs, rfl, h1, _⟩ := h
    exact .base (.lst h1)
  | tuple xs =>
    obtain ⟨a, vs, rfl, h1, _⟩ := top_tup fr h
    rcases h1 with (h1 | ⟨o, h1⟩) | ⟨o, its, n, h1, h2, _⟩
    · exact .base (.tup h1)
    · exact .fTuple h1
    · exact .kTuple h1 h2
  | dict _ =>
    have h' : Rp K F v (.dict _) := h
    cases h'
section
variable {X : Cx} {C : Fx} {e : Expr} {da : DE} {p p2 pos : Pos} {T : Str}
theorem e_isi {t : String} (hT : t = "int" ∨ t = "bool" ∨ t = "str" ∨ t = "list" ∨ t = "tuple") (hm : X.mg "isinstance" = none) (ht : X.mg T = none) (hb : bootBuiltins T = some (.type t)) (h : PE X e (liftO X.K C da)) (hg : Gl X "isinstance" := by rfl) (hgt : Gl X T := by rfl)
    (hnT : T ≠ "__name__" := by decide) (hdT : (T == ("__debug__" : Str)) = false := by decide)
    (hs : starEach (e :: [Expr.Name T p2]) X.env = (false, eval e X.env) :: starEach [Expr.Name T p2] X.env := by rfl) (hs2 : starEach [Expr.Name T p2] X.env = (false, eval (Expr.Name T p2) X.env) :: starEach [] X.env := by rfl)
    (hpl : (backTo pos (starEach [Expr.Name T p2] X.env)).any (·.1) = false := by rfl) : PE X (.Call (.Name "isinstance" p) [e, .Name T p2] [] pos) (liftE X.K C (dIsi t da)) :=
  imp_e (fun σ H Q ⟨sl, B, F, b, rr, B', R, e, k⟩ => by
    obtain ⟨⟨x, B1⟩, e1, e⟩ := bnd e
    cases e
    refine ⟨sl, B, F, b, x, _, R, e1, fun v H1 F1 b1 R1 S1 q => ?_⟩
    exact ⟨v, .ty t, .type (tyName x), .type t, isTy t x, rfl, .ty t, tyX_top R1.fro q, kit_ty (kitB_all t hT x), k _ _ _ _ R1 S1 (.bl _)⟩)
    (pe_callB (t := tCons (liftO X.K C da) (tCons (tC (.ty t)) tNil)) call_isi hg hm PyProof.Rows.boot_isinstance (pa_cons h (pa_cons (pe_bltn hgt ht hb rfl hnT hdT) pa_nil hs2) hs) (by decide) (by decide) hs hpl)
end
end Dn

set_option Elab.async false
set_option linter.all false
set_option autoImplicit false
set_option maxRecDepth 100000
set_option maxHeartbeats 1000000
namespace Dn
open PySem PySem.Spec PyProof.Rows L2

/-! ### slots -/
section
variable {K : Frg} {C : Fx} {sl : Sl} {B B' : Bx} {F F' H H' : Hp} {b b' : Bad} {σ : L2.St} {v : V} {i : Nat} {s : Sv}
theorem Rel.put (r : Rel K C sl B F b σ H) (h : SvR K F H b v s) (nd : ∀ xs, s ≠ .own xs) (nd2 : ∀ xs, s ≠ .dic xs := by exact fun _ z => nomatch z) : Rel K C (sl.set i (some s)) B F b (σ.set i (some v)) H where
  fro := r.fro
  len := by rw [List.length_set, List.length_set]; exact r.len
  slt := fun j t e => by
    by_cases z : i = j
    · subst z
      by_cases hl : i < sl.length
      · rw [List.getElem?_set_self hl] at e
        cases e
        exact ⟨v, List.getElem?_set_self (by rw [← r.len]; exact hl), h⟩
      · rw [List.getElem?_eq_none (by simpa using hl)] at e; cases e
    · rw [List.getElem?_set_ne z] at e
      obtain ⟨u, h1, h2⟩ := r.slt j t e
      exact ⟨u, by rw [List.getElem?_set_ne z]; exact h1, h2⟩
  dis := fun j l xs ys a e1 e2 e3 e4 => by
    have z1 : i ≠ j := fun z => by
      subst z
      by_cases hl : i < sl.length
      · rw [List.getElem?_set_self hl] at e1; cases e1; exact nd _ rfl
      · rw [List.getElem?_eq_none (by simpa using hl)] at e1; cases e1
    have z2 : i ≠ l := fun z => by
      subst z
      by_cases hl : i < sl.length
      · rw [List.getElem?_set_self hl] at e2; cases e2; exact nd _ rfl
      · rw [List.getElem?_eq_none (by simpa using hl)] at e2; cases e2
    rw [List.getElem?_set_ne z1] at e1 e3
    rw [List.getElem?_set_ne z2] at e2 e4
    exact r.dis j l xs ys a e1 e2 e3 e4
  own0 := fun j xs a e1 e3 => by
    have z1 : i ≠ j := fun z => by
      subst z
      by_cases hl : i < sl.length
      · rw [List.getElem?_set_self hl] at e1; cases e1; exact nd _ rfl
      · rw [List.getElem?_eq_none (by simpa using hl)] at e1; cases e1
    rw [List.getElem?_set_ne z1] at e1 e3
    exact r.own0 j xs a e1 e3
  dis2 := fun j l xs ys a e1 e2 e3 e4 => by
    have z1 : i ≠ j := fun z => by
      subst z
      by_cases hl : i < sl.length
      · rw [List.getElem?_set_self hl] at e1; cases e1; exact nd2 _ rfl
      · rw [List.getElem?_eq_none (by simpa using hl)] at e1; cases e1
    have z2 : i ≠ l := fun z => by
      subst z
      by_cases hl : i < sl.length
      · rw [List.getElem?_set_self hl] at e2; cases e2; exact nd2 _ rfl
      · rw [List.getElem?_eq_none (by simpa using hl)] at e2; cases e2
    rw [List.getElem?_set_ne z1] at e1 e3
    rw [List.getElem?_set_ne z2] at e2 e4
    exact r.dis2 j l xs ys a e1 e2 e3 e4
  own2 := fun j xs a e1 e3 => by
    have z1 : i ≠ j := fun z => by
      subst z
      by_cases hl : i < sl.length
      · rw [List.getElem?_set_self hl] at e1; cases e1; exact nd2 _ rfl
      · rw [List.getElem?_eq_none (by simpa using hl)] at e1; cases e1
    rw [List.getElem?_set_ne z1] at e1 e3
    exact r.own2 j xs a e1 e3
  bx := r.bx
  e1 := r.e1
  e2 := r.e2
  e3 := r.e3
  e4 := r.e4
  e5 := r.e5
/-- a new list for the slot -/
theorem Rel.putO {a : Addr} {vs : List V} {xs : List PyData} (r : Rel K C sl B F b σ H) (h1 : H a = some (.lst vs)) (h2 : Rps K F vs xs) (h3 : F a = none) (h4 : ¬ inb b a) (h5 : C.H0 a = none)
    (h6 : ∀ (j : Nat) (ys : List PyData), sl[j]? = some (some (.own ys)) → σ[j]? ≠ some (some (.ref a))) : Rel K C (sl.set i (some (.own xs))) B F b (σ.set i (some (.ref a))) H where
  fro := r.fro
  len := by rw [List.length_set, List.length_set]; exact r.len
  slt := fun j t e => by
    by_cases z : i = j
    · subst z
      by_cases hl : i < sl.length
      · rw [List.getElem?_set_self hl] at e
        cases e
        exact ⟨_, List.getElem?_set_self (by rw [← r.len]; exact hl), a, vs, rfl, h1, h2, h3, h4⟩
      · rw [List.getElem?_eq_none (by simpa using hl)] at e; cases e
    · rw [List.getElem?_set_ne z] at e
      obtain ⟨u, h1, h2⟩ := r.slt j t e
      exact ⟨u, by rw [List.getElem?_set_ne z]; exact h1, h2⟩
  dis := fun j l ys zs c e1 e2 e3 e4 => by
    by_cases z1 : i = j
    · by_cases z2 : i = l
      · rw [← z1, ← z2]
      · exfalso
        subst z1
        rw [List.getElem?_set_ne z2] at e2 e4
        by_cases hl : i < σ.length
        · rw [List.getElem?_set_self hl] at e3
          cases e3
          exact h6 l zs e2 e4
        · rw [List.getElem?_eq_none (by simpa using hl)] at e3; cases e3
    · rw [List.getElem?_set_ne z1] at e1 e3
      by_cases z2 : i = l
      · exfalso
        subst z2
        by_cases hl : i < σ.length
        · rw [List.getElem?_set_self hl] at e4
          cases e4
          exact h6 j ys e1 e3
        · rw [List.getElem?_eq_none (by simpa using hl)] at e4; cases e4
      · rw [List.getElem?_set_ne z2] at e2 e4
        exact r.dis j l ys zs c e1 e2 e3 e4
  own0 := fun j ys c e1 e3 => by
    by_cases z1 : i = j
    · subst z1
      by_cases hl : i < σ.length
      · rw [List.getElem?_set_self hl] at e3
        cases e3
        exact h5
      · rw [List.getElem?_eq_none (by simpa using hl)] at e3; cases e3
    · rw [List.getElem?_set_ne z1] at e1 e3
      exact r.own0 j ys c e1 e3
  dis2 := fun j l xs ys a e1 e2 e3 e4 => by
    have z1 : i ≠ j := fun z => by
      subst z
      by_cases hl : i < sl.length
      · rw [List.getElem?_set_self hl] at e1; cases e1
      · rw [List.getElem?_eq_none (by simpa using hl)] at e1; cases e1
    have z2 : i ≠ l := fun z => by
      subst z
      by_cases hl : i < sl.length
      · rw [List.getElem?_set_self hl] at e2; cases e2
      · rw [List.getElem?_eq_none (by simpa using hl)] at e2; cases e2
    rw [List.getElem?_set_ne z1] at e1 e3
    rw [List.getElem?_set_ne z2] at e2 e4
    exact r.dis2 j l xs ys a e1 e2 e3 e4
  own2 := fun j xs a e1 e3 => by
    have z1 : i ≠ j := fun z => by
      subst z
      by_cases hl : i < sl.length
      · rw [List.getElem?_set_self hl] at e1; cases e1
      · rw [List.getElem?_eq_none (by simpa using hl)] at e1; cases e1
    rw [List.getElem?_set_ne z1] at e1 e3
    exact r.own2 j xs a e1 e3
  bx := r.bx
  e1 := r.e1
  e2 := r.e2
  e3 := r.e3
  e4 := r.e4
  e5 := r.e5
/-- an own list is changed -/
theorem Rel.chg {a : Addr} {vs : List V} {xs ys : List PyData} (r : Rel K C sl B F b σ H) (e : sl[i]? = some (some (.own xs))) (ea : σ[i]? = some (some (.ref a))) (h2 : Rps K F vs ys) : Rel K C (sl.set i (some (.own ys))) B F b σ (upd H a (.lst vs)) := by
  obtain ⟨v, ev, a', us, e1, g1, g2, g3, g4⟩ := r.slt i _ e
  rw [ea] at ev
  cases ev
  cases e1
  have hl : i < sl.length := by
    rcases Nat.lt_or_ge i sl.length with z | z
    · exact z
    · rw [List.getElem?_eq_none z] at e; cases e
  have h0 := r.own0 i xs a e ea
  refine ⟨fun c o hc => ?_, by rw [List.length_set]; exact r.len, fun j t e' => ?_, fun j l ys zs c e1 e2 e3 e4 => ?_, fun j ys c e1 e3 => ?_, ⟨fun p hp => ?_, r.bx.liv⟩, r.e1, r.e2, fun c o hc hn => ?_, r.e4, r.e5, fun j l ys zs c e1 e2 e3 e4 => ?_, fun j ys c e1 e3 => ?_⟩
  · rw [upd_ne (fun z => by subst z; rw [g3] at hc; cases hc)]
    exact r.fro c o hc
  · by_cases z : i = j
    · subst z
      rw [List.getElem?_set_self hl] at e'
      cases e'
      exact ⟨_, ea, a, vs, rfl, upd_same, h2, g3, g4⟩
    · rw [List.getElem?_set_ne z] at e'
      obtain ⟨u, k1, k2⟩ := r.slt j t e'
      refine ⟨u, k1, ?_⟩
      cases t with
      | dat d => exact k2
      | own ws =>
        obtain ⟨c, w, q1, q2, q3, q4, q5⟩ := k2
        have ne : c ≠ a := fun z' => by
          subst z' q1
          exact z (r.dis i j _ _ _ e e' ea k1)
        exact ⟨c, w, q1, by rw [upd_ne ne]; exact q2, q3, q4, q5⟩
      | box => exact k2
      | cells => exact k2
      | scr ns => exact k2
      | dic ws =>
        obtain ⟨c, w, q1, q2, q3, q4, q5⟩ := k2
        have ne : c ≠ a := fun z' => by
          subst z'
          rw [q2] at g1; cases g1
        exact ⟨c, w, q1, by rw [upd_ne ne]; exact q2, q3, q4, q5⟩
      | fdc ws => exact k2
  · have f1 : ∃ w, sl[j]? = some (some (.own w)) := by
      by_cases z : i = j
      · subst z; exact ⟨_, e⟩
      · rw [List.getElem?_set_ne z] at e1; exact ⟨_, e1⟩
    have f2 : ∃ w, sl[l]? = some (some (.own w)) := by
      by_cases z : i = l
      · subst z; exact ⟨_, e⟩
      · rw [List.getElem?_set_ne z] at e2; exact ⟨_, e2⟩
    obtain ⟨_, f1⟩ := f1
    obtain ⟨_, f2⟩ := f2
    exact r.dis j l _ _ c f1 f2 e3 e4
  · have f1 : ∃ w, sl[j]? = some (some (.own w)) := by
      by_cases z : i = j
      · subst z; exact ⟨_, e⟩
      · rw [List.getElem?_set_ne z] at e1; exact ⟨_, e1⟩
    obtain ⟨_, f1⟩ := f1
    exact r.own0 j _ c f1 e3
  · obtain ⟨k1, k2, k3, k4, k5⟩ := r.bx.at_ p hp
    exact ⟨by rw [upd_ne (fun z => g4 ⟨p, hp, .inl z.symm⟩)]; exact k1, by rw [upd_ne (fun z => g4 ⟨p, hp, .inr z.symm⟩)]; exact k2, k3, k4, k5⟩
  · rw [upd_ne (fun z => by subst z; rw [h0] at hc; cases hc)]
    exact r.e3 c o hc hn
  · have z1 : i ≠ j := fun z => by
      subst z
      rw [List.getElem?_set_self hl] at e1; cases e1
    have z2 : i ≠ l := fun z => by
      subst z
      rw [List.getElem?_set_self hl] at e2; cases e2
    rw [List.getElem?_set_ne z1] at e1
    rw [List.getElem?_set_ne z2] at e2
    exact r.dis2 j l _ _ c e1 e2 e3 e4
  · have z1 : i ≠ j := fun z => by
      subst z
      rw [List.getElem?_set_self hl] at e1; cases e1
    rw [List.getElem?_set_ne z1] at e1
    exact r.own2 j _ c e1 e3
/-- a list that no slot holds yet is changed -/
theorem Rel.tmp {a : Addr} {o : HO} (r : Rel K C sl B F b σ H) (g3 : F a = none) (g4 : ¬ inb b a) (h0 : C.H0 a = none) (h6 : ∀ (j : Nat) (ys : List PyData), sl[j]? = some (some (.own ys)) → σ[j]? ≠ some (some (.ref a))) (h7 : ∀ (j : Nat) (ys : List (Int × PyData)), sl[j]? = some (some (.dic ys)) → σ[j]? ≠ some (some (.ref a))) : Rel K C sl B F b σ (upd H a o) := by
  refine ⟨fun c o hc => ?_, r.len, fun j t e' => ?_, r.dis, r.own0, ⟨fun p hp => ?_, r.bx.liv⟩, r.e1, r.e2, fun c o hc hn => ?_, r.e4, r.e5, r.dis2, r.own2⟩
  · rw [upd_ne (fun z => by subst z; rw [g3] at hc; cases hc)]
    exact r.fro c o hc
  · obtain ⟨u, k1, k2⟩ := r.slt j t e'
    refine ⟨u, k1, ?_⟩
    cases t with
    | dat d => exact k2
    | own ws =>
      obtain ⟨c, w, q1, q2, q3, q4, q5⟩ := k2
      have ne : c ≠ a := fun z' => by
        subst z' q1
        exact h6 j _ e' k1
      exact ⟨c, w, q1, by rw [upd_ne ne]; exact q2, q3, q4, q5⟩
    | box => exact k2
    | cells => exact k2
    | scr ns => exact k2
    | dic ws =>
      obtain ⟨c, w, q1, q2, q3, q4, q5⟩ := k2
      have ne : c ≠ a := fun z' => by
        subst z' q1
        exact h7 j _ e' k1
      exact ⟨c, w, q1, by rw [upd_ne ne]; exact q2, q3, q4, q5⟩
    | fdc ws => exact k2
  · obtain ⟨k1, k2, k3, k4, k5⟩ := r.bx.at_ p hp
    exact ⟨by rw [upd_ne (fun z => g4 ⟨p, hp, .inl z.symm⟩)]; exact k1, by rw [upd_ne (fun z => g4 ⟨p, hp, .inr z.symm⟩)]; exact k2, k3, k4, k5⟩
  · rw [upd_ne (fun z => by subst z; rw [h0] at hc; cases hc)]
    exact r.e3 c o hc hn
/-- the own lists' places are taken -/
theorem Rel.ownT (r : Rel K C sl B F b σ H) {j : Nat} {ys : List PyData} {a : Addr} (e : sl[j]? = some (some (.own ys))) (h : H a = none) : σ[j]? ≠ some (some (.ref a)) := fun z => by
  obtain ⟨v, ev, a', us, e1, g1, _⟩ := r.slt j _ e
  rw [z] at ev
  cases ev
  cases e1
  rw [h] at g1; cases g1
theorem Rel.dicT (r : Rel K C sl B F b σ H) {j : Nat} {ys : List (Int × PyData)} {a : Addr} (e : sl[j]? = some (some (.dic ys))) (h : ∀ ks, H a ≠ some (.dK ks)) : σ[j]? ≠ some (some (.ref a)) := fun z => by
  obtain ⟨v, ev, a', us, e1, g1, _⟩ := r.slt j _ e
  rw [z] at ev
  cases ev
  cases e1
  exact h _ g1
/-- a slot's own list is frozen -/
theorem Rel.frz {xs : List PyData} (r : Rel K C sl B F b σ H) (e : sl[i]? = some (some (.own xs))) : ∃ F', Ext F F' ∧ Rel K C (sl.set i (some (.dat (.list xs)))) B F' b σ H := by
  obtain ⟨v, ev, a, us, e1, g1, g2, g3, g4⟩ := r.slt i _ e
  subst e1
  have hl : i < sl.length := by
    rcases Nat.lt_or_ge i sl.length with z | z
    · exact z
    · rw [List.getElem?_eq_none z] at e; cases e
  have ex : Ext F (upd F a (.lst us)) := Ext.new g3
  have h0 := r.own0 i xs a e ev
  refine ⟨upd F a (.lst us), ex, ⟨fun c o hc => ?_, by rw [List.length_set]; exact r.len, fun j t e' => ?_, fun j l ys zs c e1 e2 e3 e4 => ?_, fun j ys c e1 e3 => ?_, ⟨fun p hp => ?_, r.bx.liv⟩, r.e1.trans ex, fun c h1 h2 => ?_, r.e3, r.e4, r.e5, fun j l ys zs c e1 e2 e3 e4 => ?_, fun j ys c e1 e3 => ?_⟩⟩
  · by_cases z : c = a
    · subst z; rw [upd_same] at hc; rw [g1]; exact hc
    · rw [upd_ne z] at hc; exact r.fro c o hc
  · by_cases z : i = j
    · subst z
      rw [List.getElem?_set_self hl] at e'
      cases e'
      exact ⟨_, ev, .lst upd_same (Rps.mono ex g2)⟩
    · rw [List.getElem?_set_ne z] at e'
      obtain ⟨u, k1, k2⟩ := r.slt j t e'
      refine ⟨u, k1, ?_⟩
      cases t with
      | dat d => exact Rp.mono ex k2
      | own ws =>
        obtain ⟨c, w, q1, q2, q3, q4, q5⟩ := k2
        have ne : c ≠ a := fun z' => by
          subst z' q1
          exact z (r.dis i j _ _ _ e e' ev k1)
        exact ⟨c, w, q1, q2, Rps.mono ex q3, by rw [upd_ne ne]; exact q4, q5⟩
      | box => exact k2
      | cells => exact k2
      | scr ns =>
        obtain ⟨c, q1, q2⟩ := k2
        exact ⟨c, q1, ex.sqL q2⟩
      | dic ws =>
        obtain ⟨c, w, q1, q2, q3, q4, q5⟩ := k2
        have ne : c ≠ a := fun z' => by
          subst z'
          rw [q2] at g1; cases g1
        exact ⟨c, w, q1, q2, KvR.mono ex q3, by rw [upd_ne ne]; exact q4, q5⟩
      | fdc ws =>
        obtain ⟨c, o, w, q1, q2, q3⟩ := k2
        exact ⟨c, o, w, q1, ex c _ q2, KvR.mono ex q3⟩
  · have z1 : i ≠ j := fun z => by
      subst z
      rw [List.getElem?_set_self hl] at e1; cases e1
    have z2 : i ≠ l := fun z => by
      subst z
      rw [List.getElem?_set_self hl] at e2; cases e2
    rw [List.getElem?_set_ne z1] at e1
    rw [List.getElem?_set_ne z2] at e2
    exact r.dis j l _ _ c e1 e2 e3 e4
  · have z1 : i ≠ j := fun z => by
      subst z
      rw [List.getElem?_set_self hl] at e1; cases e1
    rw [List.getElem?_set_ne z1] at e1
    exact r.own0 j _ c e1 e3
  · obtain ⟨k1, k2, k3, k4, k5⟩ := r.bx.at_ p hp
    exact ⟨k1, k2, by rw [upd_ne (fun z => g4 ⟨p, hp, .inl z.symm⟩)]; exact k3, by rw [upd_ne (fun z => g4 ⟨p, hp, .inr z.symm⟩)]; exact k4, k5⟩
  · rw [upd_ne (fun z => by subst z; exact h1 h0)]
    exact r.e2 c h1 h2
  · have z1 : i ≠ j := fun z => by
      subst z
      rw [List.getElem?_set_self hl] at e1; cases e1
    have z2 : i ≠ l := fun z => by
      subst z
      rw [List.getElem?_set_self hl] at e2; cases e2
    rw [List.getElem?_set_ne z1] at e1
    rw [List.getElem?_set_ne z2] at e2
    exact r.dis2 j l _ _ c e1 e2 e3 e4
  · have z1 : i ≠ j := fun z => by
      subst z
      rw [List.getElem?_set_self hl] at e1; cases e1
    rw [List.getElem?_set_ne z1] at e1
    exact r.own2 j _ c e1 e3
/-- the slots of a block forgotten -/
def wipeD (sl : Sl) : List Nat → Sl
  | [] => sl
  | v :: vs => (wipeD sl vs).set v none
theorem Rel.un1 (r : Rel K C sl B F b σ H) (j : Nat) : Rel K C (sl.set j none) B F b (σ.set j none) H := by
  have sub : ∀ (l : Nat) (t : Sv), (sl.set j none)[l]? = some (some t) → l ≠ j ∧ sl[l]? = some (some t) := fun l t e => by
    by_cases z : j = l
    · subst z
      by_cases hl : j < sl.length
      · rw [List.getElem?_set_self hl] at e; cases e
      · rw [List.getElem?_eq_none (by simpa using hl)] at e; cases e
    · rw [List.getElem?_set_ne z] at e
      exact ⟨fun q => z q.symm, e⟩
  refine ⟨r.fro, by rw [List.length_set, List.length_set]; exact r.len, fun l t e => ?_, fun l m xs ys a e1 e2 e3 e4 => ?_, fun l xs a e1 e3 => ?_, r.bx, r.e1, r.e2, r.e3, r.e4, r.e5, fun l m xs ys a e1 e2 e3 e4 => ?_, fun l xs a e1 e3 => ?_⟩
  · obtain ⟨h1, h2⟩ := sub l t e
    obtain ⟨v, h3, h4⟩ := r.slt l t h2
    exact ⟨v, by rw [List.getElem?_set_ne (Ne.symm h1)]; exact h3, h4⟩
  · obtain ⟨h1, h2⟩ := sub _ _ e1
    obtain ⟨h3, h4⟩ := sub _ _ e2
    rw [List.getElem?_set_ne (Ne.symm h1)] at e3
    rw [List.getElem?_set_ne (Ne.symm h3)] at e4
    exact r.dis _ _ _ _ _ h2 h4 e3 e4
  · obtain ⟨h1, h2⟩ := sub _ _ e1
    rw [List.getElem?_set_ne (Ne.symm h1)] at e3
    exact r.own0 _ _ _ h2 e3
  · obtain ⟨h1, h2⟩ := sub _ _ e1
    obtain ⟨h3, h4⟩ := sub _ _ e2
    rw [List.getElem?_set_ne (Ne.symm h1)] at e3
    rw [List.getElem?_set_ne (Ne.symm h3)] at e4
    exact r.dis2 _ _ _ _ _ h2 h4 e3 e4
  · obtain ⟨h1, h2⟩ := sub _ _ e1
    rw [List.getElem?_set_ne (Ne.symm h1)] at e3
    exact r.own2 _ _ _ h2 e3
theorem Rel.wipe (r : Rel K C sl B F b σ H) : ∀ vs : List Nat, Rel K C (wipeD sl vs) B F b (L2.wipe σ vs) H
  | [] => r
  | v :: vs => (r.wipe vs).un1 v
end

/-! ### targets -/
abbrev DG := PyData → Sl → Option Sl
abbrev DGs := List PyData → Sl → Option Sl
def liftG (K : Frg) (C : Fx) (d : DG) (ws : List Nat) : TG := fun v σ H Q => ∃ sl B F b x sl', Rel K C sl B F b σ H ∧ Rp K F v x ∧ d x sl = some sl' ∧ ∀ σ', Rel K C sl' B F b σ' H → (∀ vs : List Nat, (∀ j ∈ ws, j ∈ vs) → L2.wipe σ' vs = L2.wipe σ vs) → Q σ' H
def liftGs (K : Frg) (C : Fx) (d : DGs) (ws : List Nat) : TGs := fun v σ H Q => ∃ sl B F b x sl', Rel K C sl B F b σ H ∧ Rps K F v x ∧ d x sl = some sl' ∧ ∀ σ', Rel K C sl' B F b σ' H → (∀ vs : List Nat, (∀ j ∈ ws, j ∈ vs) → L2.wipe σ' vs = L2.wipe σ vs) → Q σ' H
def gN (i : Nat) : DG := fun x sl => some (sl.set i (some (.dat x)))
def gNil' : DGs := fun xs sl => match xs with
  | [] => some sl
  | _ => none
def gCons' (d : DG) (ds : DGs) : DGs := fun xs sl => match xs with
  | x :: r => (d x sl).bind fun s1 => ds r s1
  | [] => none
def gT (d : DGs) : DG := fun x sl => match x with
  | .tuple xs => d xs sl
  | _ => none
theorem wipe_set {σ : L2.St} {i : Nat} {x : Option V} : ∀ {vs : List Nat}, i ∈ vs → L2.wipe (σ.set i x) vs = L2.wipe σ vs
  | v :: vs, h => by
    show (L2.wipe (σ.set i x) vs).set v none = (L2.wipe σ vs).set v none
    by_cases hi : i ∈ vs
    · rw [wipe_set hi]
    · have e : v = i := by
        rcases List.mem_cons.mp h with z | z
        · exact z.symm
        · exact absurd z hi
      subst e
      have comm : ∀ (us : List Nat), v ∉ us → L2.wipe (σ.set v x) us = (L2.wipe σ us).set v x := by
        intro us
        induction us with
        | nil => intro _; rfl
        | cons u us ih =>
          intro hn
          show (L2.wipe (σ.set v x) us).set u none = ((L2.wipe σ us).set u none).set v x
          rw [ih (fun z => hn (List.mem_cons_of_mem _ z)), List.set_comm _ _ (fun z => hn (by rw [z]; exact List.mem_cons_self))]
      rw [comm vs hi, List.set_set]
  | [], h => by cases h
section
variable {X : Cx} {C : Fx} {pos : Pos}
theorem g_name (i : Nat) {x : Str} (hN : X.N.Nodup) (hi : X.N[i]? = some x := by rfl) (hx : Loc X.env.scope x := by first | exact .inl rfl | exact .inr rfl) (hf : X.fn x = true ∨ X.env.scope.names.lookup x = some .local := by first | exact .inl rfl | exact .inr rfl) : PG X (.Name x pos) (liftG X.K C (gN i) [i]) :=
  imp_g (fun v σ H Q ⟨sl, B, F, b, x, sl', R, q, e, k⟩ => by
    cases e
    exact k _ (R.put (s := .dat _) q (fun _ z => nomatch z)) (fun vs hv => wipe_set (hv i (by simp)))) (pg_name hN hi hx hf)
theorem gs_nil : PGs X [] (liftGs X.K C gNil' []) := ⟨fun pins s σ H vs us Q I r ⟨sl, B, F, b, x, sl', R, q, e, k⟩ => by
  refine pgs_nil.run pins s σ H vs us Q I r ?_
  unfold gNil' at e
  split at e
  · cases e
    cases q
    exact ⟨rfl, k σ R fun _ _ => rfl⟩
  · cases e⟩
theorem gs_cons {e : Expr} {es : List Expr} {d : DG} {ds : DGs} {ws us : List Nat} (h1 : PG X e (liftG X.K C d ws)) (h2 : PGs X es (liftGs X.K C ds us))
    (hs : (assignEach (e :: es) X.env).map (·.2) = assign e X.env :: (assignEach es X.env).map (·.2) := by rfl) : PGs X (e :: es) (liftGs X.K C (gCons' d ds) (ws ++ us)) := ⟨fun pins s σ H vs us' Q I r ⟨sl, B, F, b, x, sl', R, q, e, k⟩ => by
  refine (pgs_cons h1 h2 hs).run pins s σ H vs us' Q I r ?_
  unfold gCons' at e
  split at e
  · rename_i y ys
    obtain ⟨s1, e1, e2⟩ := bnd e
    cases q with
    | cons q1 q2 =>
      refine ⟨_, _, rfl, sl, B, F, b, y, s1, R, q1, e1, fun σ1 R1 w1 => ⟨s1, B, F, b, ys, sl', R1, q2, e2, fun σ2 R2 w2 => k σ2 R2 fun vs hv => ?_⟩⟩
      rw [w2 vs (fun j hj => hv j (List.mem_append_right _ hj)), w1 vs (fun j hj => hv j (List.mem_append_left _ hj))]
  · cases e⟩
theorem g_tup {es : List Expr} {kk : Nat} {d : DGs} {ws : List Nat} (hc : X.calm = true) (h : PGs X es (liftGs X.K C d ws)) (hd : ∀ xs sl sl', d xs sl = some sl' → xs.length = es.length)
    (hn : (assignEach es X.env).length = es.length := by rfl) (hst : (assignEach es X.env).findIdx? (·.1) = none := by rfl) : PG X (.Tuple es kk pos) (liftG X.K C (gT d) ws) :=
  imp_g (fun v σ H Q ⟨sl, B, F, b, x, sl', R, q, e, k⟩ => by
    unfold gT at e
    split at e
    · cases q with
      | tup h1 h2 => exact ⟨_, _, rfl, R.fro.sqT h1, by rw [h2.length]; exact hd _ _ _ e, sl, B, F, b, _, sl', R, h2, e, k⟩
    · cases e) (pg_tup hc h hn hst)
end
theorem glen_nil : ∀ xs sl sl', gNil' xs sl = some sl' → xs.length = 0 := fun xs sl sl' e => by
  unfold gNil' at e
  split at e
  · rfl
  · cases e
theorem glen_cons {d : DG} {ds : DGs} {n : Nat} (h : ∀ xs sl sl', ds xs sl = some sl' → xs.length = n) : ∀ xs sl sl', gCons' d ds xs sl = some sl' → xs.length = n + 1 := fun xs sl sl' e => by
  unfold gCons' at e
  split at e
  · obtain ⟨s1, e1, e2⟩ := bnd e
    rw [List.length_cons, h _ _ _ e2]
  · cases e

/-! ### what is walked -/
def Wk (K : Frg) (F : Hp) (P : Hp → Prop) (J : It) (xs : List PyData) : Prop := ∀ (i : Nat) (F' H' : Hp), Ext F F' → Ext F' H' → P H' →
  (∀ x, xs[i]? = some x → J.go i H' ∧ ∀ v H2, J.yld i H' v H2 → ∃ F2, Al F' H' F2 H2 ∧ Rp K F2 v x) ∧ (i = xs.length → J.stop i H')
def Keep (b : Bad) (H H' : Hp) : Prop := ∀ a o, H a = some o → ¬ inb b a → H' a = some o
def liftI (K : Frg) (C : Fx) (d : DL) : TI := fun σ H Rr => ∃ sl B F b xs B', Rel K C sl B F b σ H ∧ d sl B = some (xs, B') ∧ ∀ J H' F' b', Rel K C sl B' F' b' σ H' → Stp F b H F' b' H' → Wk K F' (fun _ => True) J xs → Rr J H'
def liftIo (K : Frg) (C : Fx) (d : DL) : TI := fun σ H Rr => ∃ sl B F b xs B', Rel K C sl B F b σ H ∧ d sl B = some (xs, B') ∧ ∀ J H' F' b', Rel K C sl B' F' b' σ H' → Stp F b H F' b' H' → Wk K F' (Keep b' H') J xs → Rr J H'
theorem imp_i {X : Cx} {tg e : Expr} {t t' : TI} (h : ∀ σ H Q, t' σ H Q → t σ H Q) (p : PI X tg e t) : PI X tg e t' := ⟨fun pins s σ H Q I w => p.run pins s σ H Q I (h σ H Q w)⟩
theorem io_of {X : Cx} {C : Fx} {tg e : Expr} {d : DL} (p : PI X tg e (liftI X.K C d)) : PI X tg e (liftIo X.K C d) :=
  imp_i (fun σ H Q ⟨sl, B, F, b, xs, B', R, e, k⟩ => ⟨sl, B, F, b, xs, B', R, e, fun J H' F' b' R' S' w => k J H' F' b' R' S' fun i F2 H2 h1 h2 _ => w i F2 H2 h1 h2 trivial⟩) p
theorem wk_list {K : Frg} {F H : Hp} {b : Bad} {a : Addr} {vs : List V} {xs : List PyData} {P : Hp → Prop} (hp : ∀ F' H', Ext F F' → Ext F' H' → P H' → H' a = some (.lst vs)) (r : Rps K F vs xs) : Wk K F P (Itl K a) xs := fun i F' H' h1 h2 h3 => by
  have hs : SqL K H' a vs := SqL.of (hp F' H' h1 h2 h3)
  refine ⟨fun x hx => ?_, fun hx => ⟨vs, hs, ?_⟩⟩
  · obtain ⟨v, e1, e2⟩ := r.get hx
    refine ⟨⟨vs, v, hs, e1⟩, fun u H2 ⟨y1, y2⟩ => ?_⟩
    subst y1
    have := y2 vs hs
    rw [e1] at this
    cases this
    exact ⟨F', .refl, Rp.mono h1 e2⟩
  · rw [hx, r.length]; exact Nat.le_refl _
theorem wk_tup {K : Frg} {F H : Hp} {b : Bad} {a : Addr} {vs : List V} {xs : List PyData} {P : Hp → Prop} (hp : SqT K F a vs) (r : Rps K F vs xs) : Wk K F P (Itt K a) xs := fun i F' H' h1 h2 h3 => by
  have hs : SqT K H' a vs := h2.sqT (h1.sqT hp)
  refine ⟨fun x hx => ?_, fun hx => ⟨vs, hs, ?_⟩⟩
  · obtain ⟨v, e1, e2⟩ := r.get hx
    refine ⟨⟨vs, v, hs, e1⟩, fun u H2 ⟨y1, y2⟩ => ?_⟩
    subst y1
    have := y2 vs hs
    rw [e1] at this
    cases this
    exact ⟨F', .refl, Rp.mono h1 e2⟩
  · rw [hx, r.length]; exact Nat.le_refl _
def dSeq' (d : DE) : DL := fun sl B => (d sl B).bind fun p => match p.1 with
  | .list xs => some (xs, p.2)
  | .tuple xs => some (xs, p.2)
  | _ => none
def rngD (lo : Int) (n : Nat) : List PyData := (List.range n).map fun (i : Nat) => PyData.int (lo + (i : Int))
def dRng1 (d : DE) : DL := fun sl B => (d sl B).bind fun p => match p.1 with
  | .int j => if -(2 ^ 62) ≤ j ∧ j < 2 ^ 62 then some (rngD 0 j.toNat, p.2) else none
  | _ => none
def dRng2 (d d2 : DE) : DL := fun sl B => (d sl B).bind fun p => (d2 sl p.2).bind fun q => match p.1, q.1 with
  | .int i, .int j => if -(2 ^ 62) ≤ i ∧ i < 2 ^ 62 ∧ -(2 ^ 62) ≤ j ∧ j < 2 ^ 62 then some (rngD i (j - i).toNat, q.2) else none
  | _, _ => none
theorem wk_rng {K : Frg} {F : Hp} {P : Hp → Prop} (lo : Int) (n : Nat) : Wk K F P (Itr lo n) (rngD lo n) := fun i F' H' h1 h2 h3 => by
  unfold rngD
  refine ⟨fun x hx => ?_, fun hx => ?_⟩
  · rw [List.getElem?_map] at hx
    obtain ⟨j, e1, e2⟩ := mpd hx
    have hi : i < n := by
      rcases Nat.lt_or_ge i n with z | z
      · exact z
      · rw [List.getElem?_eq_none (by simpa using z)] at e1; cases e1
    rw [List.getElem?_range hi] at e1
    cases e1
    refine ⟨hi, fun u H2 ⟨y1, y2⟩ => ?_⟩
    subst y1 y2
    rw [← e2]
    exact ⟨F', .refl, .int _⟩
  · rw [List.length_map, List.length_range] at hx
    exact Nat.le_of_eq hx.symm
section
variable {X : Cx} {C : Fx} {tg l a c : Expr} {d d2 : DE} {p pos : Pos}
theorem i_seq (h : PE X l (liftE X.K C d)) : PI X tg l (liftI X.K C (dSeq' d)) := ⟨fun pins s σ H Rr I ⟨sl, B, F, b, xs, B', R, e, k⟩ => by
  obtain ⟨⟨x, B1⟩, e1, e⟩ := bnd e
  split at e
  · rename_i ys hx
    cases e
    have hx : x = .list _ := hx
    subst hx
    refine (pi_list h).run pins s σ H Rr I ⟨sl, B, F, b, _, _, R, e1, fun v H' F' b' R' S' q => ?_⟩
    cases q with
    | lst h1 h2 => exact ⟨_, rfl, ⟨_, SqL.of (R'.fro _ _ h1)⟩, k _ H' F' b' R' S' (wk_list (H := H') (b := b') (fun F2 H2 g1 g2 _ => g2 _ _ (g1 _ _ h1)) h2)⟩
  · rename_i ys hx
    cases e
    have hx : x = .tuple _ := hx
    subst hx
    refine (pi_tup h).run pins s σ H Rr I ⟨sl, B, F, b, _, _, R, e1, fun v H' F' b' R' S' q => ?_⟩
    cases q with
    | tup h1 h2 => exact ⟨_, rfl, ⟨_, R'.fro.sqT h1⟩, k _ H' F' b' R' S' (wk_tup (H := H') (b := b') h1 h2)⟩
  · cases e⟩
theorem i_seqo (h : PE X l (liftO X.K C d)) : PI X tg l (liftIo X.K C (dSeq' d)) := ⟨fun pins s σ H Rr I ⟨sl, B, F, b, xs, B', R, e, k⟩ => by
  obtain ⟨⟨x, B1⟩, e1, e⟩ := bnd e
  split at e
  · rename_i ys hx
    cases e
    have hx : x = .list _ := hx
    subst hx
    refine (pi_list h).run pins s σ H Rr I ⟨sl, B, F, b, _, _, R, e1, fun v H' F' b' R' S' q => ?_⟩
    obtain ⟨a, vs, rfl, h1, h2, h3⟩ := q
    exact ⟨_, rfl, ⟨_, SqL.of h1⟩, k _ H' F' b' R' S' (wk_list (H := H') (b := b') (fun F2 H2 g1 g2 g3 => g3 _ _ h1 h2) h3)⟩
  · rename_i ys hx
    cases e
    have hx : x = .tuple _ := hx
    subst hx
    refine (pi_tup h).run pins s σ H Rr I ⟨sl, B, F, b, _, _, R, e1, fun v H' F' b' R' S' q => ?_⟩
    have q' : Rp X.K F' v (.tuple _) := q
    cases q' with
    | tup h1 h2 => exact ⟨_, rfl, ⟨_, R'.fro.sqT h1⟩, k _ H' F' b' R' S' (wk_tup (H := H') (b := b') h1 h2)⟩
  · cases e⟩
theorem i_rng1 (hm : X.mg "range" = none) (h : PE X a (liftO X.K C d)) (hg : Gl X "range" := by rfl) (hs : starEach [a] X.env = [(false, eval a X.env)] := by rfl) (hs' : starEach (a :: []) X.env = (false, eval a X.env) :: starEach [] X.env := by rfl) : PI X tg (.Call (.Name "range" p) [a] [] pos) (liftI X.K C (dRng1 d)) :=
  imp_i (fun σ H Q ⟨sl, B, F, b, xs, B', R, e, k⟩ => by
    obtain ⟨⟨x, B1⟩, e1, e⟩ := bnd e
    split at e
    · rename_i j hx
      split at e
      · rename_i hb
        cases e
        have hx : x = .int j := hx
        subst hx
        refine ⟨sl, B, F, b, _, _, R, e1, fun v H' F' b' R' S' q => ?_⟩
        have hv := top_int q
        subst hv
        exact ⟨j, rfl, hb.1, hb.2, k _ H' F' b' R' S' (wk_rng 0 _)⟩
      · cases e
    · cases e) (pi_range1 (ta := tCons (liftO X.K C d) tNil) hg hm (pa_cons h pa_nil hs') hs)
theorem i_rng2 (hm : X.mg "range" = none) (h : PE X a (liftO X.K C d)) (h2 : PE X c (liftO X.K C d2)) (hg : Gl X "range" := by rfl) (hs : starEach [a, c] X.env = [(false, eval a X.env), (false, eval c X.env)] := by rfl) (hs2 : starEach [c] X.env = [(false, eval c X.env)] := by rfl)
    (hs' : starEach (a :: [c]) X.env = (false, eval a X.env) :: starEach [c] X.env := by rfl) (hs2' : starEach (c :: []) X.env = (false, eval c X.env) :: starEach [] X.env := by rfl) : PI X tg (.Call (.Name "range" p) [a, c] [] pos) (liftI X.K C (dRng2 d d2)) :=
  imp_i (fun σ H Q ⟨sl, B, F, b, xs, B', R, e, k⟩ => by
    obtain ⟨⟨x, B1⟩, e1, e⟩ := bnd e
    obtain ⟨⟨y, B2⟩, e2, e⟩ := bnd e
    split at e
    · rename_i i j hx hy
      split at e
      · rename_i hb
        cases e
        have hx : x = .int i := hx
        have hy : y = .int j := hy
        subst hx hy
        refine ⟨sl, B, F, b, _, _, R, e1, fun v H' F' b' R' S' q => ⟨sl, _, F', b', _, _, R', e2, fun v2 H2 F2 b2 R2 S2 q2 => ?_⟩⟩
        have hv := top_int q
        subst hv
        have hv := top_int q2
        subst hv
        exact ⟨i, j, rfl, hb, k _ H2 F2 b2 R2 (S'.trans S2) (wk_rng _ _)⟩
      · cases e
    · cases e) (pi_range2 (ta := tCons (liftO X.K C d) (tCons (liftO X.K C d2) tNil)) hg hm (pa_cons h (pa_cons h2 pa_nil hs2') hs') hs hs2)
end
end Dn

set_option Elab.async false
set_option linter.all false
set_option autoImplicit false
set_option maxRecDepth 100000
set_option maxHeartbeats 1000000
namespace Dn
open PySem PySem.Spec PyProof.Rows L2

/-! ### comprehensions -/
def cmpGo (tg : DG) (t : DT) (e : DE) (sw : Sl) : List PyData → Bx → Option (List PyData × Bx)
  | [], B => some ([], B)
  | x :: xs, B => (tg x sw).bind fun s2 => (t s2 B).bind fun q => if q.1 = true then (e s2 q.2).bind fun y => (cmpGo tg t e sw xs y.2).map fun r => (y.1 :: r.1, r.2) else cmpGo tg t e sw xs q.2
def dCmp (it : DL) (tg : DG) (t : DT) (e : DE) (vs : List Nat) : DL := fun sl B => (it sl B).bind fun p => if p.1.length < sizeLine then cmpGo tg t e (wipeD sl vs) p.1 p.2 else none
def dYes : DT := fun _ B => some (true, B)
section
variable {X : Cx} {C : Fx}
theorem ts_nil : PTs X [] (liftT X.K C dYes) := imp_ts (fun σ H Q ⟨sl, B, F, b, rr, B', R, e, k⟩ => by
  cases e
  exact k H F b R Stp.refl) pts_nil
theorem ts_one {c : Expr} {t : DT} (h : PT X c (liftT X.K C t)) : PTs X [c] (liftT X.K C t) := pts_one h
theorem lc_imp {K : Frg} {it : DL} {tg : DG} {t : DT} {e : DE} {vs ws : List Nat} (hw : ∀ j ∈ ws, j ∈ vs) : ∀ σ H Q, liftL K C (dCmp it tg t e vs) σ H Q → tLc (liftIo K C it) (liftG K C tg ws) (liftT K C t) (liftE K C e) vs σ H Q :=
  fun σ H Q ⟨sl, B, F, b, rr, B', R, he, k⟩ => by
    obtain ⟨⟨xs, B1⟩, e1, he⟩ := bnd he
    simp only at he
    split at he
    case isFalse => cases he
    case isTrue hz =>
    refine ⟨sl, B, F, b, xs, B1, R, e1, fun J H1 F1 b1 R1 S1 wk D hD => ?_⟩
    have d0 : C.H0 D = none := R1.t0 hD
    have dF : F1 D = none := not_in_F R1.fro hD
    have db : ¬ inb b1 D := R1.nbx hD
    have own : ∀ (j : Nat) (ys : List PyData), sl[j]? = some (some (.own ys)) → σ[j]? ≠ some (some (.ref D)) := fun j ys e => R1.ownT e hD
    have dicn : ∀ (j : Nat) (ys : List (Int × PyData)), sl[j]? = some (some (.dic ys)) → σ[j]? ≠ some (some (.ref D)) := fun j ys e => R1.dicT e fun ks z => by rw [hD] at z; cases z
    refine ⟨fun i m H' => m = xs.length - i ∧ i ≤ xs.length ∧ ∃ F' b' B2 acc da rest, Rel K C sl B2 F' b' σ H' ∧ Stp F1 b1 H1 F' b' H' ∧ H' D = some (.lst acc) ∧ F' D = none ∧ ¬ inb b' D ∧ Rps K F' acc da ∧ acc.length ≤ i ∧ cmpGo tg t e (wipeD sl vs) (xs.drop i) B2 = some (rest, B') ∧ da ++ rest = rr,
      ⟨_, rfl, Nat.zero_le _, F1, b1, B1, [], [], rr, R1.tmp dF db d0 own dicn, Stp.new hD, upd_same, dF, db, .nil, Nat.zero_le _, he, rfl⟩, ?_⟩
    rintro i m H' ⟨rfl, hi, F', b', B2, acc, da, rest, R2, S2, h1, h2, h3, h4, h5, h6, h7⟩
    have kp : Keep b1 H1 H' := fun a o g n => S2.pr a o g n
    obtain ⟨w1, w2⟩ := wk i F' H' S2.ex R2.fro kp
    by_cases hlt : i < xs.length
    · have hx : xs[i]? = some xs[i] := List.getElem?_eq_getElem hlt
      obtain ⟨go, yl⟩ := w1 _ hx
      rw [List.drop_eq_getElem_cons hlt] at h6
      unfold cmpGo at h6
      obtain ⟨s2, g1, h6⟩ := bnd h6
      obtain ⟨⟨tb, B3⟩, g2, h6⟩ := bnd h6
      refine .inr ⟨go, fun H'' => ∃ F' b' B2 acc da rest, Rel K C sl B2 F' b' σ H'' ∧ Stp F1 b1 H1 F' b' H'' ∧ H'' D = some (.lst acc) ∧ F' D = none ∧ ¬ inb b' D ∧ Rps K F' acc da ∧ acc.length ≤ i + 1 ∧ cmpGo tg t e (wipeD sl vs) (xs.drop (i + 1)) B2 = some (rest, B') ∧ da ++ rest = rr,
        fun H'' hn => ⟨xs.length - (i + 1), by omega, rfl, hlt, hn⟩, fun v H2 y => ?_⟩
      obtain ⟨F2, al, rv⟩ := yl v H2 y
      obtain ⟨R3, S3⟩ := al.rel R2
      have D2 : H2 D = some (.lst acc) := S3.pr D _ h1 h3
      have F2D : F2 D = none := S3.ko D (by rw [h1]; exact Option.some_ne_none _) h2
      refine ⟨wipeD sl vs, B2, F2, b', xs[i], s2, R3.wipe vs, rv, g1, fun σ2 R4 wq => ⟨by rw [wq vs hw]; exact (by
        have : ∀ (us : List Nat) (τ : L2.St), (∀ u ∈ us, u ∈ vs) → True := fun _ _ _ => trivial
        exact wipe_wipe σ vs), s2, B2, F2, b', tb, B3, R4, g2, fun H3 F3 b3 R5 S5 => ?_⟩⟩
      have D3 : H3 D = some (.lst acc) := S5.pr D _ D2 h3
      have nb3 : ¬ inb b3 D := fun z => by
        rcases S5.nb D z with q | q
        · exact h3 q
        · rw [D2] at q; cases q
      have F3D : F3 D = none := S5.ko D (by rw [D2]; exact Option.some_ne_none _) F2D
      cases tb with
      | false =>
        refine iteF ⟨F3, b3, B3, acc, da, rest, R3.step S5 R5.fro R5.bx, S2.trans (S3.trans S5), D3, F3D, nb3, Rps.mono (S3.ex.trans S5.ex) h4, by omega, ?_, h7⟩
        exact h6
      | true =>
        have h6 : (e s2 B3).bind (fun y => (cmpGo tg t e (wipeD sl vs) (xs.drop (i + 1)) y.2).map fun r => (y.1 :: r.1, r.2)) = some (rest, B') := h6
        obtain ⟨⟨y, B4⟩, g3, h6⟩ := bnd h6
        obtain ⟨⟨rs, B5⟩, g4, h6⟩ := mpd h6
        refine iteT ⟨s2, B3, F3, b3, y, B4, R5, g3, fun u H4 F4 b4 R6 S6 q6 => ?_⟩
        have D4 : H4 D = some (.lst acc) := S6.pr D _ D3 nb3
        have nb4 : ¬ inb b4 D := fun z => by
          rcases S6.nb D z with q | q
          · exact nb3 q
          · rw [D3] at q; cases q
        have F4D : F4 D = none := S6.ko D (by rw [D3]; exact Option.some_ne_none _) F3D
        refine ⟨acc, D4, Nat.lt_of_le_of_lt h5 (Nat.lt_of_lt_of_le hlt (Nat.le_of_lt hz)), F4, b4, B4, acc ++ [u], da ++ [y], rs, ?_, ?_, upd_same, F4D, nb4, Rps.append (Rps.mono (S3.ex.trans (S5.ex.trans S6.ex)) h4) (.one q6), ?_, ?_, ?_⟩
        · have R7 : Rel K C sl B4 F4 b4 σ H4 := R3.step (S5.trans S6) R6.fro R6.bx
          exact R7.tmp F4D nb4 d0 own dicn
        · have S7 := S2.trans (S3.trans (S5.trans S6))
          exact ⟨S7.ex, fun a o g n => by
            rw [upd_ne (ne_of_none g hD)]
            exact S7.pr a o g n, S7.ko, S7.bb, S7.nb, fun a g => by
            rw [upd_ne (fun z => by subst z; exact g hD)]
            exact S7.tr a g⟩
        · rw [List.length_append]; show acc.length + 1 ≤ i + 1; omega
        · injection h6 with q1 q2
          rw [← q2]; exact g4
        · injection h6 with q1 q2
          rw [← h7, ← q1, List.append_assoc]; rfl
    · have e0 : i = xs.length := by omega
      subst e0
      refine .inl ⟨w2 rfl, ?_⟩
      rw [List.drop_length] at h6
      cases h6
      rw [List.append_nil] at h7
      subst h7
      have hD0 : H D = none := by
        cases z : H D with
        | none => rfl
        | some o => exact absurd hD (S1.tr D (by rw [z]; exact Option.some_ne_none _))
      exact k D acc H' F' b' R2 (S1.trans S2) hD0 h2 h3 h1 h4
where
  wipe_wipe (σ : L2.St) : ∀ (vs : List Nat), L2.wipe (L2.wipe σ vs) vs = L2.wipe σ vs := fun vs => by
    have key : ∀ (us : List Nat) (τ : L2.St), (∀ u ∈ us, u < τ.length → τ[u]? = some none) → L2.wipe τ us = τ := by
      intro us
      induction us with
      | nil => intro _ _; rfl
      | cons u us ih =>
        intro τ h
        show (L2.wipe τ us).set u none = τ
        rw [ih τ (fun w hw => h w (List.mem_cons_of_mem _ hw))]
        apply List.ext_getElem?
        intro j
        by_cases z : u = j
        · subst z
          by_cases hl : u < τ.length
          · rw [List.getElem?_set_self hl, h u List.mem_cons_self hl]
          · rw [List.getElem?_eq_none (by simpa using hl), List.getElem?_eq_none (by simpa using hl)]
        · rw [List.getElem?_set_ne z]
    refine key vs _ fun u hu hl => ?_
    have : ∀ (us : List Nat), u ∈ us → u < (L2.wipe σ us).length → (L2.wipe σ us)[u]? = some none := by
      intro us
      induction us with
      | nil => intro h; cases h
      | cons x us ih =>
        intro h hl
        show ((L2.wipe σ us).set x none)[u]? = some none
        have hl' : u < (L2.wipe σ us).length := by
          have : u < ((L2.wipe σ us).set x none).length := hl
          rwa [List.length_set] at this
        by_cases z : x = u
        · subst z
          rw [List.getElem?_set_self hl']
        · rw [List.getElem?_set_ne z]
          rcases List.mem_cons.mp h with q | q
          · exact absurd q.symm z
          · exact ih q hl'
    exact this vs hu hl
theorem l_lc {elt tg iter : Expr} {ifs : List Expr} {scope : Scope} {own : List (Str × Nat)} {pos : Pos} {it : DL} {dg : DG} {t : DT} {e : DE} {ws : List Nat} (hc : X.calm = true) (hN : X.N.Nodup) (hi : PI X tg iter (liftIo X.K C it)) (ok : BlkOk X.N X.env.scope scope own)
    (hg : ∀ (s : Shared) (H : Hp) (CC : Addr) (cl : List (Str × Addr)) (fp : List Addr), PG (X.blk s H scope (compEnvC scope cl CC X.env) fp) tg (liftG X.K C dg ws)) (ht : ∀ (s : Shared) (H : Hp) (CC : Addr) (cl : List (Str × Addr)) (fp : List Addr), PTs (X.blk s H scope (compEnvC scope cl CC X.env) fp) ifs (liftT X.K C t))
    (he : ∀ (s : Shared) (H : Hp) (CC : Addr) (cl : List (Str × Addr)) (fp : List Addr), PE (X.blk s H scope (compEnvC scope cl CC X.env) fp) elt (liftE X.K C e)) {us : List Nat} (hu : own.map (·.2) = us := by rfl) (hw : ∀ j ∈ ws, j ∈ us := by decide) (hs : ∀ x, foldedSetIterable iter X.env x = pure x := by intro _; rfl) :
    PE X (.ListComp elt [⟨tg, iter, ifs, 0⟩] scope pos) (liftL X.K C (dCmp it dg t e us)) := by
  subst hu
  exact imp_e (lc_imp hw) (pe_lc hc hN hi ok hg ht he hs)
end

/-! ### a def's call -/
abbrev FD := List Sv → Bx → Option (Sv × Bx)
def spD (K : Frg) (f : FD) : Sp := fun vs H Q _ => ∃ F b B ss r B', Ext F H ∧ BxR F H b B ∧ SvsR K F H b vs ss ∧ f ss B = some (r, B') ∧ ∀ v H' F' b', Ext F' H' → BxR F' H' b' B' → Stp F b H F' b' H' → SvR K F' H' b' v r → Q v H'
def dFn (f : FD) (da : DA) : DE := fun sl B => (da sl B).bind fun p => (f p.1 p.2).bind fun q => match q.1 with
  | .dat z => some (z, q.2)
  | _ => none
def dFnV (f : FD) (da : DA) : DV := fun sl B => (da sl B).bind fun p => f p.1 p.2
section
variable {X : Cx} {C : Fx} {k : Nat} {f : Addr} {fd : FuncData} {ps : List Str} {fD : FD} {x : Str} {p pos : Pos} {e : Expr} {es : List Expr} {da : DA}
theorem fn_imp : ∀ σ H Q, liftE X.K C (dFn fD da) σ H Q → tCall (spD X.K fD) [] E0 (liftA X.K C da) σ H Q :=
  fun σ H Q ⟨sl, B, F, b, rr, B', R, e, k⟩ => by
    obtain ⟨⟨ss, B1⟩, e1, e⟩ := bnd e
    obtain ⟨⟨r, B2⟩, e2, e⟩ := bnd e
    split at e
    · rename_i z hz
      cases e
      have hz : r = .dat _ := hz
      subst hz
      refine ⟨sl, B, F, b, ss, B1, R, e1, fun vs H1 F1 b1 R1 S1 q1 => ?_⟩
      show spD X.K fD (vs ++ []) H1 Q E0
      rw [List.append_nil]
      exact ⟨F1, b1, B1, ss, _, _, R1.fro, R1.bx, q1, e2, fun v H2 F2 b2 fr bx S2 q2 => k v H2 F2 b2 (R1.step S2 fr bx) (S1.trans S2) q2⟩
    · cases e
theorem fnV_imp : ∀ σ H Q, liftV X.K C (dFnV fD da) σ H Q → tCall (spD X.K fD) [] E0 (liftA X.K C da) σ H Q :=
  fun σ H Q ⟨sl, B, F, b, rr, B', R, e, k⟩ => by
    obtain ⟨⟨ss, B1⟩, e1, e⟩ := bnd e
    refine ⟨sl, B, F, b, ss, B1, R, e1, fun vs H1 F1 b1 R1 S1 q1 => ?_⟩
    show spD X.K fD (vs ++ []) H1 Q E0
    rw [List.append_nil]
    exact ⟨F1, b1, B1, ss, rr, B', R1.fro, R1.bx, q1, e, fun v H2 F2 b2 fr bx S2 q2 => k v H2 F2 b2 (R1.step S2 fr bx) (S1.trans S2) q2⟩
/-- what a caller has of a def -/
structure Def (P : Program) (w : World) (K : Frg) (mg : Str → Option Value) (base : Heap) (k : Nat) (x : Str) (fD : FD) : Prop where
  ex : ∃ (f : Addr) (fd : FuncData) (ps : List Str), FnOk P w K mg base CX0 k f fd ps (spD K fD) ∧ mg x = some (.ref f) ∧ PySem.W.keepIn K (.ref f) = true ∧ Binds K fd ps []
theorem e_fn (D : Def X.prog X.w X.K X.mg X.base k x fD) (hr : Room k X.A) (ha : PA X (e :: es) (liftA X.K C da)) (hg : Gl X x := by rfl) (hdb : (x == ("__debug__" : Str)) = false := by decide) (he : starEach (e :: es) X.env = (false, eval e X.env) :: starEach es X.env := by rfl) (hpl : (backTo pos (starEach es X.env)).any (·.1) = false := by rfl) :
    PE X (.Call (.Name x p) (e :: es) [] pos) (liftE X.K C (dFn fD da)) := by
  obtain ⟨f, fd, ps, h1, h2, h3, h4⟩ := D.ex
  exact imp_e fn_imp (pe_call h1 hr hg h2 h3 h4 .nil pass0 ha hdb he hpl)
theorem v_fn (D : Def X.prog X.w X.K X.mg X.base k x fD) (hr : Room k X.A) (ha : PA X (e :: es) (liftA X.K C da)) (hg : Gl X x := by rfl) (hdb : (x == ("__debug__" : Str)) = false := by decide) (he : starEach (e :: es) X.env = (false, eval e X.env) :: starEach es X.env := by rfl) (hpl : (backTo pos (starEach es X.env)).any (·.1) = false := by rfl) :
    PE X (.Call (.Name x p) (e :: es) [] pos) (liftV X.K C (dFnV fD da)) := by
  obtain ⟨f, fd, ps, h1, h2, h3, h4⟩ := D.ex
  exact imp_e fnV_imp (pe_call h1 hr hg h2 h3 h4 .nil pass0 ha hdb he hpl)
end

/-! ### statements -/
inductive Out where
  | nx (sl : Sl) (B : Bx) | bk (sl : Sl) (B : Bx) | ct (sl : Sl) (B : Bx) | rt (r : Sv) (B : Bx)
abbrev DS := Sl → Bx → Option Out
def OutP (K : Frg) (C : Fx) (F : Hp) (D : Ends) : Out → Prop
  | .nx sl B => ∀ F' b' σ' H', Rel K C sl B F' b' σ' H' → Ext F F' → D.nx σ' H'
  | .bk sl B => ∀ F' b' σ' H', Rel K C sl B F' b' σ' H' → Ext F F' → D.bk σ' H'
  | .ct sl B => ∀ F' b' σ' H', Rel K C sl B F' b' σ' H' → Ext F F' → D.ct σ' H'
  | .rt r B => ∀ sl v F' b' σ' H', Rel K C sl B F' b' σ' H' → Ext F F' → SvR K F' H' b' v r → D.rt v H'
theorem OutP.mono {K : Frg} {C : Fx} {F F' : Hp} {D : Ends} {o : Out} (e : Ext F F') (h : OutP K C F D o) : OutP K C F' D o := by
  cases o with
  | nx sl B => exact fun F2 b σ H R e2 => h F2 b σ H R (e.trans e2)
  | bk sl B => exact fun F2 b σ H R e2 => h F2 b σ H R (e.trans e2)
  | ct sl B => exact fun F2 b σ H R e2 => h F2 b σ H R (e.trans e2)
  | rt r B => exact fun sl v F2 b σ H R e2 => h sl v F2 b σ H R (e.trans e2)
def liftS (K : Frg) (C : Fx) (d : DS) : TS := fun D σ H => ∃ sl B F b o, Rel K C sl B F b σ H ∧ d sl B = some o ∧ OutP K C F D o
def dNext : DS := fun sl B => some (.nx sl B)
def dSeq (d1 d2 : DS) : DS := fun sl B => (d1 sl B).bind fun o => match o with
  | .nx s2 B2 => d2 s2 B2
  | o => some o
def dAsg (i : Nat) (d : DE) : DS := fun sl B => (d sl B).map fun p => .nx (sl.set i (some (.dat p.1))) p.2
def dAsgV (i : Nat) (d : DV) : DS := fun sl B => (d sl B).bind fun p => match p.1 with
  | .own _ => none
  | .dic _ => none
  | s => some (.nx (sl.set i (some s)) p.2)
def dAsgO (i : Nat) (d : DL) : DS := fun sl B => (d sl B).map fun p => .nx (sl.set i (some (.own p.1))) p.2
def dAsgG (tg : DG) (d : DE) : DS := fun sl B => (d sl B).bind fun p => (tg p.1 sl).map fun s2 => .nx s2 p.2
def dPar (i j : Nat) (d d2 : DE) : DS := fun sl B => (d sl B).bind fun p => (d2 sl p.2).map fun q => .nx ((sl.set i (some (.dat p.1))).set j (some (.dat q.1))) q.2
def dDrop (d : DE) : DS := fun sl B => (d sl B).map fun p => .nx sl p.2
def dRet (d : DE) : DS := fun sl B => (d sl B).map fun p => .rt (.dat p.1) p.2
def dRetV (d : DV) : DS := fun sl B => (d sl B).map fun p => .rt p.1 p.2
def dRetN : DS := fun _ B => some (.rt (.dat .none) B)
def dIfS (t : DT) (d1 d2 : DS) : DS := fun sl B => (t sl B).bind fun p => if p.1 = true then d1 sl p.2 else d2 sl p.2
def dBreak : DS := fun sl B => some (.bk sl B)
def dCont : DS := fun sl B => some (.ct sl B)
def dNever : DS := fun _ _ => none
def dFz (i : Nat) (d : DS) : DS := fun sl B => match sl[i]? with
  | some (some (.own xs)) => d (sl.set i (some (.dat (.list xs)))) B
  | _ => d sl B
def dApp (j : Nat) (d : DE) : DS := fun sl B => (d sl B).bind fun p => match sl[j]? with
  | some (some (.own xs)) => if xs.length < sizeLine then some (.nx (sl.set j (some (.own (xs ++ [p.1])))) p.2) else none
  | _ => none
def loopOut (k : Sl → Bx → Option Out) : Out → Option Out
  | .nx s B => k s B
  | .ct s B => k s B
  | .bk s B => some (.nx s B)
  | .rt r B => some (.rt r B)
def forGo (tg : DG) (body : DS) : List PyData → Sl → Bx → Option Out
  | [], sl, B => some (.nx sl B)
  | x :: xs, sl, B => (tg x sl).bind fun s1 => (body s1 B).bind (loopOut (forGo tg body xs))
def dFor (it : DL) (tg : DG) (body : DS) : DS := fun sl B => (it sl B).bind fun p => forGo tg body p.1 sl p.2
def whN (c : DT) (b : DS) : Nat → Sl → Bx → Option Out
  | 0, _, _ => none
  | n + 1, sl, B => (c sl B).bind fun p => if p.1 = true then (b sl p.2).bind (loopOut (whN c b n)) else some (.nx sl p.2)
open Classical in
noncomputable def dWhile (c : DT) (b : DS) : DS := fun sl B => if h : ∃ o n, whN c b n sl B = some o then some (Classical.choose h) else none
theorem loopOut_mono {k k' : Sl → Bx → Option Out} (h : ∀ s B o, k s B = some o → k' s B = some o) {x o : Out} (e : loopOut k x = some o) : loopOut k' x = some o := by
  cases x with
  | nx s B => exact h s B o e
  | ct s B => exact h s B o e
  | bk s B => exact e
  | rt r B => exact e
theorem whN_succ (c : DT) (b : DS) : ∀ n sl B o, whN c b n sl B = some o → whN c b (n + 1) sl B = some o := by
  intro n
  induction n with
  | zero => intro sl B o e; cases e
  | succ n ih =>
    intro sl B o e
    unfold whN at e
    obtain ⟨⟨t, B1⟩, e1, e⟩ := bnd e
    unfold whN
    rw [e1]
    show (if t = true then (b sl B1).bind (loopOut (whN c b (n + 1))) else some (.nx sl B1)) = some o
    cases t with
    | false => exact e
    | true =>
      rw [if_pos rfl]
      have e : (b sl B1).bind (loopOut (whN c b n)) = some o := e
      obtain ⟨x, e2, e3⟩ := bnd e
      rw [e2]
      exact loopOut_mono (fun s B o => ih s B o) e3
theorem whN_le (c : DT) (b : DS) {n m : Nat} (h : n ≤ m) {sl B o} (e : whN c b n sl B = some o) : whN c b m sl B = some o := by
  induction h with
  | refl => exact e
  | step _ ih => exact whN_succ c b _ sl B o ih
theorem dWhile_of {c : DT} {b : DS} {n : Nat} {sl : Sl} {B : Bx} {o : Out} (e : whN c b n sl B = some o) : dWhile c b sl B = some o := by
  have h : ∃ o n, whN c b n sl B = some o := ⟨o, n, e⟩
  unfold dWhile
  rw [dif_pos h]
  obtain ⟨m, em⟩ := Classical.choose_spec h
  have e1 := whN_le c b (Nat.le_max_left n m) e
  have e2 := whN_le c b (Nat.le_max_right n m) em
  rw [e1] at e2
  exact e2.symm
theorem dWhile_ex {c : DT} {b : DS} {sl : Sl} {B : Bx} {o : Out} (e : dWhile c b sl B = some o) : ∃ n, whN c b n sl B = some o := by
  unfold dWhile at e
  split at e
  · rename_i h
    obtain ⟨m, em⟩ := Classical.choose_spec h
    cases e
    exact ⟨m, em⟩
  · cases e
/-- one turn of a while -/
theorem dWhile_turn {c : DT} {b : DS} {sl s2 : Sl} {B B1 B2 : Bx} {o : Out} (h1 : c sl B = some (true, B1)) (h2 : b sl B1 = some (.nx s2 B2)) (h3 : dWhile c b s2 B2 = some o) : dWhile c b sl B = some o := by
  obtain ⟨n, e⟩ := dWhile_ex h3
  refine dWhile_of (n := n + 1) ?_
  unfold whN
  rw [h1]
  show (b sl B1).bind _ = _
  rw [h2]
  exact e
theorem dWhile_ret {c : DT} {b : DS} {sl : Sl} {B B1 B2 : Bx} {r : Sv} (h1 : c sl B = some (true, B1)) (h2 : b sl B1 = some (.rt r B2)) : dWhile c b sl B = some (.rt r B2) := by
  refine dWhile_of (n := 1) ?_
  unfold whN
  rw [h1]
  show (b sl B1).bind _ = _
  rw [h2]
  rfl
theorem dWhile_end {c : DT} {b : DS} {sl : Sl} {B B1 : Bx} (h1 : c sl B = some (false, B1)) : dWhile c b sl B = some (.nx sl B1) := by
  refine dWhile_of (n := 1) ?_
  unfold whN
  rw [h1]
  rfl
section
variable {X : Cx} {C : Fx} {st : Stmt} {rest : List Stmt} {d1 d2 : DS} {e : Expr} {d : DE} {pos : Pos}
theorem ss_nil : PSs X [] (liftS X.K C dNext) := imp_ss (fun D σ H ⟨sl, B, F, b, o, R, e, k⟩ => by
  cases e
  exact k F b σ H R (Ext.refl _)) pss_nil
theorem ss_cons (h1 : PS X st (liftS X.K C d1)) (h2 : PSs X rest (liftS X.K C d2)) : PSs X (st :: rest) (liftS X.K C (dSeq d1 d2)) := imp_ss (fun D σ H ⟨sl, B, F, b, o, R, e, k⟩ => by
  obtain ⟨o1, e1, e⟩ := bnd e
  refine ⟨sl, B, F, b, o1, R, e1, ?_⟩
  cases o1 with
  | nx s2 B2 => exact fun F' b' σ' H' R' ex => ⟨s2, B2, F', b', o, R', e, k.mono ex⟩
  | bk s2 B2 => cases e; exact k
  | ct s2 B2 => cases e; exact k
  | rt r B2 => cases e; exact k) (pss_cons h1 h2)
theorem ss_one (h1 : PS X st (liftS X.K C d1)) : PSs X [st] (liftS X.K C d1) := pss_one h1
theorem ss_fz (i : Nat) (h : PSs X rest (liftS X.K C d1)) : PSs X rest (liftS X.K C (dFz i d1)) := imp_ss (fun D σ H ⟨sl, B, F, b, o, R, e, k⟩ => by
  unfold dFz at e
  split at e
  · rename_i xs hx
    obtain ⟨F', ex, R'⟩ := R.frz hx
    exact ⟨_, B, F', b, o, R', e, k.mono ex⟩
  · exact ⟨sl, B, F, b, o, R, e, k⟩) h
theorem s_never : PS X st (liftS X.K C dNever) := imp_s (fun D σ H ⟨sl, B, F, b, o, R, e, k⟩ => by cases e) ps_never
theorem s_pass : PS X (.Pass pos) (liftS X.K C dNext) := imp_s (fun D σ H ⟨sl, B, F, b, o, R, e, k⟩ => by
  cases e
  exact k F b σ H R (Ext.refl _)) ps_pass
theorem s_break : PS X (.Break pos) (liftS X.K C dBreak) := imp_s (fun D σ H ⟨sl, B, F, b, o, R, e, k⟩ => by
  cases e
  exact k F b σ H R (Ext.refl _)) ps_break
theorem s_cont : PS X (.Continue pos) (liftS X.K C dCont) := imp_s (fun D σ H ⟨sl, B, F, b, o, R, e, k⟩ => by
  cases e
  exact k F b σ H R (Ext.refl _)) ps_continue
theorem s_ret (h : PE X e (liftE X.K C d)) : PS X (.Return (some e) pos) (liftS X.K C (dRet d)) := imp_s (fun D σ H ⟨sl, B, F, b, o, R, e, k⟩ => by
  obtain ⟨⟨x, B1⟩, e1, e⟩ := mpd e
  cases e
  exact ⟨sl, B, F, b, _, _, R, e1, fun v H' F' b' R' S' q => k sl v F' b' σ H' R' S'.ex q⟩) (ps_ret h)
theorem s_retV {d : DV} (h : PE X e (liftV X.K C d)) : PS X (.Return (some e) pos) (liftS X.K C (dRetV d)) := imp_s (fun D σ H ⟨sl, B, F, b, o, R, e, k⟩ => by
  obtain ⟨⟨x, B1⟩, e1, e⟩ := mpd e
  cases e
  exact ⟨sl, B, F, b, _, _, R, e1, fun v H' F' b' R' S' q => k sl v F' b' σ H' R' S'.ex q⟩) (ps_ret h)
theorem s_retN : PS X (.Return none pos) (liftS X.K C dRetN) := imp_s (fun D σ H ⟨sl, B, F, b, o, R, e, k⟩ => by
  cases e
  exact k sl .non F b σ H R (Ext.refl _) .non) ps_retN
theorem s_drop (h : PE X e (liftE X.K C d)) (hs : swapsWith e none pos.line X.env = pure false := by rfl) : PS X (.Expr e pos) (liftS X.K C (dDrop d)) := imp_s (fun D σ H ⟨sl, B, F, b, o, R, e, k⟩ => by
  obtain ⟨⟨x, B1⟩, e1, e⟩ := mpd e
  cases e
  exact ⟨sl, B, F, b, _, _, R, e1, fun v H' F' b' R' S' q => k F' b' σ H' R' S'.ex⟩) (ps_expr h hs)
theorem s_if {c : Expr} {a b : List Stmt} {t : DT} (hc : PT X c (liftT X.K C t)) (ha : PSs X a (liftS X.K C d1)) (hb : PSs X b (liftS X.K C d2)) : PS X (.If c a b pos) (liftS X.K C (dIfS t d1 d2)) := imp_s (fun D σ H ⟨sl, B, F, b, o, R, e, k⟩ => by
  obtain ⟨⟨x, B1⟩, e1, e⟩ := bnd e
  refine ⟨sl, B, F, b, x, B1, R, e1, fun H' F' b' R' S' => ?_⟩
  cases x with
  | true => exact iteT ⟨sl, B1, F', b', o, R', e, k.mono S'.ex⟩
  | false => exact iteF ⟨sl, B1, F', b', o, R', e, k.mono S'.ex⟩) (ps_if hc ha hb)
theorem asg_imp {i : Nat} : ∀ D σ H, liftS X.K C (dAsg i d) D σ H → tAsg (liftE X.K C d) (gName i) D σ H := fun D σ H ⟨sl, B, F, b, o, R, e, k⟩ => by
  obtain ⟨⟨x, B1⟩, e1, e⟩ := mpd e
  cases e
  exact ⟨sl, B, F, b, _, _, R, e1, fun v H' F' b' R' S' q => k F' b' _ H' (R'.put (s := .dat _) q (fun _ z => nomatch z)) S'.ex⟩
theorem asgO_imp {i : Nat} {d : DL} : ∀ D σ H, liftS X.K C (dAsgO i d) D σ H → tAsg (liftL X.K C d) (gName i) D σ H := fun D σ H ⟨sl, B, F, b, o, R, e, k⟩ => by
  obtain ⟨⟨x, B1⟩, e1, e⟩ := mpd e
  cases e
  exact ⟨sl, B, F, b, _, _, R, e1, fun a vs H' F' b' R' S' h0 h1 h2 h3 h4 => k F' b' _ H' (R'.putO h3 h4 h1 h2 (R.t0 h0) (fun j ys ej => R.ownT ej h0)) S'.ex⟩
theorem s_set (i : Nat) {x : Str} {pos' : Pos} (hN : X.N.Nodup) (he : PE X e (liftE X.K C d)) (hi : X.N[i]? = some x := by rfl) (hx : Loc X.env.scope x := by first | exact .inl rfl | exact .inr rfl) (hs : swapsWith e (some (.Name x pos')) pos.line X.env = pure false := by rfl) (hf : X.fn x = true ∨ X.env.scope.names.lookup x = some .local := by first | exact .inl rfl | exact .inr rfl) :
    PS X (.Assign [.Name x pos'] e pos) (liftS X.K C (dAsg i d)) := imp_s asg_imp (ps_set hN hi hx he hs hf)
theorem s_setO (i : Nat) {x : Str} {pos' : Pos} {d : DL} (hN : X.N.Nodup) (he : PE X e (liftL X.K C d)) (hi : X.N[i]? = some x := by rfl) (hx : Loc X.env.scope x := by first | exact .inl rfl | exact .inr rfl) (hs : swapsWith e (some (.Name x pos')) pos.line X.env = pure false := by rfl) (hf : X.fn x = true ∨ X.env.scope.names.lookup x = some .local := by first | exact .inl rfl | exact .inr rfl) :
    PS X (.Assign [.Name x pos'] e pos) (liftS X.K C (dAsgO i d)) := imp_s asgO_imp (ps_set hN hi hx he hs hf)
theorem s_setV (i : Nat) {x : Str} {pos' : Pos} {d : DV} (hN : X.N.Nodup) (he : PE X e (liftV X.K C d)) (hi : X.N[i]? = some x := by rfl) (hx : Loc X.env.scope x := by first | exact .inl rfl | exact .inr rfl) (hs : swapsWith e (some (.Name x pos')) pos.line X.env = pure false := by rfl) (hf : X.fn x = true ∨ X.env.scope.names.lookup x = some .local := by first | exact .inl rfl | exact .inr rfl) :
    PS X (.Assign [.Name x pos'] e pos) (liftS X.K C (dAsgV i d)) := imp_s (fun D σ H ⟨sl, B, F, b, o, R, e, k⟩ => by
  obtain ⟨⟨x, B1⟩, e1, e⟩ := bnd e
  cases x with
  | own xs => cases e
  | dat z => cases e; exact ⟨sl, B, F, b, _, _, R, e1, fun v H' F' b' R' S' q => k F' b' _ H' (R'.put q (fun xs z => nomatch z)) S'.ex⟩
  | box => cases e; exact ⟨sl, B, F, b, _, _, R, e1, fun v H' F' b' R' S' q => k F' b' _ H' (R'.put q (fun xs z => nomatch z)) S'.ex⟩
  | cells => cases e; exact ⟨sl, B, F, b, _, _, R, e1, fun v H' F' b' R' S' q => k F' b' _ H' (R'.put q (fun xs z => nomatch z)) S'.ex⟩
  | dic _ => cases e
  | fdc _ => cases e; exact ⟨sl, B, F, b, _, _, R, e1, fun v H' F' b' R' S' q => k F' b' _ H' (R'.put q (fun xs z => nomatch z)) S'.ex⟩
  | scr ns => cases e; exact ⟨sl, B, F, b, _, _, R, e1, fun v H' F' b' R' S' q => k F' b' _ H' (R'.put q (fun xs z => nomatch z)) S'.ex⟩) (ps_set hN hi hx he hs hf)
/-- y = [.. for ..]: frozen | one's own -/
theorem s_setLc (i : Nat) {y : Str} {py : Pos} {elt tg iter : Expr} {ifs : List Expr} {scope : Scope} {own : List (Str × Nat)} {pos spos : Pos} {it : DL} {dg : DG} {t : DT} {e : DE} {ws : List Nat} (hc : X.calm = true) (hN : X.N.Nodup) (hsw : swapsWith (.ListComp elt [⟨tg, iter, ifs, 0⟩] scope pos) (some (.Name y py)) spos.line X.env = pure true) (hi : PI X tg iter (liftIo X.K C it)) (ok : BlkOk X.N X.env.scope scope own)
    (hg : ∀ (s : Shared) (H : Hp) (CC : Addr) (cl : List (Str × Addr)) (fp : List Addr), PG (X.blk s H scope (compEnvC scope cl CC X.env) fp) tg (liftG X.K C dg ws)) (ht : ∀ (s : Shared) (H : Hp) (CC : Addr) (cl : List (Str × Addr)) (fp : List Addr), PTs (X.blk s H scope (compEnvC scope cl CC X.env) fp) ifs (liftT X.K C t))
    (he : ∀ (s : Shared) (H : Hp) (CC : Addr) (cl : List (Str × Addr)) (fp : List Addr), PE (X.blk s H scope (compEnvC scope cl CC X.env) fp) elt (liftE X.K C e)) (hy : X.N[i]? = some y := by rfl) (hyl : X.env.scope.names.lookup y = some .local := by rfl) {us : List Nat} (hu : own.map (·.2) = us := by rfl) (hw : ∀ j ∈ ws, j ∈ us := by decide) (hs : ∀ x, foldedSetIterable iter X.env x = pure x := by intro _; rfl) :
    PS X (.Assign [.Name y py] (.ListComp elt [⟨tg, iter, ifs, 0⟩] scope pos) spos) (liftS X.K C (dAsgO i (dCmp it dg t e us))) := by
  subst hu
  exact imp_s (fun D σ H w => lc_imp hw σ H _ (asgO_imp D σ H w)) (ps_setLc hc hN hy hyl hsw hi ok hg ht he hs)
theorem s_asgG {tg : Expr} {dg : DG} {ws : List Nat} (he : PE X e (liftE X.K C d)) (hg : PG X tg (liftG X.K C dg ws)) (hs : swapsWithSole [tg] e pos.line X.env = pure false := by rfl) (hw : swappedStores [tg] e X.env = pure none := by rfl)
    (h1 : (assignEach [tg] X.env).map (·.2) = [assign tg X.env] := by rfl) : PS X (.Assign [tg] e pos) (liftS X.K C (dAsgG dg d)) := imp_s (fun D σ H ⟨sl, B, F, b, o, R, e, k⟩ => by
  obtain ⟨⟨x, B1⟩, e1, e⟩ := bnd e
  obtain ⟨s2, e2, e⟩ := mpd e
  cases e
  exact ⟨sl, B, F, b, _, _, R, e1, fun v H' F' b' R' S' q => ⟨sl, B1, F', b', x, s2, R', q, e2, fun σ' R2 _ => k F' b' σ' H' R2 S'.ex⟩⟩) (ps_asg he hg hs hw h1)
theorem s_par (i j : Nat) {x y : Str} {a c : Expr} {da db : DE} {px py pt : Pos} {kt k2 pt2} (hc : X.calm = true) (hN : X.N.Nodup) (hij : i ≠ j) (ha : PE X a (liftE X.K C da)) (hb : PE X c (liftE X.K C db)) (hi : X.N[i]? = some x := by rfl) (hj : X.N[j]? = some y := by rfl)
    (hx : X.env.scope.names.lookup x = some .local := by rfl) (hy : X.env.scope.names.lookup y = some .local := by rfl)
    (hw : swappedStores [.Tuple [.Name x px, .Name y py] kt pt] (.Tuple [a, c] k2 pt2) X.env = pure (some [x, y]) := by rfl)
    (hs : swapsWithSole [.Tuple [.Name x px, .Name y py] kt pt] (.Tuple [a, c] k2 pt2) pos.line X.env = pure false := by rfl)
    (hs1 : starEach (a :: [c]) X.env = (false, eval a X.env) :: starEach [c] X.env := by rfl) (hs2 : starEach (c :: []) X.env = (false, eval c X.env) :: starEach [] X.env := by rfl) :
    PS X (.Assign [.Tuple [.Name x px, .Name y py] kt pt] (.Tuple [a, c] k2 pt2) pos) (liftS X.K C (dPar i j da db)) := imp_s (fun D σ H ⟨sl, B, F, b, o, R, e, k⟩ => by
  obtain ⟨⟨u, B1⟩, e1, e⟩ := bnd e
  obtain ⟨⟨w, B2⟩, e2, e⟩ := mpd e
  cases e
  exact ⟨sl, B, F, b, _, _, R, e1, fun v1 H1 F1 b1 R1 S1 q1 => ⟨sl, B1, F1, b1, _, _, R1, e2, fun v2 H2 F2 b2 R2 S2 q2 => ⟨v1, v2, rfl, k F2 b2 _ H2 ((R2.put (s := .dat _) (Rp.mono S2.ex q1) (fun _ z => nomatch z)).put (s := .dat _) q2 (fun _ z => nomatch z)) (S1.ex.trans S2.ex)⟩⟩⟩)
  (ps_par (ta := tCons (liftE X.K C da) (tCons (liftE X.K C db) tNil)) hc hN hi hj hij hx hy (pa_cons ha (pa_cons hb pa_nil hs2) hs1) hw hs)
theorem s_app (j : Nat) (h : PE X e (tBM X.K "list" rAppend (tVar j) (tCons (liftE X.K C d) tNil))) (hs : swapsWith e none pos.line X.env = pure false := by rfl) :
    PS X (.Expr e pos) (liftS X.K C (dApp j d)) := imp_s (fun D σ H ⟨sl, B, F, b, o, R, e, k⟩ => by
  obtain ⟨⟨u, B1⟩, e1, e⟩ := bnd e
  split at e
  · rename_i xs hx
    split at e
    · rename_i hz
      cases e
      obtain ⟨v, ev, a, vs, rfl, g1, g2, g3, g4⟩ := R.slt j _ hx
      refine ⟨_, ev, .inl ⟨rfl, _, SqL.of g1⟩, sl, B, F, b, u, B1, R, e1, fun y H1 F1 b1 R1 S1 q1 => ?_⟩
      refine ⟨a, vs, y, rfl, rfl, S1.pr a _ g1 g4, by rw [g2.length]; exact hz, ?_⟩
      exact k F1 b1 σ _ (R1.chg hx ev (Rps.append (Rps.mono S1.ex g2) (.one q1))) S1.ex
    · cases e
  · cases e) (ps_expr h hs)
theorem s_for {tg iter : Expr} {body : List Stmt} {it : DL} {dg : DG} {ws : List Nat} {db : DS} (hp : PassesOwn (model X.prog X.w) X.A X.env X.xe) (hc : X.calm = true) (hi : PI X tg iter (liftI X.K C it)) (hg : PG X tg (liftG X.K C dg ws)) (hb : PSs X body (liftS X.K C db))
    (hs : ∀ x, foldedSetIterable iter X.env x = pure x := by intro _; rfl) : PS X (.For tg iter body [] pos) (liftS X.K C (dFor it dg db)) := imp_s (fun D σ H ⟨sl, B, F, b, o, R, he, k⟩ => by
  obtain ⟨⟨xs, B1⟩, e1, he⟩ := bnd he
  refine ⟨sl, B, F, b, xs, B1, R, e1, fun J H1 F1 b1 R1 S1 wk => ?_⟩
  refine ⟨fun i m σ' H' => m = xs.length - i ∧ i ≤ xs.length ∧ ∃ s B2 F2 b2, Rel X.K C s B2 F2 b2 σ' H' ∧ Ext F1 F2 ∧ forGo dg db (xs.drop i) s B2 = some o ∧ OutP X.K C F2 D o,
    ⟨_, rfl, Nat.zero_le _, sl, B1, F1, b1, R1, Ext.refl _, he, k.mono S1.ex⟩, ?_⟩
  rintro i m σ' H' ⟨rfl, hi, s, B2, F2, b2, R2, x2, h1, h2⟩
  obtain ⟨w1, w2⟩ := wk i F2 H' x2 R2.fro trivial
  by_cases hlt : i < xs.length
  · have hx : xs[i]? = some xs[i] := List.getElem?_eq_getElem hlt
    obtain ⟨go, yl⟩ := w1 _ hx
    rw [List.drop_eq_getElem_cons hlt] at h1
    unfold forGo at h1
    obtain ⟨s1, g1, h1⟩ := bnd h1
    obtain ⟨o1, g2, h1⟩ := bnd h1
    refine .inr ⟨go, fun σ'' H'' => ∃ s B2 F2 b2, Rel X.K C s B2 F2 b2 σ'' H'' ∧ Ext F1 F2 ∧ forGo dg db (xs.drop (i + 1)) s B2 = some o ∧ OutP X.K C F2 D o,
      fun σ'' H'' hn => ⟨xs.length - (i + 1), by omega, rfl, hlt, hn⟩, fun v H3 y => ?_⟩
    obtain ⟨F3, al, rv⟩ := yl v H3 y
    obtain ⟨R3, S3⟩ := al.rel R2
    refine ⟨s, B2, F3, b2, xs[i], s1, R3, rv, g1, fun σ4 R4 _ => ⟨s1, B2, F3, b2, o1, R4, g2, ?_⟩⟩
    have h3 := h2.mono S3.ex
    cases o1 with
    | nx s5 B5 => exact fun F5 b5 σ5 H5 R5 x5 => ⟨s5, B5, F5, b5, R5, (x2.trans S3.ex).trans x5, h1, h3.mono x5⟩
    | ct s5 B5 => exact fun F5 b5 σ5 H5 R5 x5 => ⟨s5, B5, F5, b5, R5, (x2.trans S3.ex).trans x5, h1, h3.mono x5⟩
    | bk s5 B5 =>
      cases h1
      exact fun F5 b5 σ5 H5 R5 x5 => h3 F5 b5 σ5 H5 R5 x5
    | rt r5 B5 =>
      cases h1
      exact h3
  · have e0 : i = xs.length := by omega
    subst e0
    refine .inl ⟨w2 rfl, ?_⟩
    rw [List.drop_length] at h1
    cases h1
    exact h2 F2 b2 σ' H' R2 (Ext.refl _)) (ps_for hp hc hi hg hb hs)
theorem s_while {c : Expr} {body : List Stmt} {t : DT} {db : DS} (hp : PassesOwn (model X.prog X.w) X.A X.env X.xe) (hc : PT X c (liftT X.K C t)) (hb : PSs X body (liftS X.K C db)) : PS X (.While c body [] pos) (liftS X.K C (dWhile t db)) := imp_s (fun D σ H ⟨sl, B, F, b, o, R, he, k⟩ => by
  obtain ⟨n, he⟩ := dWhile_ex he
  refine ⟨fun m σ' H' => ∃ s B2 F2 b2, Rel X.K C s B2 F2 b2 σ' H' ∧ whN t db m s B2 = some o ∧ OutP X.K C F2 D o, ⟨n, sl, B, F, b, R, he, k⟩, ?_⟩
  rintro m σ' H' ⟨s, B2, F2, b2, R2, h1, h2⟩
  cases m with
  | zero => cases h1
  | succ m =>
    unfold whN at h1
    obtain ⟨⟨tb, B3⟩, e1, h1⟩ := bnd h1
    refine ⟨s, B2, F2, b2, tb, B3, R2, e1, fun H3 F3 b3 R3 S3 => ?_⟩
    have h3 := h2.mono S3.ex
    cases tb with
    | false =>
      cases h1
      exact iteF (h3 F3 b3 σ' H3 R3 (Ext.refl _))
    | true =>
      have h1 : (db s B3).bind (loopOut (whN t db m)) = some o := h1
      obtain ⟨o1, g2, h1⟩ := bnd h1
      refine iteT ⟨fun σ'' H'' => ∃ s B2 F2 b2, Rel X.K C s B2 F2 b2 σ'' H'' ∧ whN t db m s B2 = some o ∧ OutP X.K C F2 D o, fun σ'' H'' hn => ⟨m, by omega, hn⟩, s, B3, F3, b3, o1, R3, g2, ?_⟩
      cases o1 with
      | nx s5 B5 => exact fun F5 b5 σ5 H5 R5 x5 => ⟨s5, B5, F5, b5, R5, h1, h3.mono x5⟩
      | ct s5 B5 => exact fun F5 b5 σ5 H5 R5 x5 => ⟨s5, B5, F5, b5, R5, h1, h3.mono x5⟩
      | bk s5 B5 =>
        cases h1
        exact fun F5 b5 σ5 H5 R5 x5 => h3 F5 b5 σ5 H5 R5 x5
      | rt r5 B5 =>
        cases h1
        exact h3) (ps_while hp hc hb)
end
/-! ### a def -/
def nown : Sv → Bool
  | .own _ => false
  | .dic _ => false
  | _ => true
def dFun (n m : Nat) (body : DS) : FD := fun ss B => if ss.length = n ∧ ss.all nown = true then (body (ss.map some ++ List.replicate m none) B).bind fun o => match o with
    | .rt r B' => some (r, B')
    | .nx _ B' => some (.dat .none, B')
    | _ => none
  else none
theorem svs_len {K : Frg} {F H : Hp} {b : Bad} : ∀ {vs : List V} {ss : List Sv}, SvsR K F H b vs ss → vs.length = ss.length
  | _, _, .nil => rfl
  | _, _, .cons _ t => by rw [List.length_cons, List.length_cons, svs_len t]
theorem svs_get {K : Frg} {F H : Hp} {b : Bad} : ∀ {vs : List V} {ss : List Sv} {i : Nat} {s : Sv}, SvsR K F H b vs ss → ss[i]? = some s → ∃ v, vs[i]? = some v ∧ SvR K F H b v s
  | _, _, 0, _, .cons h _, e => by cases e; exact ⟨_, rfl, h⟩
  | _, _, i + 1, _, .cons _ t, e => svs_get (i := i) t e
  | _, _, _, _, .nil, e => by cases e
theorem start_rel {K : Frg} {F H : Hp} {b : Bad} {B : Bx} {vs : List V} {ss : List Sv} {N : List Str} {m : Nat} (fr : Ext F H) (bx : BxR F H b B) (h : SvsR K F H b vs ss) (hn : ss.all nown = true) (hN : N.length = ss.length + m) :
    Rel K ⟨H, F, b⟩ (ss.map some ++ List.replicate m none) B F b (L2.start N vs) H := by
  have hl := svs_len h
  have no : ∀ (i : Nat) (xs : List PyData), (ss.map some ++ List.replicate m none)[i]? ≠ some (some (.own xs)) := fun i xs e => by
    rw [List.getElem?_append] at e
    split at e
    · rw [List.getElem?_map] at e
      obtain ⟨s, e1, e2⟩ := mpd e
      cases e2
      have := List.all_eq_true.mp hn _ (List.mem_of_getElem? e1)
      cases this
    · rw [List.getElem?_replicate] at e
      split at e
      · cases e
      · cases e
  have no2 : ∀ (i : Nat) (xs : List (Int × PyData)), (ss.map some ++ List.replicate m none)[i]? ≠ some (some (.dic xs)) := fun i xs e => by
    rw [List.getElem?_append] at e
    split at e
    · rw [List.getElem?_map] at e
      obtain ⟨s, e1, e2⟩ := mpd e
      cases e2
      have := List.all_eq_true.mp hn _ (List.mem_of_getElem? e1)
      cases this
    · rw [List.getElem?_replicate] at e
      split at e
      · cases e
      · cases e
  refine ⟨fr, ?_, fun i s e => ?_, fun i j xs ys a e _ _ _ => absurd e (no i xs), fun i xs a e _ => absurd e (no i xs), bx, Ext.refl _, fun a _ h => h, fun a o h _ => h, fun p h => h, fun a h => .inr h, fun i j xs ys a e _ _ _ => absurd e (no2 i xs), fun i xs a e _ => absurd e (no2 i xs)⟩
  · unfold L2.start
    simp only [List.length_append, List.length_map, List.length_replicate]
    omega
  · rw [List.getElem?_append] at e
    split at e
    · rename_i hi
      rw [List.getElem?_map] at e
      obtain ⟨s', e1, e2⟩ := mpd e
      cases e2
      obtain ⟨v, h1, h2⟩ := svs_get h e1
      refine ⟨v, ?_, h2⟩
      unfold L2.start
      rw [List.getElem?_append_left (by simp at hi ⊢; omega), List.getElem?_map, h1]
      rfl
    · rw [List.getElem?_replicate] at e
      split at e
      · cases e
      · cases e
theorem end_stp {K : Frg} {F H F' H' : Hp} {b b' : Bad} {sl : Sl} {B : Bx} {σ : L2.St} (R : Rel K ⟨H, F, b⟩ sl B F' b' σ H') : Stp F b H F' b' H' :=
  ⟨R.e1, R.e3, R.e2, R.e4, fun a h => by
    rcases R.e5 a h with q | q
    · exact .inr q
    · exact .inl q, fun a h z => by
    have := R.t0 z
    exact h this⟩
section
variable {P : Program} {w : World} {K : Frg} {mg : Str → Option Value} {base : Heap}
theorem def_ok {x qual : Str} {st : Stmt} {f : Addr} {fd : FuncData} {N ps : List Str} {k n m : Nat} {body : DS} (F : Fun K x qual st f fd) (S : FnScope N ps (defScope st)) (hn : ps.length = n) (hN : N.length = n + m)
    (hbody : ∀ (cdv : Value) (A : Around) (outer : List Env) (s : Shared) (H : Hp) (E : XK) (C : Fx), Room k (A.deeper (envOfC qual (defScope st) s.heap.objs.size f cdv)) → PSs (cxOf CX0 P w K mg base N qual (defScope st) f cdv A outer s H E).nox (defBody st) (liftS K C body)) :
    FnOk P w K mg base CX0 (k + 1) f fd ps (spD K (dFun n m body)) := by
  refine F.ok S (fun vs H Q E h => ?_) (fun cdv A outer s H vs Q E hr h => ?_)
  · obtain ⟨F, b, B, ss, r, B', _, _, h1, h2, _⟩ := h
    unfold dFun at h2
    split at h2
    · rename_i hz
      rw [svs_len h1, hz.1, hn]
    · cases h2
  · obtain ⟨F, b, B, ss, r, B', fr, bx, h1, h2, k⟩ := h
    refine ⟨_, hbody cdv A outer s H E ⟨H, F, b⟩ hr, ?_⟩
    unfold dFun at h2
    split at h2
    · rename_i hz
      obtain ⟨o, e1, e2⟩ := bnd h2
      refine ⟨_, B, F, b, o, start_rel fr bx h1 hz.2 (by rw [hN, hz.1]), e1, ?_⟩
      cases o with
      | nx s2 B2 =>
        cases e2
        exact fun F' b' σ' H' R ex => k .non H' F' b' R.fro R.bx (end_stp R) .non
      | bk s2 B2 => cases e2
      | ct s2 B2 => cases e2
      | rt r2 B2 =>
        cases e2
        exact fun sl v F' b' σ' H' R ex q => k v H' F' b' R.fro R.bx (end_stp R) q
    · cases h2
end
end Dn

set_option Elab.async false
set_option linter.all false
set_option autoImplicit false
set_option maxRecDepth 100000
set_option maxHeartbeats 1000000
namespace Dn
open PySem PySem.Spec PyProof.Rows L2

/-! ### the box from which the law draws -/
def dBget (i : Nat) (k : Int) : DE := fun sl B => match sl[i]? with
  | some (some .box) => if 1 ≤ k then (B.regs[(k - 1).toNat]?).map fun n => (.int n, B) else none
  | _ => none
def dBcells (i : Nat) : DV := fun sl B => match sl[i]? with
  | some (some .box) => some (.cells, B)
  | _ => none
def dLenC (d : DV) : DE := fun sl B => (d sl B).bind fun p => match p.1 with
  | .cells => some (.int (p.2.cells.length : Int), p.2)
  | _ => none
def dGetC (d : DV) (e : DE) : DE := fun sl B => (d sl B).bind fun p => match p.1 with
  | .cells => (e sl p.2).bind fun q => match q.1 with
    | .int k => (atI q.2.cells k).map fun n => (.int n, q.2)
    | _ => none
  | _ => none
def dPopC (d : DV) : DE := fun sl B => (d sl B).bind fun p => match p.1 with
  | .cells => match p.2.cells with
    | c :: r => some (.int c, { p.2 with cells := r })
    | [] => none
  | _ => none
def dBset (i : Nat) (k : Int) (d : DE) : DS := fun sl B => (d sl B).bind fun p => match p.1, sl[i]? with
  | .int n, some (some .box) => if 1 ≤ k ∧ (k - 1).toNat < p.2.regs.length then some (.nx sl { p.2 with regs := p.2.regs.set (k - 1).toNat n }) else none
  | _, _ => none
def dLenS (i : Nat) : DE := fun sl B => match sl[i]? with
  | some (some (.scr ns)) => some (.int (ns.length : Int), B)
  | _ => none
def dNewB (i : Nat) (k : Int) (d : DL) : DV := fun sl B => match sl[i]? with
  | some (some (.scr ns)) => if B.on = false ∧ 0 ≤ k then (d sl B).bind fun p => (intsOf p.1).bind fun rs => if rs.length < 100 ∧ p.2.on = false then some (.box, ⟨ns.take k.toNat, rs, true⟩) else none else none
  | _ => none
theorem sized (n : Nat) (h : n ≤ 1000) : n ≤ sizeLine := Nat.le_of_lt (small1000 h)
theorem atI_map {α β : Type} (f : α → β) (xs : List α) (i : Int) : atI (xs.map f) i = (atI xs i).map f := by
  unfold atI
  rw [List.length_map]
  cases ixN xs.length i with
  | none => rfl
  | some j => simp
theorem atI_pos {α : Type} {v : α} {xs : List α} {k : Int} {x : α} (hk : 1 ≤ k) (h : xs[(k - 1).toNat]? = some x) : atI (v :: xs) k = some x := by
  have e : k = (((k - 1).toNat + 1 : Nat) : Int) := by omega
  rw [e]
  exact atI_nat (by rw [List.getElem?_cons_succ]; exact h)
section
variable {X : Cx} {C : Fx} {e : Expr} {es : List Expr} {d : DE} {dv : DV} {pos p pk : Pos} {x : Str} {jk : Nat}
theorem e_bget (i : Nat) (k : Int) (hN : X.N[i]? = some x := by rfl) (hv : Vis X.env.scope x := by first | exact Or.inl rfl | exact Or.inr (Or.inl rfl) | exact Or.inr (Or.inr rfl)) (hd : (x == ("__debug__" : Str)) = false := by decide) (hcd : (x == ("__classdict__" : Str)) = false := by decide) :
    PE X (.Subscript (.Name x p) (.Constant (.int k) jk pk) pos) (liftE X.K C (dBget i k)) :=
  imp_e (fun σ H Q ⟨sl, B, F, b, r, B', R, e, kk⟩ => by
    unfold dBget at e
    split at e
    · rename_i hs
      split at e
      · rename_i hk
        obtain ⟨n, e1, e⟩ := mpd e
        cases e
        obtain ⟨v, hv, q, hq, rfl⟩ := R.slt i _ hs
        have hb := R.bx.at_ q hq
        refine ⟨_, hv, q.1, _, k, .int n, rfl, rfl, SqL.of hb.1, ?_, kk _ H F b R Stp.refl (.int n)⟩
        exact atI_pos hk (by rw [List.getElem?_map, e1]; rfl)
      · cases e
    · cases e) (pe_ix ix_list (pe_var hN hv hd hcd) pe_int (fun _ _ => rfl))
theorem v_cells (i : Nat) (hN : X.N[i]? = some x := by rfl) (hv : Vis X.env.scope x := by first | exact Or.inl rfl | exact Or.inr (Or.inl rfl) | exact Or.inr (Or.inr rfl)) (hd : (x == ("__debug__" : Str)) = false := by decide) (hcd : (x == ("__classdict__" : Str)) = false := by decide) :
    PE X (.Subscript (.Name x p) (.Constant (.int 0) jk pk) pos) (liftV X.K C (dBcells i)) :=
  imp_e (fun σ H Q ⟨sl, B, F, b, r, B', R, e, kk⟩ => by
    unfold dBcells at e
    split at e
    · rename_i hs
      cases e
      obtain ⟨v, hv, q, hq, rfl⟩ := R.slt i _ hs
      have hb := R.bx.at_ q hq
      exact ⟨_, hv, q.1, _, 0, .ref q.2, rfl, rfl, SqL.of hb.1, atI_nat (j := 0) rfl, kk _ H F b R Stp.refl ⟨q, hq, rfl⟩⟩
    · cases e) (pe_ix ix_list (pe_var hN hv hd hcd) pe_int (fun _ _ => rfl))
theorem e_lenC (hm : X.mg "len" = none) (h : PE X e (liftV X.K C dv)) (hg : Gl X "len" := by rfl) (hs : starEach (e :: []) X.env = (false, eval e X.env) :: starEach [] X.env := by rfl) (hpl : (backTo pos (starEach [] X.env)).any (·.1) = false := by rfl) : PE X (.Call (.Name "len" p) [e] [] pos) (liftE X.K C (dLenC dv)) :=
  imp_e (fun σ H Q ⟨sl, B, F, b, r, B', R, e, kk⟩ => by
    obtain ⟨⟨y, B1⟩, e1, e⟩ := bnd e
    split at e
    · rename_i hy
      cases e
      have hy : y = .cells := hy
      subst hy
      refine ⟨sl, B, F, b, _, _, R, e1, fun v H' F' b' R' S' ⟨q, hq, ev⟩ => ?_⟩
      subst ev
      have hb := R'.bx.at_ q hq
      refine ⟨_, _, rfl, .inl ⟨_, SqL.of hb.2.1, rfl⟩, ?_⟩
      rw [List.length_map]
      exact kk _ H' F' b' R' S' (.int _)
    · cases e) (pe_callB call_len hg hm PySem.boot_len (pa_cons h pa_nil hs) (by decide) (by decide) hs hpl)
theorem e_getC (h : PE X e (liftV X.K C dv)) {c : Expr} (hc : PE X c (liftE X.K C d)) (hs : PlainIx c := by exact fun _ _ => rfl) : PE X (.Subscript e c pos) (liftE X.K C (dGetC dv d)) :=
  imp_e (fun σ H Q ⟨sl, B, F, b, r, B', R, e, kk⟩ => by
    obtain ⟨⟨y, B1⟩, e1, e⟩ := bnd e
    split at e
    · rename_i hy
      have hy : y = .cells := hy
      subst hy
      obtain ⟨⟨z, B2⟩, e2, e⟩ := bnd e
      split at e
      · rename_i k hz
        have hz : z = .int k := hz
        subst hz
        obtain ⟨n, e3, e⟩ := mpd e
        cases e
        refine ⟨sl, B, F, b, _, _, R, e1, fun v H1 F1 b1 R1 S1 q1 => ⟨sl, _, F1, b1, _, _, R1, e2, fun u H2 F2 b2 R2 S2 q2 => ?_⟩⟩
        obtain ⟨q, hq, ev⟩ := q1.mono S2
        subst ev
        cases q2
        have hb := R2.bx.at_ q hq
        refine ⟨q.2, _, k, .int n, rfl, rfl, SqL.of hb.2.1, ?_, kk _ H2 F2 b2 R2 (S1.trans S2) (.int n)⟩
        rw [atI_map, e3]; rfl
      · cases e
    · cases e) (pe_ix ix_list h hc hs)
theorem e_popC (h : PE X e (tBM X.K "list" rPopAt (liftV X.K C dv) (tCons (tC (.int 0)) tNil))) : PE X e (liftE X.K C (dPopC dv)) :=
  imp_e (fun σ H Q ⟨sl, B, F, b, r, B', R, e, kk⟩ => by
    obtain ⟨⟨y, B1⟩, e1, e⟩ := bnd e
    split at e
    · rename_i hy
      have hy : y = .cells := hy
      subst hy
      split at e
      · rename_i c rr hc
        cases e
        refine ⟨sl, B, F, b, _, _, R, e1, fun v H1 F1 b1 R1 S1 ⟨q, hq, ev⟩ => ?_⟩
        subst ev
        have hb := R1.bx.at_ q hq
        have hc : B1.cells = c :: rr := hc
        refine ⟨.inl ⟨rfl, _, SqL.of hb.2.1⟩, q.2, _, 0, 0, .int c, rfl, rfl, hb.2.1, by decide, by decide, ?_, by rw [hc]; rfl, ?_⟩
        · rw [hc]
          show seqIndex? 0 (List.map V.int (c :: rr)).length = some 0
          rw [List.length_map, List.length_cons]
          unfold seqIndex?
          simp
        · have nx : q.1 ≠ q.2 := hb.2.2.2.2
          have bx' : BxR F1 (upd H1 q.2 (.lst ((B1.cells.map V.int).eraseIdx 0))) b1 { B1 with cells := rr } := ⟨fun t ht => by
            have : t = q := by rw [hq] at ht; exact (Option.some.inj ht).symm
            subst this
            refine ⟨by rw [upd_ne nx]; exact hb.1, ?_, hb.2.2.1, hb.2.2.2.1, nx⟩
            rw [upd_same, hc]; rfl, R1.bx.liv⟩
          have fr' : Ext F1 (upd H1 q.2 (.lst ((B1.cells.map V.int).eraseIdx 0))) := fun a o g => by
            rw [upd_ne (fun z => by subst z; rw [hb.2.2.2.1] at g; cases g)]
            exact R1.fro a o g
          have S2 : Stp F1 b1 H1 F1 b1 (upd H1 q.2 (.lst ((B1.cells.map V.int).eraseIdx 0))) := ⟨Ext.refl _, fun a o g n => by
            rw [upd_ne (fun z => n ⟨q, hq, .inr z⟩)]
            exact g, fun _ _ z => z, fun _ z => z, fun _ z => .inl z, fun a g => by
            unfold upd
            split
            · exact Option.some_ne_none _
            · exact g⟩
          exact kk _ _ _ _ (R1.step S2 fr' bx') (S1.trans S2) (.int c)
      · cases e
    · cases e) h
theorem s_bset (i : Nat) (k : Int) (h : PE X e (liftE X.K C d)) (hN : X.N[i]? = some x := by rfl) (hv : Vis X.env.scope x := by first | exact Or.inl rfl | exact Or.inr (Or.inl rfl) | exact Or.inr (Or.inr rfl)) (hd : (x == ("__debug__" : Str)) = false := by decide) (hcd : (x == ("__classdict__" : Str)) = false := by decide)
    {tp sp : Pos} (hs : swapsWithSole [.Subscript (.Name x p) (.Constant (.int k) jk pk) tp] e sp.line X.env = pure false := by rfl) (hw : swappedStores [.Subscript (.Name x p) (.Constant (.int k) jk pk) tp] e X.env = pure none := by rfl)
    (h1 : (assignEach [.Subscript (.Name x p) (.Constant (.int k) jk pk) tp] X.env).map (·.2) = [assign (.Subscript (.Name x p) (.Constant (.int k) jk pk) tp) X.env] := by rfl) :
    PS X (.Assign [.Subscript (.Name x p) (.Constant (.int k) jk pk) tp] e sp) (liftS X.K C (dBset i k d)) :=
  imp_s (fun D σ H ⟨sl, B, F, b, o, R, e, kk⟩ => by
    obtain ⟨⟨y, B1⟩, e1, e⟩ := bnd e
    split at e
    · rename_i n hy hs
      have hy : y = .int n := hy
      subst hy
      split at e
      · rename_i hk
        cases e
        refine ⟨sl, B, F, b, _, _, R, e1, fun v H1 F1 b1 R1 S1 q1 => ?_⟩
        cases q1
        obtain ⟨v, hv, q, hq, rfl⟩ := R1.slt i _ hs
        have hb := R1.bx.at_ q hq
        have nx : q.1 ≠ q.2 := hb.2.2.2.2
        have hk2 : (k - 1).toNat < B1.regs.length := hk.2
        have ek : k = (((k - 1).toNat + 1 : Nat) : Int) := by omega
        refine ⟨_, hv, q.1, _, k, (k - 1).toNat + 1, rfl, rfl, hb.1, ?_, ?_⟩
        · unfold ixN
          rw [if_pos (by omega), List.length_cons, List.length_map, if_pos (by omega)]
          congr 1
          omega
        · have hset : (V.ref q.2 :: B1.regs.map V.int).set ((k - 1).toNat + 1) (.int n) = V.ref q.2 :: (B1.regs.set (k - 1).toNat n).map V.int := by
            rw [List.set_cons_succ, List.map_set]
          rw [hset]
          have bx' : BxR F1 (upd H1 q.1 (.lst (V.ref q.2 :: (B1.regs.set (k - 1).toNat n).map V.int))) b1 { B1 with regs := B1.regs.set (k - 1).toNat n } := ⟨fun t ht => by
            have : t = q := by rw [hq] at ht; exact (Option.some.inj ht).symm
            subst this
            exact ⟨upd_same, by rw [upd_ne (Ne.symm nx)]; exact hb.2.1, hb.2.2.1, hb.2.2.2.1, nx⟩, R1.bx.liv⟩
          have fr' : Ext F1 (upd H1 q.1 (.lst (V.ref q.2 :: (B1.regs.set (k - 1).toNat n).map V.int))) := fun a o g => by
            rw [upd_ne (fun z => by subst z; rw [hb.2.2.1] at g; cases g)]
            exact R1.fro a o g
          have S2 : Stp F1 b1 H1 F1 b1 (upd H1 q.1 (.lst (V.ref q.2 :: (B1.regs.set (k - 1).toNat n).map V.int))) := ⟨Ext.refl _, fun a o g nn => by
            rw [upd_ne (fun z => nn ⟨q, hq, .inl z⟩)]
            exact g, fun _ _ z => z, fun _ z => z, fun _ z => .inl z, fun a g => by
            unfold upd
            split
            · exact Option.some_ne_none _
            · exact g⟩
          exact kk F1 b1 σ _ (R1.step S2 fr' bx') S1.ex
      · cases e
    · cases e) (ps_asg h (pg_sub (pe_var hN hv hd hcd) pe_int set_list) hs hw h1)
theorem e_lenS (i : Nat) (hm : X.mg "len" = none) (hN : X.N[i]? = some x := by rfl) (hv : Vis X.env.scope x := by first | exact Or.inl rfl | exact Or.inr (Or.inl rfl) | exact Or.inr (Or.inr rfl)) (hd : (x == ("__debug__" : Str)) = false := by decide) (hcd : (x == ("__classdict__" : Str)) = false := by decide) (hg : Gl X "len" := by rfl)
    (hs : starEach (Expr.Name x pk :: []) X.env = (false, eval (Expr.Name x pk) X.env) :: starEach [] X.env := by rfl) (hpl : (backTo pos (starEach [] X.env)).any (·.1) = false := by rfl) : PE X (.Call (.Name "len" p) [.Name x pk] [] pos) (liftE X.K C (dLenS i)) :=
  imp_e (fun σ H Q ⟨sl, B, F, b, r, B', R, e, kk⟩ => by
    unfold dLenS at e
    split at e
    · rename_i ns hs
      cases e
      obtain ⟨v, hv, a, rfl, ha⟩ := R.slt i _ hs
      refine ⟨_, hv, _, _, rfl, .inl ⟨_, R.fro.sqL ha, rfl⟩, ?_⟩
      rw [List.length_map]
      exact kk _ H F b R Stp.refl (.int _)
    · cases e) (pe_callB (t := tCons (tVar i) tNil) call_len hg hm PySem.boot_len (pa_cons (pe_var hN hv hd hcd) pa_nil hs) (by decide) (by decide) hs hpl)
/-- [list(script[:k]), ..] -/
theorem v_newB (i : Nat) (k : Int) {dl : DL} (h : PE X e (tLst (tCons (tCB (fun xs H Q => ∃ p ys, xs = [.ref p] ∧ (SqL X.K H p ys ∨ SqT X.K H p ys) ∧ ∀ l, H l = none → Q (.ref l) (upd H l (.lst ys))) (tCons (tSl (rSlL X.K) (tVar i) tNoPart (tPart (tC (.int k)))) tNil)) (liftD X.K C dl)))) : PE X e (liftV X.K C (dNewB i k dl)) :=
  imp_e (fun σ H Q ⟨sl, B, F, b, r, B', R, e, kk⟩ => by
    unfold dNewB at e
    split at e
    · rename_i ns hs
      split at e
      · rename_i hk
        obtain ⟨⟨xs, B1⟩, e1, e⟩ := bnd e
        obtain ⟨rs, e2, e'⟩ := bnd e
        clear e
        split at e'
        · rename_i hr
          have e2 := intsOf_eq e2
          have e2 : xs = rs.map PyData.int := e2
          subst e2
          cases e'
          obtain ⟨v, hv, a, rfl, ha⟩ := R.slt i _ hs
          refine ⟨_, hv, k, rfl, a, ns.map V.int, rfl, R.fro.sqL ha, fun p0 h0 => ⟨p0, _, rfl, .inl (SqL.of upd_same), fun p1 h1 => ?_⟩⟩
          have n10 : p1 ≠ p0 := fun z => by rw [z, upd_same] at h1; cases h1
          have h1' : H p1 = none := by rw [upd_ne n10] at h1; exact h1
          have R1 := (R.new h0).new (o := .lst (cutV (ns.map V.int) none (some k))) h1
          have S1 := (Stp.new (F := F) (b := b) (o := .lst (cutV (ns.map V.int) none (some k))) h0).trans (Stp.new (F := F) (b := b) (o := .lst (cutV (ns.map V.int) none (some k))) h1)
          refine ⟨sl, B, F, b, _, _, R1, e1, fun us H3 F3 b3 R3 S3 q3 => ?_⟩
          have eb : b = none := by
            have := R.bx.liv
            rw [hk.1] at this
            cases b with
            | none => rfl
            | some _ => cases this
          have eb3 : b3 = none := by
            have := R3.bx.liv
            rw [hr.2] at this
            cases b3 with
            | none => rfl
            | some _ => cases this
          subst eb eb3
          have eu := q3.ints
          subst eu
          refine ⟨?_, fun p2 h2 => ?_⟩
          · rw [List.length_cons, List.length_map]
            exact sized _ (by omega)
          · have g1 : H3 p1 = some (.lst (cutV (ns.map V.int) none (some k))) := S3.pr p1 _ upd_same (fun ⟨_, z, _⟩ => nomatch z)
            have n21 : p1 ≠ p2 := ne_of_none g1 h2
            have f1 : F3 p1 = none := S3.ko p1 (by rw [upd_same]; exact Option.some_ne_none _) (not_in_F R.fro h1')
            have f2 : F3 p2 = none := not_in_F R3.fro h2
            have t2 : H p2 = none := by
              cases z : H p2 with
              | none => rfl
              | some o => exact absurd h2 ((S1.trans S3).tr p2 (by rw [z]; exact Option.some_ne_none _))
            have ec : cutV (ns.map V.int) none (some k) = (ns.take k.toNat).map V.int := by
              unfold cutV
              have : k = ((k.toNat : Nat) : Int) := by omega
              rw [this, HT.sIx_none, HT.sIx_nat, Nat.sub_zero, List.drop_zero, List.map_take, Int.toNat_natCast, List.length_map]
              rcases Nat.le_total k.toNat ns.length with z | z
              · rw [Nat.min_eq_left z]
              · rw [Nat.min_eq_right z, List.take_of_length_le (by simp), List.take_of_length_le (by simpa using z)]
            rw [ec] at g1
            have S4 : Stp F none H F3 (some (p2, p1)) (upd H3 p2 (.lst (V.ref p1 :: rs.map V.int))) := by
              have S := S1.trans S3
              refine ⟨S.ex, fun c o g n => ?_, S.ko, (fun _ z => nomatch z), fun c ⟨q, hq, hc⟩ => .inr ?_, fun c g => ?_⟩
              · rw [upd_ne (ne_of_none g t2)]
                exact S.pr c o g n
              · cases hq
                rcases hc with z | z
                · rw [z]; exact t2
                · rw [z]; exact h1'
              · rw [upd_ne (fun z => by subst z; exact g t2)]
                exact S.tr c g
            refine kk _ _ F3 (some (p2, p1)) (R.step S4 (fun c o g => ?_) ⟨fun q hq => ?_, rfl⟩) S4 ⟨_, rfl, rfl⟩
            · rw [upd_ne (fun z => by subst z; rw [f2] at g; cases g)]
              exact R3.fro c o g
            · cases hq
              exact ⟨upd_same, by rw [upd_ne n21]; exact g1, f2, f1, Ne.symm n21⟩
        · cases e'
      · cases e
    · cases e) h
end

/-! ### name op= e, of ints -/
def dAug (f : Int → Int → Int) (i : Nat) (d : DE) : DS := fun sl B => match sl[i]? with
  | some (some (.dat (.int a))) => (d sl B).bind fun p => match p.1 with
    | .int c => some (.nx (sl.set i (some (.dat (.int (f a c))))) p.2)
    | _ => none
  | _ => none
section
variable {X : Cx} {C : Fx} {e : Expr} {d : DE} {pos : Pos}
theorem s_aug (i : Nat) {op : Operator} {f : Int → Int → Int} {x : Str} {pos' : Pos} (ho : PIp X op (ipI f)) (hN : X.N.Nodup) (h : PE X e (liftE X.K C d)) (hi : X.N[i]? = some x := by rfl) (hx : Loc X.env.scope x := by first | exact .inl rfl | exact .inr rfl) (hf : X.fn x = true ∨ X.env.scope.names.lookup x = some .local := by first | exact .inl rfl | exact .inr rfl) :
    PS X (.AugAssign (.Name x pos') op e pos) (liftS X.K C (dAug f i d)) := imp_s (fun D σ H ⟨sl, B, F, b, o, R, e, k⟩ => by
  unfold dAug at e
  split at e
  · rename_i a hs
    obtain ⟨⟨y, B1⟩, e1, e⟩ := bnd e
    split at e
    · rename_i c hy
      have hy : y = .int c := hy
      subst hy
      cases e
      obtain ⟨v, hv, q⟩ := R.slt i _ hs
      cases q
      refine ⟨_, hv, sl, B, F, b, _, _, R, e1, fun u H1 F1 b1 R1 S1 q1 => ?_⟩
      cases q1
      exact ⟨a, c, rfl, rfl, k F1 b1 _ H1 (R1.put (s := .dat _) (.int _) (fun _ z => nomatch z)) S1.ex⟩
    · cases e
  · cases e) (ps_aug hN hi hx h ho hf)

/-! ### xs.index(y) -/
def pyIndex (xs : List PyData) (y : PyData) : Option PyData :=
  if SeqAt.shaped (.list xs) = true ∧ SeqAt.shaped y = true then (xs.findIdx? fun z => PyData.eqv z y).map fun j => .int (j : Nat) else none
def dIndex (d d2 : DE) : DE := fun sl B => (d sl B).bind fun p => (d2 sl p.2).bind fun q => match p.1 with
  | .list xs => (pyIndex xs q.1).map fun z => (z, q.2)
  | _ => none
theorem e_index {d2 : DE} (h : PE X e (tBM X.K "list" (rIndexD X.K) (liftO X.K C d) (tCons (liftO X.K C d2) tNil))) : PE X e (liftE X.K C (dIndex d d2)) :=
  imp_e (fun σ H Q ⟨sl, B, F, b, r, B', R, e, kk⟩ => by
    obtain ⟨⟨y, B1⟩, e1, e⟩ := bnd e
    obtain ⟨⟨z, B2⟩, e2, e'⟩ := bnd e
    clear e
    split at e'
    · rename_i xs hy
      have hy : y = .list xs := hy
      subst hy
      obtain ⟨w, e3, e4⟩ := mpd e'
      cases e4
      refine ⟨sl, B, F, b, _, _, R, e1, fun v H1 F1 b1 R1 S1 q1 => ?_⟩
      have q1' := q1
      obtain ⟨a, vs, rfl, g1, g2, g3⟩ := q1'
      refine ⟨.inl ⟨rfl, _, SqL.of g1⟩, sl, B1, F1, b1, _, _, R1, e2, fun u H2 F2 b2 R2 S2 q2 => ?_⟩
      unfold pyIndex at e3
      split at e3
      · rename_i hh
        obtain ⟨j, e4, e3⟩ := mpd e3
        cases e3
        rw [List.findIdx?_eq_some_iff_getElem] at e4
        obtain ⟨hl, h1, h2⟩ := e4
        exact ⟨a, u, z, xs, j, xs[j], rfl, rfl, (q1.mono S2).dp R2.fro, q2.dp R2.fro, hh.1, hh.2, List.getElem?_eq_getElem hl, h1, fun m z' hm hz => by
          have hm2 : m < xs.length := Nat.lt_trans hm hl
          rw [List.getElem?_eq_getElem hm2] at hz
          cases hz
          have := h2 m hm
          simpa using this, kk _ H2 F2 b2 R2 (S1.trans S2) (.int _)⟩
      · cases e3
    · cases e') h
end
end Dn

set_option Elab.async false
set_option linter.all false
set_option autoImplicit false
set_option maxRecDepth 100000
set_option maxHeartbeats 2000000
namespace Dn
open PySem PySem.Spec PyProof.Rows L2

/-! ### enumerate, zip over lists and tuples -/
structure Src where
  t : Bool
  a : Addr
  vs : List V
def SrcH (K : Frg) (H : Hp) (z : Src) : Prop := if z.t = true then SqT K H z.a z.vs else SqL K H z.a z.vs
def SrcI (h : Heap) (z : Src) (items : Array Value) : Prop := if z.t = true then h.IsTuple z.a items else h.IsList z.a items
def SrcAt (h : Heap) (it : Addr) (z : Src) (i : Nat) : Prop := if z.t = true then h.IsTupleIter it z.a i else h.IsListIter it z.a i
def SrcO (z : Src) : Obj := if z.t = true then { cls := .type "tuple_iterator", data := .fields #[.ref z.a, .int 0 0] } else { cls := .type "list_iterator", data := .fields #[.ref z.a, .int 0 0] }
theorem src_items {X : Cx} {pins : List (Addr × Obj)} {σ : L2.St} {H : Hp} {s : Shared} (I : Inv X pins σ H s) {z : Src} (h : SrcH X.K H z) : ∃ its : List Value, Vals z.vs its ∧ SrcI s.heap z its.toArray ∧ z.a < s.heap.objs.size := by
  obtain ⟨t, a, vs⟩ := z
  cases t with
  | true =>
    have h' : SqT X.K H a vs := h
    obtain ⟨its, rv, q, _⟩ := I.tuple h'
    obtain ⟨o, ho, _⟩ := id q
    exact ⟨its, rv, q, Heap.lt_size ho⟩
  | false =>
    have h' : SqL X.K H a vs := h
    obtain ⟨its, rv, q, _⟩ := I.list h'
    exact ⟨its, rv, q.isList, q.lt⟩
theorem src_draws {prog : Program} {w : World} {A : Around} (hh : A.handled = none) (it : Addr) (z : Src) (hne : z.a ≠ it) (items : Array Value) :
    Draws prog w A it [it, z.a] items.size (fun i v => items[i]? = some v) (fun i h => SrcAt h it z i ∧ SrcI h z items) := by
  obtain ⟨t, a, vs⟩ := z
  cases t with
  | true => exact Draws.tuple hh it a hne items
  | false => exact Draws.list hh it a hne items
theorem src_begins (z : Src) (items : Array Value) : Begins (.ref z.a) (SrcO z) fun h => SrcI h z items := by
  obtain ⟨t, a, vs⟩ := z
  cases t with
  | true => exact begins_tuple a items
  | false => exact begins_list a items
theorem src_at {h : Heap} {it : Addr} {z : Src} (e : h.get? it = some (SrcO z)) : SrcAt h it z 0 := by
  obtain ⟨t, a, vs⟩ := z
  cases t with
  | true => exact ⟨_, e, rfl, rfl⟩
  | false => exact ⟨_, e, rfl, rfl⟩
theorem src_obj {h : Heap} {it : Addr} {z : Src} {i : Nat} (st : SrcAt h it z i) : ∃ o, h.get? it = some o ∧ ∀ v, o.data ≠ .cell v := by
  obtain ⟨t, a, vs⟩ := z
  cases t with
  | true =>
    obtain ⟨o, e, c, d⟩ := st
    exact ⟨o, e, fun v q => by rw [d] at q; cases q⟩
  | false =>
    obtain ⟨o, e, c, d⟩ := st
    exact ⟨o, e, fun v q => by rw [d] at q; cases q⟩
theorem src_keep {h h' : Heap} {it : Addr} {z : Src} {i : Nat} (st : SrcAt h it z i) (k : ∀ o, h.get? it = some o → h'.get? it = some o) : SrcAt h' it z i := by
  obtain ⟨t, a, vs⟩ := z
  cases t with
  | true => exact Heap.IsTupleIter.at st k
  | false => exact Heap.IsListIter.at st k
/-- n turns, each a new tuple -/
def ItS (K : Frg) (srcs : List Src) (n : Nat) (ys : Nat → List V) : It :=
  ⟨fun i H => i < n ∧ ∀ z ∈ srcs, SrcH K H z, fun i H v H' => ∃ T, v = .ref T ∧ H T = none ∧ H' = upd H T (.tup (ys i)), fun i H => i = n ∧ ∀ z ∈ srcs, SrcH K H z⟩
theorem turn_gen {P : Program} {w : World} {K : Frg} {elts : List Expr} {kk : Nat} {tpos : Pos} {srcs : List Src} {n : Nat} {ys : Nat → List V} {I0 : Addr} {fp : List Addr} {tn : Nat → Heap → Prop} (mem : I0 ∈ fp)
    (obj : ∀ i h, tn i h → ∀ b ∈ fp, ∃ o, h.get? b = some o ∧ ∀ v, o.data ≠ .cell v) (keep : ∀ i h h', tn i h → (∀ b ∈ fp, ∀ o, h.get? b = some o → h'.get? b = some o) → tn i h')
    (self : ∀ (A : Around) (i : Nat) (s : Shared) (Q : Value → Shared → Prop) (E : Value → Shared → Prop), tn i s.heap → Q (.ref I0) s → wpAny (model P w) A (pyIter (.ref I0)) Q E s) (hy : ∀ i, (ys i).length ≤ 3)
    (G : ∀ (X : Cx), X.prog = P → X.w = w → X.K = K → X.calm = true → ∀ (pins : List (Addr × Obj)) (s : Shared) (σ : L2.St) (H : Hp), Inv X pins σ H s → (∀ z ∈ srcs, SrcH K H z) → ∀ i, tn i s.heap →
      ∃ (fpG wr : List Addr) (St : Nat → Heap → Prop), GoesN P w X.A (.Tuple elts kk tpos) I0 fpG wr n (fun i h0 v h => ∃ T vals, v = .ref T ∧ h0.objs.size ≤ T ∧ Vals (ys i) vals ∧ h.IsTuple T vals.toArray) St ∧ (∀ b ∈ wr, b ∈ fp) ∧ St i s.heap ∧ ∀ j h, St j h → tn j h) :
    Turn P w K (.Tuple elts kk tpos) (ItS K srcs n ys) fp I0 tn where
  mem := mem
  obj := obj
  keep := keep
  self := self
  item := by
    intro X hP hw hK hc i pins s σ H E I hf st ⟨hi, hsrc⟩
    obtain ⟨fpG, wr, St, W, sub, st0, back⟩ := G X hP hw hK hc pins s σ H I hsrc i st
    subst hP hw hK
    refine W.goes i s (fun u s2 => ∃ x H', Inv X pins σ H' s2 ∧ RelV x u ∧ (ItS X.K srcs n ys).yld i H x H' ∧ tn (i + 1) s2.heap ∧ ∀ b ∈ fp, H' b = none) E hi st0 fun v h' tk ⟨T, vals, ev, hT, rv, ht⟩ st' kp _ => ?_
    subst ev
    have new : ObjOk X.prog X.w (upd H T (.tup (ys i))) h' T (.tup (ys i)) := ⟨sized _ (Nat.le_trans (hy i) (by decide)), vals, rv, ht⟩
    have I1 : Inv X pins σ (upd H T (.tup (ys i))) { s with heap := h', toks := tk } := I.turnedNew (ch := fp) (fun b o hb q => kp b o (fun z => hb (sub b z)) q) hf hT new
    refine ⟨.ref T, _, I1, rfl, ⟨T, rfl, I.hok.fresh hT, rfl⟩, back _ _ st', fun b hb => ?_⟩
    obtain ⟨o, ho, _⟩ := obj i s.heap st b hb
    rw [upd_ne (Nat.ne_of_lt (Nat.lt_of_lt_of_le (Heap.lt_size ho) hT))]
    exact (hf b hb).1
  done := by
    intro X hP hw hK hc i pins s σ H E I hf st ⟨hi, hsrc⟩
    obtain ⟨fpG, wr, St, W, sub, st0, back⟩ := G X hP hw hK hc pins s σ H I hsrc i st
    subst hP hw hK hi
    exact W.stops s (fun s2 => Inv X pins σ H s2) E st0 fun h' tk kp _ => I.turnedL (ch := fp) (fun b o hb q => kp b o (fun z => hb (sub b z)) q) hf
theorem isTup_of {h : Heap} {T : Addr} {a b : Value} (x : h.IsTuple T #[a, b]) : h.IsTuple T [a, b].toArray := x
set_option maxHeartbeats 2000000 in
theorem meets_enum1 {v : Value} {o : Obj} {Hh : Heap → Prop} (Bg : Begins v o Hh) :
    Meets (Builtin.«enumerate.__new__» ⟨[.type "enumerate", v], []⟩) (fun _ R s => Hh s.heap ∧ R (.ok (.ret (.ref (s.heap.push o).objs.size))) { s with heap := (s.heap.push o).push { cls := .type "enumerate", data := .fields #[.none, .bool false, .ref s.heap.objs.size, rawInt 0, .none, .none] } }) :=
  .of_wp fun prog w A R s hyp => by
    obtain ⟨hp, gg, dd, tt, os⟩ := s; obtain ⟨g1, fin⟩ := hyp
    have sub := sub_enumerate
    have nx1 : ∀ {A' : Around} {E : Value → Shared → Prop} {Q : Value → Shared → Prop}, Q (.ref hp.objs.size) ⟨hp.push o, gg, dd, tt, os⟩ → wpAny (model prog w) A' (pyIter v) Q E ⟨hp, gg, dd, tt, os⟩ :=
      fun q => Bg.iter prog w _ _ ⟨hp, gg, dd, tt, os⟩ _ g1 q
    wp_walk using nx1
    refine wpAny_stack_any (fun stk => wpAny_pure ?_)
    split
    · rename_i cc _ _ _ _ _
      cases (cc == Value.type "enumerate") <;> (wp_walk using nx1; exact ⟨_, rfl, fin⟩)
    · wp_walk using nx1
      exact ⟨_, rfl, fin⟩
theorem enum1_begins {prog : Program} {w : World} {A : Around} {E : Value → Shared → Prop} {s : Shared} {v : Value} {o : Obj} {Hh : Heap → Prop} {Q : Value → Shared → Prop} (Bg : Begins v o Hh) (h1 : Hh s.heap)
    (k : ∀ h', IsEnum h' (s.heap.objs.size + 1) s.heap.objs.size 0 .none → h'.get? s.heap.objs.size = some o → (∀ b o, s.heap.get? b = some o → h'.get? b = some o) → Q (.ref (s.heap.objs.size + 1)) { s with heap := h' }) :
    wpAny (model prog w) A (call (.type "enumerate") [v]) Q E s := by
  refine callType_new F.called_enumerate (by decide) (F.typeCall_enumerate_1 _) (F.newCall_enumerate_1 _) (fun oo => F.args_object_init_2 oo _) F.entry_enumerate_new (meets_enum1 Bg) ⟨h1, ?_⟩
  have hz : (s.heap.push o).objs.size = s.heap.objs.size + 1 := Heap.size_push ..
  have he : IsEnum ((s.heap.push o).push { cls := .type "enumerate", data := .fields #[.none, .bool false, .ref s.heap.objs.size, rawInt 0, .none, .none] }) (s.heap.objs.size + 1) s.heap.objs.size 0 .none := by
    rw [← hz]
    exact Heap.get?_push_size (s.heap.push o) (o := { cls := .type "enumerate", data := .fields #[.none, .bool false, .ref s.heap.objs.size, rawInt 0, .none, .none] }) rfl
  show _ ∧ _
  rw [hz]
  exact ⟨⟨_, he, rfl⟩, k _ he (Heap.get?_push_of_some _ (Heap.get?_push_size _ Bg.free)) fun b u x => Heap.get?_push_of_some _ (Heap.get?_push_of_some _ x)⟩
end Dn

set_option Elab.async false
set_option linter.all false
set_option autoImplicit false
set_option maxRecDepth 100000
set_option maxHeartbeats 2000000
namespace Dn
open PySem PySem.Spec PyProof.Rows L2

def ysE (z : Src) (i : Nat) : List V := [.int (i : Nat), z.vs.getD i .non]
def ysZ (z1 z2 : Src) (i : Nat) : List V := [z1.vs.getD i .non, z2.vs.getD i .non]
theorem vals_getD {xs : List V} {its : List Value} {i : Nat} {u : Value} (rv : Vals xs its) (h : its.toArray[i]? = some u) : RelV (xs.getD i .non) u := by
  have h' : its[i]? = some u := by simpa using h
  have hl : i < xs.length := by
    rw [rv.length]
    rcases Nat.lt_or_ge i its.length with q | q
    · exact q
    · rw [List.getElem?_eq_none q] at h'; cases h'
  obtain ⟨u', e1, e2⟩ := rv.get (List.getElem?_eq_getElem hl)
  rw [h'] at e1
  cases e1
  rw [List.getD_eq_getElem?_getD, List.getElem?_eq_getElem hl]
  exact e2
theorem turn_enumS {P : Program} {w : World} {K : Frg} {elts : List Expr} {kk : Nat} {tpos : Pos} (z : Src) (e it : Addr) :
    Turn P w K (.Tuple elts kk tpos) (ItS K [z] z.vs.length (ysE z)) [e, it] e (fun i h => (∃ old, IsEnum h e it ((i : Nat) : Int) old) ∧ SrcAt h it z i ∧ e ≠ it ∧ z.a ≠ it ∧ e ≠ z.a) := by
  refine turn_gen (by simp) (fun i h st b hb => ?_) (fun i h h' st k => ?_) (fun A i s Q E st h => ?_) (fun i => by show 2 ≤ 3; decide) fun X hP hw hK hc pins s σ H I hs i st => ?_
  · obtain ⟨⟨old, he⟩, hi, _⟩ := st
    rcases (by simpa using hb : b = e ∨ b = it) with q | q
    · rw [q]; exact ⟨_, he, fun v t => nomatch t⟩
    · rw [q]; exact src_obj hi
  · obtain ⟨⟨old, he⟩, hi, hne⟩ := st
    exact ⟨⟨old, k e (by simp) _ he⟩, src_keep hi (fun o q => k it (by simp) o q), hne⟩
  · obtain ⟨⟨old, he⟩, _⟩ := st
    exact wpAny_pyIter_enum he h
  · subst hP hw hK
    obtain ⟨⟨old, he⟩, hi, hne, hza, hez⟩ := st
    obtain ⟨its, rv, hI, _⟩ := src_items I (hs z (by simp))
    have D : Draws X.prog X.w X.A.in1 it [it, z.a] its.toArray.size (fun i v => its.toArray[i]? = some v) (fun i h => SrcAt h it z i ∧ SrcI h z its.toArray) := src_draws (show X.A.in1.handled = none from I.ok.hd hc) it z hza its.toArray
    have W := GoesN.enumFrom (elts := elts) (x1 := kk) (pos := tpos) 0 D e hne (by simp; exact ⟨hne, hez⟩) (by simp)
    have en : its.toArray.size = z.vs.length := by rw [List.size_toArray, ← rv.length]
    rw [en] at W
    refine ⟨_, _, _, W.mono fun i h0 v h hi' ⟨T, t, x, ev, hT, hx, ht⟩ => ⟨T, [.int (0 + (i : Int)) t, x], ev, hT, ?_, ht⟩, fun b hb => by simpa using hb, ⟨⟨old, by rw [Int.zero_add]; exact he⟩, hi, hI⟩, fun j h ⟨⟨o, q1⟩, q2, _⟩ => ⟨⟨o, by rw [Int.zero_add] at q1; exact q1⟩, q2, hne, hza, hez⟩⟩
    exact .cons ⟨t, by rw [Int.zero_add]⟩ (.cons (vals_getD rv hx) .nil)
theorem turn_zipS {P : Program} {w : World} {K : Frg} {elts : List Expr} {kk : Nat} {tpos : Pos} (z1 z2 : Src) (N : Nat) (h1 : z1.a < N) (h2 : z2.a < N) :
    Turn P w K (.Tuple elts kk tpos) (ItS K [z1, z2] (min z1.vs.length z2.vs.length) (ysZ z1 z2)) [N + 4, N + 2, N + 3, N, N + 1] (N + 4)
      (fun i h => IsZip h (N + 4) (N + 2) (N + 3) .none ∧ IsTupOf2 h (N + 2) (.ref N) (.ref (N + 1)) ∧ (∃ a1 a2, IsTupOf2 h (N + 3) a1 a2) ∧ SrcAt h N z1 i ∧ SrcAt h (N + 1) z2 i) := by
  refine turn_gen (by simp) (fun i h st b hb => ?_) (fun i h h' st k => ?_) (fun A i s Q E st h => ?_) (fun i => by show 2 ≤ 3; decide) fun X hP hw hK hc pins s σ H I hs i st => ?_
  · obtain ⟨hz, hT, ⟨x, y, hTO⟩, q1, q2⟩ := st
    rcases (by simpa using hb : b = N + 4 ∨ b = N + 2 ∨ b = N + 3 ∨ b = N ∨ b = N + 1) with q | q | q | q | q
    · rw [q]; exact ⟨_, hz, fun v t => nomatch t⟩
    · rw [q]; exact ⟨_, hT, fun v t => nomatch t⟩
    · rw [q]; exact ⟨_, hTO, fun v t => nomatch t⟩
    · rw [q]; exact src_obj q1
    · rw [q]; exact src_obj q2
  · obtain ⟨hz, hT, ⟨x, y, hTO⟩, q1, q2⟩ := st
    exact ⟨k _ (by simp) _ hz, k _ (by simp) _ hT, ⟨x, y, k _ (by simp) _ hTO⟩, src_keep q1 (fun o q => k _ (by simp) o q), src_keep q2 (fun o q => k _ (by simp) o q)⟩
  · exact wpAny_pyIter_zip st.1 h
  · subst hP hw hK
    obtain ⟨hz, hT, hTO, q1, q2⟩ := st
    obtain ⟨its1, rv1, hI1, _⟩ := src_items I (hs z1 (by simp))
    obtain ⟨its2, rv2, hI2, _⟩ := src_items I (hs z2 (by simp))
    have D1 : Draws X.prog X.w X.A.in1 N [N, z1.a] its1.toArray.size (fun i v => its1.toArray[i]? = some v) (fun i h => SrcAt h N z1 i ∧ SrcI h z1 its1.toArray) := src_draws (show X.A.in1.handled = none from I.ok.hd hc) N z1 (Nat.ne_of_lt h1) its1.toArray
    have D2 : Draws X.prog X.w X.A.in1 (N + 1) [N + 1, z2.a] its2.toArray.size (fun i v => its2.toArray[i]? = some v) (fun i h => SrcAt h (N + 1) z2 i ∧ SrcI h z2 its2.toArray) := src_draws (show X.A.in1.handled = none from I.ok.hd hc) (N + 1) z2 (Nat.ne_of_lt (Nat.lt_succ_of_lt h2)) its2.toArray
    have S : ZipSep2 (N + 4) (N + 2) (N + 3) N (N + 1) (N :: [z1.a]) ((N + 1) :: [z2.a]) := zip_sep2 (fun b hb => by rw [List.mem_singleton.mp hb]; exact h1) (fun b hb => by rw [List.mem_singleton.mp hb]; exact h2)
    have W := GoesN.zip2 (elts := elts) (x1 := kk) (pos := tpos) S D1 D2
    have e1 : its1.toArray.size = z1.vs.length := by rw [List.size_toArray, ← rv1.length]
    have e2 : its2.toArray.size = z2.vs.length := by rw [List.size_toArray, ← rv2.length]
    rw [e1, e2] at W
    refine ⟨_, _, _, W.mono fun i h0 v h hi' ⟨T, x, y, ev, hT, hx, hy, ht⟩ => ⟨T, [x, y], ev, hT, ?_, ht⟩, fun b hb => by
      rcases (by simpa using hb : b = N + 4 ∨ b = N + 3 ∨ b = N ∨ b = N + 1) with q | q | q | q <;> simp [q], ⟨hz, hT, hTO, ⟨q1, hI1⟩, ⟨q2, hI2⟩⟩, fun j h ⟨k1, k2, k3, k4, k5⟩ => ⟨k1, k2, k3, k4.1, k5.1⟩⟩
    exact .cons (vals_getD rv1 hx) (.cons (vals_getD rv2 hy) .nil)
def enumD : Nat → List PyData → List PyData
  | _, [] => []
  | k, x :: r => .tuple [.int (k : Nat), x] :: enumD (k + 1) r
def zipD : List PyData → List PyData → List PyData
  | x :: xs, y :: ys => .tuple [x, y] :: zipD xs ys
  | _, _ => []
theorem enumD_get : ∀ (xs : List PyData) (k i : Nat) (x : PyData), (enumD k xs)[i]? = some x → ∃ y, xs[i]? = some y ∧ x = .tuple [.int ((k + i : Nat) : Int), y]
  | [], _, _, _, h => by cases h
  | y :: r, k, 0, x, h => by
    cases h
    exact ⟨y, rfl, rfl⟩
  | y :: r, k, i + 1, x, h => by
    obtain ⟨z, e1, e2⟩ := enumD_get r (k + 1) i x h
    refine ⟨z, e1, ?_⟩
    rw [e2, Nat.add_right_comm k 1 i]
    rfl
theorem enumD_length : ∀ (xs : List PyData) (k : Nat), (enumD k xs).length = xs.length
  | [], _ => rfl
  | _ :: r, k => by rw [enumD, List.length_cons, List.length_cons, enumD_length r]
theorem zipD_get : ∀ (xs ys : List PyData) (i : Nat) (x : PyData), (zipD xs ys)[i]? = some x → ∃ a b, xs[i]? = some a ∧ ys[i]? = some b ∧ x = .tuple [a, b]
  | [], _, _, _, h => by cases h
  | _ :: _, [], _, _, h => by cases h
  | a :: xs, b :: ys, 0, x, h => by
    cases h
    exact ⟨a, b, rfl, rfl, rfl⟩
  | a :: xs, b :: ys, i + 1, x, h => zipD_get xs ys i x h
theorem zipD_length : ∀ (xs ys : List PyData), (zipD xs ys).length = min xs.length ys.length
  | [], _ => by simp [zipD]
  | _ :: _, [] => by simp [zipD]
  | _ :: xs, _ :: ys => by rw [zipD, List.length_cons, List.length_cons, List.length_cons, zipD_length xs ys]; omega
theorem rps_getD {K : Frg} {F : Hp} {vs : List V} {ds : List PyData} {i : Nat} {d : PyData} (r : Rps K F vs ds) (h : ds[i]? = some d) : Rp K F (vs.getD i .non) d := by
  obtain ⟨v, e1, e2⟩ := r.get h
  rw [List.getD_eq_getElem?_getD, e1]
  exact e2
theorem al_tup {K : Frg} {F H : Hp} {T : Addr} {vs : List V} {ds : List PyData} (fr : Ext F H) (hT : H T = none) (r : Rps K F vs ds) : ∃ F2, Al F H F2 (upd H T (.tup vs)) ∧ Rp K F2 (.ref T) (.tuple ds) :=
  ⟨_, .one hT, .tup (SqT.of upd_same) (Rps.mono (Ext.new (not_in_F fr hT)) r)⟩
theorem wk_enum {K : Frg} {F : Hp} {P : Hp → Prop} {z : Src} {xs : List PyData} (hp : ∀ F' H', Ext F F' → Ext F' H' → P H' → SrcH K H' z) (r : Rps K F z.vs xs) : Wk K F P (ItS K [z] z.vs.length (ysE z)) (enumD 0 xs) := fun i F' H' h1 h2 h3 => by
  have hs : ∀ y ∈ [z], SrcH K H' y := fun y hy => by rw [List.mem_singleton.mp hy]; exact hp F' H' h1 h2 h3
  refine ⟨fun x hx => ?_, fun hx => ⟨by rw [hx, enumD_length, r.length], hs⟩⟩
  obtain ⟨y, e1, e2⟩ := enumD_get xs 0 i x hx
  have hl : i < xs.length := by
    rcases Nat.lt_or_ge i xs.length with q | q
    · exact q
    · rw [List.getElem?_eq_none q] at e1; cases e1
  refine ⟨⟨by rw [r.length]; exact hl, hs⟩, fun v H2 ⟨T, ev, hT, eH⟩ => ?_⟩
  subst ev eH e2
  rw [Nat.zero_add]
  exact al_tup h2 hT (.cons (.int _) (.one (Rp.mono h1 (rps_getD r e1))))
theorem wk_zip {K : Frg} {F : Hp} {P : Hp → Prop} {z1 z2 : Src} {xs ys : List PyData} (hp : ∀ F' H', Ext F F' → Ext F' H' → P H' → SrcH K H' z1 ∧ SrcH K H' z2) (r1 : Rps K F z1.vs xs) (r2 : Rps K F z2.vs ys) :
    Wk K F P (ItS K [z1, z2] (min z1.vs.length z2.vs.length) (ysZ z1 z2)) (zipD xs ys) := fun i F' H' h1 h2 h3 => by
  have hs : ∀ y ∈ [z1, z2], SrcH K H' y := fun y hy => by
    rcases (by simpa using hy : y = z1 ∨ y = z2) with q | q
    · rw [q]; exact (hp F' H' h1 h2 h3).1
    · rw [q]; exact (hp F' H' h1 h2 h3).2
  refine ⟨fun x hx => ?_, fun hx => ⟨by rw [hx, zipD_length, r1.length, r2.length], hs⟩⟩
  obtain ⟨a, b, e1, e2, e3⟩ := zipD_get xs ys i x hx
  have hl1 : i < xs.length := by
    rcases Nat.lt_or_ge i xs.length with q | q
    · exact q
    · rw [List.getElem?_eq_none q] at e1; cases e1
  have hl2 : i < ys.length := by
    rcases Nat.lt_or_ge i ys.length with q | q
    · exact q
    · rw [List.getElem?_eq_none q] at e2; cases e2
  refine ⟨⟨by rw [r1.length, r2.length]; exact Nat.lt_min.mpr ⟨hl1, hl2⟩, hs⟩, fun v H2 ⟨T, ev, hT, eH⟩ => ?_⟩
  subst ev eH e3
  exact al_tup h2 hT (.cons (Rp.mono h1 (rps_getD r1 e1)) (.one (Rp.mono h1 (rps_getD r2 e2))))
def dEnum (d : DE) : DL := fun sl B => (dSeq' d sl B).map fun p => (enumD 0 p.1, p.2)
def dZip (d d2 : DE) : DL := fun sl B => (dSeq' d sl B).bind fun p => (dSeq' d2 sl p.2).map fun q => (zipD p.1 q.1, q.2)
/-- a source from a value -/
theorem src_of {K : Frg} {F H : Hp} {b : Bad} {v : V} {x : PyData} {xs : List PyData} (fr : Ext F H) (h : TopR K F H b v x) (e : x = .list xs ∨ x = .tuple xs) : ∃ z : Src, v = .ref z.a ∧ SrcH K H z ∧ Rps K F z.vs xs ∧ (∀ F' H', Ext F F' → Ext F' H' → Keep b H H' → SrcH K H' z) := by
  rcases e with e | e
  · subst e
    obtain ⟨a, vs, rfl, h1, h2, h3⟩ := h
    exact ⟨⟨false, a, vs⟩, rfl, SqL.of h1, h3, fun F' H' _ _ k => SqL.of (k a _ h1 h2)⟩
  · subst e
    have h' : Rp K F v (.tuple xs) := h
    cases h' with
    | tup h1 h2 => exact ⟨⟨true, _, _⟩, rfl, fr.sqT h1, h2, fun F' H' g1 g2 _ => g2.sqT (g1.sqT h1)⟩
theorem src_ofE {K : Frg} {F H : Hp} {v : V} {x : PyData} {xs : List PyData} (fr : Ext F H) (h : Rp K F v x) (e : x = .list xs ∨ x = .tuple xs) : ∃ z : Src, v = .ref z.a ∧ SrcH K H z ∧ Rps K F z.vs xs ∧ (∀ F' H', Ext F F' → Ext F' H' → True → SrcH K H' z) := by
  rcases e with e | e
  · subst e
    cases h with
    | lst h1 h2 => exact ⟨⟨false, _, _⟩, rfl, SqL.of (fr _ _ h1), h2, fun F' H' g1 g2 _ => SqL.of (g2 _ _ (g1 _ _ h1))⟩
  · subst e
    cases h with
    | tup h1 h2 => exact ⟨⟨true, _, _⟩, rfl, fr.sqT h1, h2, fun F' H' g1 g2 _ => g2.sqT (g1.sqT h1)⟩
theorem dSeq_inv {d : DE} {sl : Sl} {B B' : Bx} {xs : List PyData} (h : dSeq' d sl B = some (xs, B')) : ∃ x, d sl B = some (x, B') ∧ (x = .list xs ∨ x = .tuple xs) := by
  obtain ⟨⟨x, B1⟩, e1, e⟩ := bnd h
  split at e
  · rename_i ys hy
    cases e
    exact ⟨_, e1, .inl hy⟩
  · rename_i ys hy
    cases e
    exact ⟨_, e1, .inr hy⟩
  · cases e
section
variable {X : Cx} {C : Fx} {l l2 : Expr} {d d2 : DE} {p pos tpos : Pos} {elts : List Expr} {kk : Nat}
theorem enum_run {pins : List (Addr × Obj)} {σ : L2.St} {H : Hp} {s1 : Shared} {Rr : It → Hp → Prop} {E : Value → Shared → Prop} (I : Inv X pins σ H s1) (z : Src) (hz : SrcH X.K H z) (q : Rr (ItS X.K [z] z.vs.length (ysE z)) H) :
    wpAny (model X.prog X.w) X.A (call (.type "enumerate") [.ref z.a]) (fun v s2 => wpAny (model X.prog X.w) X.A (pyIter v) (PIE X pins σ (.Tuple elts kk tpos) Rr) E s2) E s1 := by
  obtain ⟨its, rv, hI, hlt⟩ := src_items I hz
  refine enum1_begins (src_begins z its.toArray) hI fun h' he hit hk => wpAny_pyIter_enum he ?_
  have I2 : Inv X pins σ H { s1 with heap := h' } := I.kept (t' := s1.toks) hk
  refine ⟨s1.heap.objs.size + 1, [s1.heap.objs.size + 1, s1.heap.objs.size], _, _, H, rfl, I2, turn_enumS z (s1.heap.objs.size + 1) s1.heap.objs.size, ⟨⟨.none, he⟩, src_at hit, Nat.succ_ne_self _, Nat.ne_of_lt hlt, Nat.ne_of_gt (Nat.lt_succ_of_lt hlt)⟩, fun c hc => ?_, q⟩
  have hle : s1.heap.objs.size ≤ c := by
    rcases (by simpa using hc : c = s1.heap.objs.size + 1 ∨ c = s1.heap.objs.size) with q | q
    · rw [q]; exact Nat.le_succ _
    · rw [q]; exact Nat.le_refl _
  exact I.fpOk hle (I.hok.fresh hle)
theorem zip_run {pins : List (Addr × Obj)} {σ : L2.St} {H : Hp} {s1 : Shared} {Rr : It → Hp → Prop} {E : Value → Shared → Prop} (I : Inv X pins σ H s1) (z1 z2 : Src) (hz1 : SrcH X.K H z1) (hz2 : SrcH X.K H z2) (q : Rr (ItS X.K [z1, z2] (min z1.vs.length z2.vs.length) (ysZ z1 z2)) H) :
    wpAny (model X.prog X.w) X.A (call (.type "zip") [.ref z1.a, .ref z2.a]) (fun v s2 => wpAny (model X.prog X.w) X.A (pyIter v) (PIE X pins σ (.Tuple elts kk tpos) Rr) E s2) E s1 := by
  obtain ⟨its1, rv1, hI1, hlt1⟩ := src_items I hz1
  obtain ⟨its2, rv2, hI2, hlt2⟩ := src_items I hz2
  refine zip_begins2 (src_begins z1 its1.toArray) (src_begins z2 its2.toArray) hI1 hI2 fun h' hz hTI hTO h1 h2 _ hk => wpAny_pyIter_zip hz ?_
  have I2 : Inv X pins σ H { s1 with heap := h' } := I.kept (t' := s1.toks) hk
  refine ⟨s1.heap.objs.size + 4, [s1.heap.objs.size + 4, s1.heap.objs.size + 2, s1.heap.objs.size + 3, s1.heap.objs.size, s1.heap.objs.size + 1], _, _, H, rfl, I2, turn_zipS z1 z2 _ hlt1 hlt2, ⟨hz, hTI, ⟨_, _, hTO⟩, src_at h1, src_at h2⟩, fun c hc => ?_, q⟩
  have hle : s1.heap.objs.size ≤ c := by
    rcases (by simpa using hc : c = s1.heap.objs.size + 4 ∨ c = s1.heap.objs.size + 2 ∨ c = s1.heap.objs.size + 3 ∨ c = s1.heap.objs.size ∨ c = s1.heap.objs.size + 1) with q | q | q | q | q <;> rw [q] <;> first | exact Nat.le_add_right _ _ | exact Nat.le_refl _
  exact I.fpOk hle (I.hok.fresh hle)
theorem i_enum (hm : X.mg "enumerate" = none) (h : PE X l (liftE X.K C d)) (hg : Gl X "enumerate" := by rfl) (hs : starEach [l] X.env = [(false, eval l X.env)] := by rfl) (hs' : starEach (l :: []) X.env = (false, eval l X.env) :: starEach [] X.env := by rfl) :
    PI X (.Tuple elts kk tpos) (.Call (.Name "enumerate" p) [l] [] pos) (liftI X.K C (dEnum d)) := ⟨fun pins s σ H Rr I ⟨sl, B, F, b, xs, B', R, e, k⟩ => by
  obtain ⟨⟨ys, B1⟩, e1, e⟩ := mpd e
  cases e
  obtain ⟨x, e2, e3⟩ := dSeq_inv e1
  refine Call_ (ld_blt I hg hm boot_enumerate (PyProof.Rows.callWith_type1 (thn ((pa_cons h pa_nil hs').run pos pins s σ H (fun vs H' => ∃ F' b', Rel X.K C sl B1 F' b' σ H' ∧ Stp F b H F' b' H' ∧ ∃ v, vs = [v] ∧ Rp X.K F' v x) I ⟨sl, B, F, b, x, B1, R, e2, fun v H' F' b' R' S' q => ⟨F', b', R', S', v, rfl, q⟩⟩) fun us s1 ⟨vs, H1, I1, r1, q1⟩ => ?_) hs rfl))
  obtain ⟨F1, b1, R1, S1, v, rfl, q1⟩ := q1
  obtain ⟨z, ev, hz, rz, kz⟩ := src_ofE R1.fro q1 e3
  subst ev
  cases r1 with
  | cons ra rb =>
    cases rb
    cases ra
    exact enum_run I1 z hz (k _ H1 F1 b1 R1 S1 (wk_enum kz rz))⟩
theorem i_enumo (hm : X.mg "enumerate" = none) (h : PE X l (liftO X.K C d)) (hg : Gl X "enumerate" := by rfl) (hs : starEach [l] X.env = [(false, eval l X.env)] := by rfl) (hs' : starEach (l :: []) X.env = (false, eval l X.env) :: starEach [] X.env := by rfl) :
    PI X (.Tuple elts kk tpos) (.Call (.Name "enumerate" p) [l] [] pos) (liftIo X.K C (dEnum d)) := ⟨fun pins s σ H Rr I ⟨sl, B, F, b, xs, B', R, e, k⟩ => by
  obtain ⟨⟨ys, B1⟩, e1, e⟩ := mpd e
  cases e
  obtain ⟨x, e2, e3⟩ := dSeq_inv e1
  refine Call_ (ld_blt I hg hm boot_enumerate (PyProof.Rows.callWith_type1 (thn ((pa_cons h pa_nil hs').run pos pins s σ H (fun vs H' => ∃ F' b', Rel X.K C sl B1 F' b' σ H' ∧ Stp F b H F' b' H' ∧ ∃ v, vs = [v] ∧ TopR X.K F' H' b' v x) I ⟨sl, B, F, b, x, B1, R, e2, fun v H' F' b' R' S' q => ⟨F', b', R', S', v, rfl, q⟩⟩) fun us s1 ⟨vs, H1, I1, r1, q1⟩ => ?_) hs rfl))
  obtain ⟨F1, b1, R1, S1, v, rfl, q1⟩ := q1
  obtain ⟨z, ev, hz, rz, kz⟩ := src_of R1.fro q1 e3
  subst ev
  cases r1 with
  | cons ra rb =>
    cases rb
    cases ra
    exact enum_run I1 z hz (k _ H1 F1 b1 R1 S1 (wk_enum kz rz))⟩
theorem i_zip (hm : X.mg "zip" = none) (h : PE X l (liftE X.K C d)) (h2 : PE X l2 (liftE X.K C d2)) (hg : Gl X "zip" := by rfl) (hs : starEach [l, l2] X.env = (false, eval l X.env) :: starEach [l2] X.env := by rfl) (hpl : (backTo pos (starEach [l2] X.env)).any (·.1) = false := by rfl) (hs' : starEach (l :: [l2]) X.env = (false, eval l X.env) :: starEach [l2] X.env := by rfl)
    (hs2 : starEach (l2 :: []) X.env = (false, eval l2 X.env) :: starEach [] X.env := by rfl) : PI X (.Tuple elts kk tpos) (.Call (.Name "zip" p) [l, l2] [] pos) (liftI X.K C (dZip d d2)) := ⟨fun pins s σ H Rr I ⟨sl, B, F, b, xs, B', R, e, k⟩ => by
  obtain ⟨⟨xs1, B1⟩, e1, e⟩ := bnd e
  obtain ⟨⟨xs2, B2⟩, e2, e⟩ := mpd e
  cases e
  obtain ⟨x, e3, e4⟩ := dSeq_inv e1
  obtain ⟨y, e5, e6⟩ := dSeq_inv e2
  refine Call_ (ld_blt I hg hm PyProof.Rows.boot_zip (PyProof.Rows.callWith_type1 (thn ((pa_cons h (pa_cons h2 pa_nil hs2) hs').run pos pins s σ H (fun vs H' => ∃ F' b', Rel X.K C sl B2 F' b' σ H' ∧ Stp F b H F' b' H' ∧ ∃ v u, vs = [v, u] ∧ Rp X.K F' v x ∧ Rp X.K F' u y) I ⟨sl, B, F, b, x, B1, R, e3, fun v H' F' b' R' S' q => ⟨sl, B1, F', b', y, _, R', e5, fun u H2 F2 b2 R2 S2 q2 => ⟨F2, b2, R2, S'.trans S2, v, u, rfl, Rp.mono S2.ex q, q2⟩⟩⟩) fun us s1 ⟨vs, H1, I1, r1, q1⟩ => ?_) hs hpl))
  obtain ⟨F1, b1, R1, S1, v, u, rfl, q1, q2⟩ := q1
  obtain ⟨z, ev, hz, rz, kz⟩ := src_ofE R1.fro q1 e4
  obtain ⟨z2, ev2, hz2, rz2, kz2⟩ := src_ofE R1.fro q2 e6
  subst ev ev2
  cases r1 with
  | cons ra rb =>
    cases rb with
    | cons rb rc =>
      cases rc
      cases ra
      cases rb
      exact zip_run I1 z z2 hz hz2 (k _ H1 F1 b1 R1 S1 (wk_zip (fun F' H' g1 g2 g3 => ⟨kz F' H' g1 g2 g3, kz2 F' H' g1 g2 g3⟩) rz rz2))⟩
theorem i_zipo (hm : X.mg "zip" = none) (h : PE X l (liftO X.K C d)) (h2 : PE X l2 (liftO X.K C d2)) (hg : Gl X "zip" := by rfl) (hs : starEach [l, l2] X.env = (false, eval l X.env) :: starEach [l2] X.env := by rfl) (hpl : (backTo pos (starEach [l2] X.env)).any (·.1) = false := by rfl) (hs' : starEach (l :: [l2]) X.env = (false, eval l X.env) :: starEach [l2] X.env := by rfl)
    (hs2 : starEach (l2 :: []) X.env = (false, eval l2 X.env) :: starEach [] X.env := by rfl) : PI X (.Tuple elts kk tpos) (.Call (.Name "zip" p) [l, l2] [] pos) (liftIo X.K C (dZip d d2)) := ⟨fun pins s σ H Rr I ⟨sl, B, F, b, xs, B', R, e, k⟩ => by
  obtain ⟨⟨xs1, B1⟩, e1, e⟩ := bnd e
  obtain ⟨⟨xs2, B2⟩, e2, e⟩ := mpd e
  cases e
  obtain ⟨x, e3, e4⟩ := dSeq_inv e1
  obtain ⟨y, e5, e6⟩ := dSeq_inv e2
  refine Call_ (ld_blt I hg hm PyProof.Rows.boot_zip (PyProof.Rows.callWith_type1 (thn ((pa_cons h (pa_cons h2 pa_nil hs2) hs').run pos pins s σ H (fun vs H' => ∃ F' b', Rel X.K C sl B2 F' b' σ H' ∧ Stp F b H F' b' H' ∧ ∃ v u, vs = [v, u] ∧ TopR X.K F' H' b' v x ∧ TopR X.K F' H' b' u y) I ⟨sl, B, F, b, x, B1, R, e3, fun v H' F' b' R' S' q => ⟨sl, B1, F', b', y, _, R', e5, fun u H2 F2 b2 R2 S2 q2 => ⟨F2, b2, R2, S'.trans S2, v, u, rfl, q.mono S2, q2⟩⟩⟩) fun us s1 ⟨vs, H1, I1, r1, q1⟩ => ?_) hs hpl))
  obtain ⟨F1, b1, R1, S1, v, u, rfl, q1, q2⟩ := q1
  obtain ⟨z, ev, hz, rz, kz⟩ := src_of R1.fro q1 e4
  obtain ⟨z2, ev2, hz2, rz2, kz2⟩ := src_of R1.fro q2 e6
  subst ev ev2
  cases r1 with
  | cons ra rb =>
    cases rb with
    | cons rb rc =>
      cases rc
      cases ra
      cases rb
      exact zip_run I1 z z2 hz hz2 (k _ H1 F1 b1 R1 S1 (wk_zip (fun F' H' g1 g2 g3 => ⟨kz F' H' g1 g2 g3, kz2 F' H' g1 g2 g3⟩) rz rz2))⟩
end
end Dn

set_option Elab.async false
set_option linter.all false
set_option autoImplicit false
set_option maxRecDepth 100000
set_option maxHeartbeats 1000000
/-! Reckoning with denotations, from the inside out (for simp only): each combinator applied, then a helper on what its parts gave. -/
namespace Dn
open PySem
abbrev OE := Option (PyData × Bx)
section
variable {da db : DE} {dv : DV} {ta tb : DT} {dl : DL} {ds : DA} {sl s2 : Sl} {B B1 B2 : Bx} {x y z : PyData} {xs ys : List PyData} {v : Sv} {vs : List Sv} {b c : Bool} {d1 d2 : DS}
theorem k_dC : dC x sl B = some (x, B) := id rfl
theorem k_var_ap {i : Nat} : dVar i sl B = (match sl[i]? with | some (some (.dat d)) => some (d, B) | _ => none) := id rfl
theorem k_varO_ap {i : Nat} : dVarO i sl B = (match sl[i]? with | some (some (.dat d)) => some (d, B) | some (some (.own xs)) => some (.list xs, B) | _ => none) := id rfl
theorem k_varV_ap {i : Nat} : dVarV i sl B = (match sl[i]? with | some (some (.own _)) => none | some (some s) => some (s, B) | _ => none) := id rfl
/-! operators -/
def kOp1 (f : PyData → PyData → Option PyData) (db : DE) (sl : Sl) : OE → OE
  | some (x, B) => (db sl B).bind fun q => (f x q.1).map fun z => (z, q.2)
  | none => none
def kOp2 (f : PyData → PyData → Option PyData) (x : PyData) : OE → OE
  | some (y, B) => (f x y).map fun z => (z, B)
  | none => none
def kFin (B : Bx) : Option PyData → OE
  | some z => some (z, B)
  | none => none
theorem k_op {f : PyData → PyData → Option PyData} : dOp f da db sl B = kOp1 f db sl (da sl B) := by
  cases hh : da sl B <;> simp [dOp, kOp1, hh]
theorem k_op1 {f : PyData → PyData → Option PyData} : kOp1 f db sl (some (x, B)) = kOp2 f x (db sl B) := by
  cases hh : db sl B <;> simp [kOp1, kOp2, hh]
theorem k_op2 {f : PyData → PyData → Option PyData} : kOp2 f x (some (y, B)) = kFin B (f x y) := by
  cases hh : f x y <;> simp [kOp2, kFin, hh]
theorem k_fin : kFin B (some z) = some (z, B) := id rfl
def kT1 (f : PyData → PyData → Option Bool) (db : DE) (sl : Sl) : OE → Option (Bool × Bx)
  | some (x, B) => (db sl B).bind fun q => (f x q.1).map fun z => (z, q.2)
  | none => none
def kT2 (f : PyData → PyData → Option Bool) (x : PyData) : OE → Option (Bool × Bx)
  | some (y, B) => (f x y).map fun z => (z, B)
  | none => none
def kTF (B : Bx) : Option Bool → Option (Bool × Bx)
  | some z => some (z, B)
  | none => none
theorem k_tst {f : PyData → PyData → Option Bool} : dTst f da db sl B = kT1 f db sl (da sl B) := by
  cases hh : da sl B <;> simp [dTst, kT1, hh]
theorem k_t1 {f : PyData → PyData → Option Bool} : kT1 f db sl (some (x, B)) = kT2 f x (db sl B) := by
  cases hh : db sl B <;> simp [kT1, kT2, hh]
theorem k_t2 {f : PyData → PyData → Option Bool} : kT2 f x (some (y, B)) = kTF B (f x y) := by
  cases hh : f x y <;> simp [kT2, kTF, hh]
theorem k_tF : kTF B (some b) = some (b, B) := id rfl
def kB : Option (Bool × Bx) → OE
  | some (b, B) => some (.bool b, B)
  | none => none
theorem k_opB {f : PyData → PyData → Option Bool} : dOpB f da db sl B = kB (kT1 f db sl (da sl B)) := by
  unfold dOpB kT1
  cases da sl B with
  | none => rfl
  | some p =>
    show (db sl p.2).bind _ = kB ((db sl p.2).bind _)
    cases db sl p.2 with
    | none => rfl
    | some q =>
      show (f p.1 q.1).map _ = kB ((f p.1 q.1).map _)
      cases f p.1 q.1 <;> rfl
theorem k_B : kB (some (b, B)) = some (.bool b, B) := id rfl
def kNeg : OE → OE
  | some (.int i, B) => some (.int (-i), B)
  | _ => none
theorem k_neg : dNeg da sl B = kNeg (da sl B) := by
  unfold dNeg kNeg
  cases da sl B with
  | none => rfl
  | some p => obtain ⟨x, B1⟩ := p; cases x <;> rfl
theorem k_neg1 {i : Int} : kNeg (some (.int i, B)) = some (.int (-i), B) := id rfl
/-! tests -/
def kAnd (u : DT) (sl : Sl) : Option (Bool × Bx) → Option (Bool × Bx)
  | some (true, B) => u sl B
  | some (false, B) => some (false, B)
  | none => none
def kOr (u : DT) (sl : Sl) : Option (Bool × Bx) → Option (Bool × Bx)
  | some (true, B) => some (true, B)
  | some (false, B) => u sl B
  | none => none
def kNot : Option (Bool × Bx) → Option (Bool × Bx)
  | some (b, B) => some (!b, B)
  | none => none
theorem k_andT : dAndT ta tb sl B = kAnd tb sl (ta sl B) := by
  unfold dAndT kAnd
  cases ta sl B with
  | none => rfl
  | some p => obtain ⟨x, B1⟩ := p; cases x <;> rfl
theorem k_orT : dOrT ta tb sl B = kOr tb sl (ta sl B) := by
  unfold dOrT kOr
  cases ta sl B with
  | none => rfl
  | some p => obtain ⟨x, B1⟩ := p; cases x <;> rfl
theorem k_notT : dNotT ta sl B = kNot (ta sl B) := by
  cases hh : ta sl B <;> simp [dNotT, kNot, hh]
theorem k_and1 : kAnd tb sl (some (true, B)) = tb sl B := id rfl
theorem k_and0 : kAnd tb sl (some (false, B)) = some (false, B) := id rfl
theorem k_or1 : kOr tb sl (some (true, B)) = some (true, B) := id rfl
theorem k_or0 : kOr tb sl (some (false, B)) = tb sl B := id rfl
theorem k_not1 : kNot (some (b, B)) = some (!b, B) := id rfl
def kTru : OE → Option (Bool × Bx)
  | some (x, B) => kTF B (truD x)
  | none => none
theorem k_tru : dTru da sl B = kTru (da sl B) := by
  unfold dTru kTru
  cases da sl B with
  | none => rfl
  | some p => show (truD p.1).map _ = kTF p.2 (truD p.1); cases truD p.1 <;> rfl
theorem k_tru1 : kTru (some (x, B)) = kTF B (truD x) := id rfl
def kAndV (db : DE) (sl : Sl) : OE → OE
  | some (.bool true, B) => db sl B
  | some (.bool false, B) => some (.bool false, B)
  | _ => none
def kOrV (db : DE) (sl : Sl) : OE → OE
  | some (.bool true, B) => some (.bool true, B)
  | some (.bool false, B) => db sl B
  | _ => none
def kNotV : OE → OE
  | some (.bool b, B) => some (.bool (!b), B)
  | _ => none
theorem k_andV : dAndV da db sl B = kAndV db sl (da sl B) := by
  unfold dAndV kAndV
  cases da sl B with
  | none => rfl
  | some p =>
    obtain ⟨x, B1⟩ := p
    cases x with
    | bool k => cases k <;> rfl
    | _ => rfl
theorem k_orV : dOrV da db sl B = kOrV db sl (da sl B) := by
  unfold dOrV kOrV
  cases da sl B with
  | none => rfl
  | some p =>
    obtain ⟨x, B1⟩ := p
    cases x with
    | bool k => cases k <;> rfl
    | _ => rfl
theorem k_notV : dNotV da sl B = kNotV (da sl B) := by
  unfold dNotV kNotV
  cases da sl B with
  | none => rfl
  | some p => obtain ⟨x, B1⟩ := p; cases x <;> rfl
theorem k_andV1 : kAndV db sl (some (.bool true, B)) = db sl B := id rfl
theorem k_andV0 : kAndV db sl (some (.bool false, B)) = some (.bool false, B) := id rfl
theorem k_orV1 : kOrV db sl (some (.bool true, B)) = some (.bool true, B) := id rfl
theorem k_orV0 : kOrV db sl (some (.bool false, B)) = db sl B := id rfl
theorem k_notV1 : kNotV (some (.bool b, B)) = some (.bool (!b), B) := id rfl
def kIf (da db : DE) (sl : Sl) : Option (Bool × Bx) → OE
  | some (true, B) => da sl B
  | some (false, B) => db sl B
  | none => none
theorem k_if : dIf ta da db sl B = kIf da db sl (ta sl B) := by
  unfold dIf kIf
  cases ta sl B with
  | none => rfl
  | some p => obtain ⟨x, B1⟩ := p; cases x <;> rfl
theorem k_if1 : kIf da db sl (some (true, B)) = da sl B := id rfl
theorem k_if0 : kIf da db sl (some (false, B)) = db sl B := id rfl
theorem k_ifD {p : Prop} [Decidable p] : kIf da db sl (some (decide p, B)) = if p then da sl B else db sl B := by
  by_cases h : p
  · rw [decide_eq_true h, if_pos h]; rfl
  · rw [decide_eq_false h, if_neg h]; rfl
/-! argument lists, displays -/
def kCons (dl : DL) (sl : Sl) : OE → Option (List PyData × Bx)
  | some (x, B) => (dl sl B).map fun q => (x :: q.1, q.2)
  | none => none
def kCons2 (x : PyData) : Option (List PyData × Bx) → Option (List PyData × Bx)
  | some (xs, B) => some (x :: xs, B)
  | none => none
theorem k_nil : dNil sl B = some ([], B) := id rfl
theorem k_cons : dCons da dl sl B = kCons dl sl (da sl B) := by
  cases hh : da sl B <;> simp [dCons, kCons, hh]
theorem k_cons1 : kCons dl sl (some (x, B)) = kCons2 x (dl sl B) := by
  cases hh : dl sl B <;> simp [kCons, kCons2, hh]
theorem k_cons2 : kCons2 x (some (xs, B)) = some (x :: xs, B) := id rfl
def kConsA (ds : DA) (sl : Sl) : Option (Sv × Bx) → Option (List Sv × Bx)
  | some (x, B) => (ds sl B).map fun q => (x :: q.1, q.2)
  | none => none
def kConsA2 (x : Sv) : Option (List Sv × Bx) → Option (List Sv × Bx)
  | some (xs, B) => some (x :: xs, B)
  | none => none
theorem k_nilA : dNilA sl B = some ([], B) := id rfl
theorem k_consA : dConsA dv ds sl B = kConsA ds sl (dv sl B) := by
  cases hh : dv sl B <;> simp [dConsA, kConsA, hh]
theorem k_consA1 : kConsA ds sl (some (v, B)) = kConsA2 v (ds sl B) := by
  cases hh : ds sl B <;> simp [kConsA, kConsA2, hh]
theorem k_consA2 : kConsA2 v (some (vs, B)) = some (v :: vs, B) := id rfl
def kV : OE → Option (Sv × Bx)
  | some (x, B) => some (.dat x, B)
  | none => none
theorem k_V : dV da sl B = kV (da sl B) := by
  cases hh : da sl B <;> simp [dV, kV, hh]
theorem k_V1 : kV (some (x, B)) = some (.dat x, B) := id rfl
def kF : Option (List PyData × Bx) → OE
  | some (xs, B) => some (.list xs, B)
  | none => none
theorem k_F : dF dl sl B = kF (dl sl B) := by
  cases hh : dl sl B <;> simp [dF, kF, hh]
theorem k_F1 : kF (some (xs, B)) = some (.list xs, B) := id rfl
def kTup : Option (List PyData × Bx) → OE
  | some (xs, B) => if xs.length ≤ sizeLine then some (.tuple xs, B) else none
  | none => none
theorem k_tup : dTup dl sl B = kTup (dl sl B) := by
  cases hh : dl sl B <;> simp [dTup, kTup, hh]
theorem k_tup1 (h : xs.length ≤ sizeLine) : kTup (some (xs, B)) = some (.tuple xs, B) := if_pos h
def kLst : Option (List PyData × Bx) → Option (List PyData × Bx)
  | some (xs, B) => if xs.length ≤ sizeLine then some (xs, B) else none
  | none => none
theorem k_lst : dLst dl sl B = kLst (dl sl B) := by
  cases hh : dl sl B <;> simp [dLst, kLst, hh]
theorem k_lst1 (h : xs.length ≤ sizeLine) : kLst (some (xs, B)) = some (xs, B) := if_pos h
/-! built-ins -/
def kCl (f : List PyData → Option PyData) : Option (List PyData × Bx) → OE
  | some (xs, B) => kFin B (f xs)
  | none => none
theorem k_cl {f : List PyData → Option PyData} : dCl f dl sl B = kCl f (dl sl B) := by
  unfold dCl kCl
  cases dl sl B with
  | none => rfl
  | some p => show (f p.1).map _ = kFin p.2 (f p.1); cases f p.1 <;> rfl
theorem k_cl1 {f : List PyData → Option PyData} : kCl f (some (xs, B)) = kFin B (f xs) := id rfl
def kFinL (B : Bx) : Option (List PyData) → Option (List PyData × Bx)
  | some z => some (z, B)
  | none => none
def kClL (f : List PyData → Option (List PyData)) : Option (List PyData × Bx) → Option (List PyData × Bx)
  | some (xs, B) => kFinL B (f xs)
  | none => none
theorem k_clL {f : List PyData → Option (List PyData)} : dClL f dl sl B = kClL f (dl sl B) := by
  unfold dClL kClL
  cases dl sl B with
  | none => rfl
  | some p => show (f p.1).map _ = kFinL p.2 (f p.1); cases f p.1 <;> rfl
theorem k_clL1 {f : List PyData → Option (List PyData)} : kClL f (some (xs, B)) = kFinL B (f xs) := id rfl
theorem k_finL : kFinL B (some xs) = some (xs, B) := id rfl
def kIsi (T : String) : OE → OE
  | some (x, B) => some (.bool (isTy T x), B)
  | none => none
theorem k_isi {T : String} : dIsi T da sl B = kIsi T (da sl B) := by
  cases hh : da sl B <;> simp [dIsi, kIsi, hh]
theorem k_isi1 {T : String} : kIsi T (some (x, B)) = some (.bool (isTy T x), B) := id rfl
def kDat : Option (Sv × Bx) → OE
  | some (.dat z, B) => some (z, B)
  | _ => none
def kFn (f : FD) : Option (List Sv × Bx) → OE
  | some (ss, B) => kDat (f ss B)
  | none => none
theorem k_fn {f : FD} : dFn f ds sl B = kFn f (ds sl B) := by
  unfold dFn kFn
  cases ds sl B with
  | none => rfl
  | some p =>
    show (f p.1 p.2).bind _ = kDat (f p.1 p.2)
    cases f p.1 p.2 with
    | none => rfl
    | some q => obtain ⟨v, B1⟩ := q; cases v <;> rfl
theorem k_fn1 {f : FD} : kFn f (some (vs, B)) = kDat (f vs B) := id rfl
theorem k_dat : kDat (some (.dat z, B)) = some (z, B) := id rfl
def kFnV (f : FD) : Option (List Sv × Bx) → Option (Sv × Bx)
  | some (ss, B) => f ss B
  | none => none
theorem k_fnV {f : FD} : dFnV f ds sl B = kFnV f (ds sl B) := by
  cases hh : ds sl B <;> simp [dFnV, kFnV, hh]
theorem k_fnV1 {f : FD} : kFnV f (some (vs, B)) = f vs B := id rfl
def kSeqI : OE → Option (List PyData × Bx)
  | some (.list xs, B) => some (xs, B)
  | some (.tuple xs, B) => some (xs, B)
  | _ => none
theorem k_seqI : dSeq' da sl B = kSeqI (da sl B) := by
  unfold dSeq' kSeqI
  cases da sl B with
  | none => rfl
  | some p => obtain ⟨v, B1⟩ := p; cases v <;> rfl
theorem k_seqI1 : kSeqI (some (.list xs, B)) = some (xs, B) := id rfl
theorem k_seqI2 : kSeqI (some (.tuple xs, B)) = some (xs, B) := id rfl
def kRng1 : OE → Option (List PyData × Bx)
  | some (.int j, B) => if -(2 ^ 62) ≤ j ∧ j < 2 ^ 62 then some (rngD 0 j.toNat, B) else none
  | _ => none
theorem k_rng1 : dRng1 da sl B = kRng1 (da sl B) := by
  unfold dRng1 kRng1
  cases da sl B with
  | none => rfl
  | some p => obtain ⟨v, B1⟩ := p; cases v <;> rfl
theorem k_rng1' {j : Int} (h : -(2 ^ 62) ≤ j ∧ j < 2 ^ 62) : kRng1 (some (.int j, B)) = some (rngD 0 j.toNat, B) := if_pos h
def kRng2 (db : DE) (sl : Sl) : OE → Option (List PyData × Bx)
  | some (x, B) => (db sl B).bind fun q => match x, q.1 with
    | .int i, .int j => if -(2 ^ 62) ≤ i ∧ i < 2 ^ 62 ∧ -(2 ^ 62) ≤ j ∧ j < 2 ^ 62 then some (rngD i (j - i).toNat, q.2) else none
    | _, _ => none
  | none => none
def kRng2' (i : Int) : OE → Option (List PyData × Bx)
  | some (.int j, B) => if -(2 ^ 62) ≤ i ∧ i < 2 ^ 62 ∧ -(2 ^ 62) ≤ j ∧ j < 2 ^ 62 then some (rngD i (j - i).toNat, B) else none
  | _ => none
theorem k_rng2 : dRng2 da db sl B = kRng2 db sl (da sl B) := by
  unfold dRng2
  cases da sl B <;> rfl
theorem k_rng2a {i : Int} : kRng2 db sl (some (.int i, B)) = kRng2' i (db sl B) := by
  cases hh : db sl B with
  | none => simp [kRng2, kRng2', hh]
  | some p => obtain ⟨v, B1⟩ := p; cases v <;> simp [kRng2, kRng2', hh]
theorem k_rng2b {i j : Int} (h : -(2 ^ 62) ≤ i ∧ i < 2 ^ 62 ∧ -(2 ^ 62) ≤ j ∧ j < 2 ^ 62) : kRng2' i (some (.int j, B)) = some (rngD i (j - i).toNat, B) := if_pos h
def kEnum : Option (List PyData × Bx) → Option (List PyData × Bx)
  | some (xs, B) => some (enumD 0 xs, B)
  | none => none
theorem k_enum : dEnum da sl B = kEnum (dSeq' da sl B) := by
  cases hh : dSeq' da sl B <;> simp [dEnum, kEnum, hh]
theorem k_enum1 : kEnum (some (xs, B)) = some (enumD 0 xs, B) := id rfl
def kZip (db : DE) (sl : Sl) : Option (List PyData × Bx) → Option (List PyData × Bx)
  | some (xs, B) => (dSeq' db sl B).map fun q => (zipD xs q.1, q.2)
  | none => none
def kZip2 (xs : List PyData) : Option (List PyData × Bx) → Option (List PyData × Bx)
  | some (ys, B) => some (zipD xs ys, B)
  | none => none
theorem k_zip : dZip da db sl B = kZip db sl (dSeq' da sl B) := by
  cases hh : dSeq' da sl B <;> simp [dZip, kZip, hh]
theorem k_zip1 : kZip db sl (some (xs, B)) = kZip2 xs (dSeq' db sl B) := by
  cases hh : dSeq' db sl B <;> simp [kZip, kZip2, hh]
theorem k_zip2 : kZip2 xs (some (ys, B)) = some (zipD xs ys, B) := id rfl
/-! slices -/
def kP : OE → Option (Option Int × Bx)
  | some (.int i, B) => some (some i, B)
  | _ => none
theorem k_P : dPart da sl B = kP (da sl B) := by
  unfold dPart kP
  cases da sl B with
  | none => rfl
  | some p => obtain ⟨v, B1⟩ := p; cases v <;> rfl
theorem k_P1 {i : Int} : kP (some (.int i, B)) = some (some i, B) := id rfl
theorem k_noP : dNoP sl B = some (none, B) := id rfl
def kSl1 (f : PyData → Option Int → Option Int → Option PyData) (l h : DP) (sl : Sl) : OE → OE
  | some (x, B) => (l sl B).bind fun q => (h sl q.2).bind fun r => (f x q.1 r.1).map fun z => (z, r.2)
  | none => none
def kSl2 (f : PyData → Option Int → Option Int → Option PyData) (x : PyData) (h : DP) (sl : Sl) : Option (Option Int × Bx) → OE
  | some (a, B) => (h sl B).bind fun r => (f x a r.1).map fun z => (z, r.2)
  | none => none
def kSl3 (f : PyData → Option Int → Option Int → Option PyData) (x : PyData) (a : Option Int) : Option (Option Int × Bx) → OE
  | some (c, B) => kFin B (f x a c)
  | none => none
theorem k_sl {f : PyData → Option Int → Option Int → Option PyData} {l h : DP} : dSl f da l h sl B = kSl1 f l h sl (da sl B) := by
  cases hh : da sl B <;> simp [dSl, kSl1, hh]
theorem k_sl1 {f : PyData → Option Int → Option Int → Option PyData} {l h : DP} : kSl1 f l h sl (some (x, B)) = kSl2 f x h sl (l sl B) := by
  cases hh : l sl B <;> simp [kSl1, kSl2, hh]
theorem k_sl2 {f : PyData → Option Int → Option Int → Option PyData} {h : DP} {a : Option Int} : kSl2 f x h sl (some (a, B)) = kSl3 f x a (h sl B) := by
  cases hh : h sl B with
  | none => simp [kSl2, kSl3, hh]
  | some p =>
    simp only [kSl2, kSl3, hh, Option.bind_some]
    cases f x a p.1 <;> rfl
theorem k_sl3 {f : PyData → Option Int → Option Int → Option PyData} {a c : Option Int} : kSl3 f x a (some (c, B)) = kFin B (f x a c) := id rfl
/-! comprehensions -/
def kCmp (tg : DG) (t : DT) (e : DE) (sw : Sl) : Option (List PyData × Bx) → Option (List PyData × Bx)
  | some (xs, B) => if xs.length < sizeLine then cmpGo tg t e sw xs B else none
  | none => none
theorem k_cmp {it : DL} {tg : DG} {t : DT} {e : DE} {ws : List Nat} : dCmp it tg t e ws sl B = kCmp tg t e (wipeD sl ws) (it sl B) := by
  cases hh : it sl B <;> simp [dCmp, kCmp, hh]
theorem k_cmp1 {tg : DG} {t : DT} {e : DE} {sw : Sl} (h : xs.length < sizeLine) : kCmp tg t e sw (some (xs, B)) = cmpGo tg t e sw xs B := if_pos h
theorem k_yes : dYes sl B = some (true, B) := id rfl
/-! statements -/
def kSeq (d2 : DS) : Option Out → Option Out
  | some (.nx s B) => d2 s B
  | o => o
theorem k_seq : dSeq d1 d2 sl B = kSeq d2 (d1 sl B) := by
  unfold dSeq kSeq
  cases d1 sl B with
  | none => rfl
  | some o => cases o <;> rfl
theorem k_seq1 : kSeq d2 (some (.nx sl B)) = d2 sl B := id rfl
theorem k_seq2 : kSeq d2 (some (.rt v B)) = some (.rt v B) := id rfl
theorem k_seq3 : kSeq d2 (some (.bk sl B)) = some (.bk sl B) := id rfl
theorem k_seq4 : kSeq d2 (some (.ct sl B)) = some (.ct sl B) := id rfl
theorem k_next : dNext sl B = some (.nx sl B) := id rfl
theorem k_brk : dBreak sl B = some (.bk sl B) := id rfl
theorem k_cont : dCont sl B = some (.ct sl B) := id rfl
theorem k_retN : dRetN sl B = some (.rt (.dat .none) B) := id rfl
def kAsg (i : Nat) (sl : Sl) : OE → Option Out
  | some (x, B) => some (.nx (sl.set i (some (.dat x))) B)
  | none => none
theorem k_asg {i : Nat} : dAsg i da sl B = kAsg i sl (da sl B) := by
  cases hh : da sl B <;> simp [dAsg, kAsg, hh]
theorem k_asg1 {i : Nat} : kAsg i sl (some (x, B)) = some (.nx (sl.set i (some (.dat x))) B) := id rfl
def kAsgV (i : Nat) (sl : Sl) : Option (Sv × Bx) → Option Out
  | some (.own _, _) => none
  | some (.dic _, _) => none
  | some (x, B) => some (.nx (sl.set i (some x)) B)
  | none => none
theorem k_asgV {i : Nat} : dAsgV i dv sl B = kAsgV i sl (dv sl B) := by
  unfold dAsgV kAsgV
  cases dv sl B with
  | none => rfl
  | some p => obtain ⟨x, B1⟩ := p; cases x <;> rfl
theorem k_asgV1 {i : Nat} : kAsgV i sl (some (.dat x, B)) = some (.nx (sl.set i (some (.dat x))) B) := id rfl
theorem k_asgV2 {i : Nat} : kAsgV i sl (some (.box, B)) = some (.nx (sl.set i (some .box)) B) := id rfl
theorem k_asgV3 {i : Nat} : kAsgV i sl (some (.cells, B)) = some (.nx (sl.set i (some .cells)) B) := id rfl
def kAsgO (i : Nat) (sl : Sl) : Option (List PyData × Bx) → Option Out
  | some (x, B) => some (.nx (sl.set i (some (.own x))) B)
  | none => none
theorem k_asgO {i : Nat} : dAsgO i dl sl B = kAsgO i sl (dl sl B) := by
  cases hh : dl sl B <;> simp [dAsgO, kAsgO, hh]
theorem k_asgO1 {i : Nat} : kAsgO i sl (some (xs, B)) = some (.nx (sl.set i (some (.own xs))) B) := id rfl
def kNx (B : Bx) : Option Sl → Option Out
  | some s => some (.nx s B)
  | none => none
def kAsgG (tg : DG) (sl : Sl) : OE → Option Out
  | some (x, B) => kNx B (tg x sl)
  | none => none
theorem k_asgG {tg : DG} : dAsgG tg da sl B = kAsgG tg sl (da sl B) := by
  unfold dAsgG kAsgG
  cases da sl B with
  | none => rfl
  | some p => show (tg p.1 sl).map _ = kNx p.2 (tg p.1 sl); cases tg p.1 sl <;> rfl
theorem k_asgG1 {tg : DG} : kAsgG tg sl (some (x, B)) = kNx B (tg x sl) := id rfl
theorem k_nx : kNx B (some sl) = some (.nx sl B) := id rfl
theorem k_gN {i : Nat} : gN i x sl = some (sl.set i (some (.dat x))) := id rfl
def kG (ds : DGs) (xs : List PyData) : Option Sl → Option Sl
  | some s => ds xs s
  | none => none
theorem k_gT {ds : DGs} : gT ds (.tuple xs) sl = ds xs sl := id rfl
theorem k_gC {d : DG} {ds : DGs} : gCons' d ds (x :: xs) sl = kG ds xs (d x sl) := by
  unfold kG
  show (d x sl).bind _ = _
  cases d x sl <;> rfl
theorem k_g1 {ds : DGs} : kG ds xs (some sl) = ds xs sl := id rfl
theorem k_g0 : gNil' [] sl = some sl := id rfl
def kPar (i j : Nat) (db : DE) (sl : Sl) : OE → Option Out
  | some (x, B) => (db sl B).map fun q => .nx ((sl.set i (some (.dat x))).set j (some (.dat q.1))) q.2
  | none => none
def kPar2 (i j : Nat) (sl : Sl) (x : PyData) : OE → Option Out
  | some (y, B) => some (.nx ((sl.set i (some (.dat x))).set j (some (.dat y))) B)
  | none => none
theorem k_par {i j : Nat} : dPar i j da db sl B = kPar i j db sl (da sl B) := by
  cases hh : da sl B <;> simp [dPar, kPar, hh]
theorem k_par1 {i j : Nat} : kPar i j db sl (some (x, B)) = kPar2 i j sl x (db sl B) := by
  cases hh : db sl B <;> simp [kPar, kPar2, hh]
theorem k_par2 {i j : Nat} : kPar2 i j sl x (some (y, B)) = some (.nx ((sl.set i (some (.dat x))).set j (some (.dat y))) B) := id rfl
def kDrop (sl : Sl) : OE → Option Out
  | some (_, B) => some (.nx sl B)
  | none => none
theorem k_drop : dDrop da sl B = kDrop sl (da sl B) := by
  cases hh : da sl B <;> simp [dDrop, kDrop, hh]
theorem k_drop1 : kDrop sl (some (x, B)) = some (.nx sl B) := id rfl
def kRet : OE → Option Out
  | some (x, B) => some (.rt (.dat x) B)
  | none => none
theorem k_ret : dRet da sl B = kRet (da sl B) := by
  cases hh : da sl B <;> simp [dRet, kRet, hh]
theorem k_ret1 : kRet (some (x, B)) = some (.rt (.dat x) B) := id rfl
def kRetV : Option (Sv × Bx) → Option Out
  | some (x, B) => some (.rt x B)
  | none => none
theorem k_retV : dRetV dv sl B = kRetV (dv sl B) := by
  cases hh : dv sl B <;> simp [dRetV, kRetV, hh]
theorem k_retV1 : kRetV (some (v, B)) = some (.rt v B) := id rfl
def kIfS (d1 d2 : DS) (sl : Sl) : Option (Bool × Bx) → Option Out
  | some (true, B) => d1 sl B
  | some (false, B) => d2 sl B
  | none => none
theorem k_ifS : dIfS ta d1 d2 sl B = kIfS d1 d2 sl (ta sl B) := by
  unfold dIfS kIfS
  cases ta sl B with
  | none => rfl
  | some p => obtain ⟨x, B1⟩ := p; cases x <;> rfl
theorem k_ifS1 : kIfS d1 d2 sl (some (true, B)) = d1 sl B := id rfl
theorem k_ifS0 : kIfS d1 d2 sl (some (false, B)) = d2 sl B := id rfl
theorem k_ifSD {p : Prop} [Decidable p] : kIfS d1 d2 sl (some (decide p, B)) = if p then d1 sl B else d2 sl B := by
  by_cases h : p
  · rw [decide_eq_true h, if_pos h]; rfl
  · rw [decide_eq_false h, if_neg h]; rfl
theorem k_fz_ap {i : Nat} : dFz i d1 sl B = (match sl[i]? with | some (some (.own xs)) => d1 (sl.set i (some (.dat (.list xs)))) B | _ => d1 sl B) := id rfl
def kApp (j : Nat) (sl : Sl) : OE → Option Out
  | some (x, B) => match sl[j]? with
    | some (some (.own xs)) => if xs.length < sizeLine then some (.nx (sl.set j (some (.own (xs ++ [x])))) B) else none
    | _ => none
  | none => none
theorem k_app {j : Nat} : dApp j da sl B = kApp j sl (da sl B) := by
  unfold dApp kApp
  cases da sl B <;> rfl
theorem k_app1 {j : Nat} : kApp j sl (some (x, B)) = (match sl[j]? with | some (some (.own xs)) => if xs.length < sizeLine then some (.nx (sl.set j (some (.own (xs ++ [x])))) B) else none | _ => none) := id rfl
def kFor (tg : DG) (body : DS) (sl : Sl) : Option (List PyData × Bx) → Option Out
  | some (xs, B) => forGo tg body xs sl B
  | none => none
theorem k_for {it : DL} {tg : DG} {body : DS} : dFor it tg body sl B = kFor tg body sl (it sl B) := by
  cases hh : it sl B <;> simp [dFor, kFor, hh]
theorem k_for1 {tg : DG} {body : DS} : kFor tg body sl (some (xs, B)) = forGo tg body xs sl B := id rfl
def kAug (f : Int → Int → Int) (i : Nat) (sl : Sl) (a : Int) : OE → Option Out
  | some (.int c, B) => some (.nx (sl.set i (some (.dat (.int (f a c))))) B)
  | _ => none
theorem k_aug {f : Int → Int → Int} {i : Nat} {a : Int} (h : sl[i]? = some (some (.dat (.int a)))) : dAug f i da sl B = kAug f i sl a (da sl B) := by
  unfold dAug
  rw [h]
  show (da sl B).bind _ = _
  cases hh : da sl B with
  | none => rfl
  | some p => obtain ⟨x, B1⟩ := p; cases x <;> rfl
theorem k_aug1 {f : Int → Int → Int} {i : Nat} {a c : Int} : kAug f i sl a (some (.int c, B)) = some (.nx (sl.set i (some (.dat (.int (f a c))))) B) := id rfl
def kFun : Option Out → Option (Sv × Bx)
  | some (.rt r B) => some (r, B)
  | some (.nx _ B) => some (.dat .none, B)
  | _ => none
theorem k_fun {n m : Nat} {body : DS} (h : (vs.length = n ∧ vs.all nown = true) = True) : dFun n m body vs B = kFun (body (vs.map some ++ List.replicate m none) B) := by
  unfold dFun kFun
  rw [if_pos (of_eq_true h)]
  cases body (vs.map some ++ List.replicate m none) B with
  | none => rfl
  | some o => cases o <;> rfl
theorem k_fun1 : kFun (some (.rt v B)) = some (v, B) := id rfl
theorem k_fun2 : kFun (some (.nx sl B)) = some (.dat .none, B) := id rfl
/-! index -/
def kIdx (db : DE) (sl : Sl) : OE → OE
  | some (.list xs, B) => (db sl B).bind fun q => (pyIndex xs q.1).map fun z => (z, q.2)
  | _ => none
def kIdx2 (xs : List PyData) : OE → OE
  | some (y, B) => kFin B (pyIndex xs y)
  | none => none
theorem k_idx : dIndex da db sl B = kIdx db sl (da sl B) := by
  unfold dIndex kIdx
  cases da sl B with
  | none => rfl
  | some p =>
    obtain ⟨x, B1⟩ := p
    cases x <;> (cases hh : db sl B1 <;> simp [hh])
theorem k_idx1 : kIdx db sl (some (.list xs, B)) = kIdx2 xs (db sl B) := by
  cases hh : db sl B with
  | none => simp [kIdx, kIdx2, hh]
  | some p =>
    simp only [kIdx, kIdx2, hh, Option.bind_some]
    cases pyIndex xs p.1 <;> rfl
theorem k_idx2 : kIdx2 xs (some (y, B)) = kFin B (pyIndex xs y) := id rfl
/-! the box -/
theorem k_bget_ap {i : Nat} {k : Int} : dBget i k sl B = (match sl[i]? with | some (some .box) => if 1 ≤ k then (B.regs[(k - 1).toNat]?).map fun n => (.int n, B) else none | _ => none) := id rfl
theorem k_bcells_ap {i : Nat} : dBcells i sl B = (match sl[i]? with | some (some .box) => some (.cells, B) | _ => none) := id rfl
def kLenC : Option (Sv × Bx) → OE
  | some (.cells, B) => some (.int (B.cells.length : Int), B)
  | _ => none
theorem k_lenC : dLenC dv sl B = kLenC (dv sl B) := by
  unfold dLenC kLenC
  cases dv sl B with
  | none => rfl
  | some p => obtain ⟨x, B1⟩ := p; cases x <;> rfl
theorem k_lenC1 : kLenC (some (.cells, B)) = some (.int (B.cells.length : Int), B) := id rfl
def kPopC : Option (Sv × Bx) → OE
  | some (.cells, B) => match B.cells with
    | c :: r => some (.int c, { B with cells := r })
    | [] => none
  | _ => none
theorem k_popC : dPopC dv sl B = kPopC (dv sl B) := by
  unfold dPopC kPopC
  cases dv sl B with
  | none => rfl
  | some p => obtain ⟨x, B1⟩ := p; cases x <;> rfl
theorem k_popC1 : kPopC (some (.cells, B)) = (match B.cells with | c :: r => some (.int c, { B with cells := r }) | [] => none) := id rfl
def kBset (i : Nat) (k : Int) (sl : Sl) : OE → Option Out
  | some (.int n, B) => match sl[i]? with
    | some (some .box) => if 1 ≤ k ∧ (k - 1).toNat < B.regs.length then some (.nx sl { B with regs := B.regs.set (k - 1).toNat n }) else none
    | _ => none
  | _ => none
theorem k_bset {i : Nat} {k : Int} : dBset i k da sl B = kBset i k sl (da sl B) := by
  unfold dBset kBset
  cases da sl B with
  | none => rfl
  | some p =>
    obtain ⟨x, B1⟩ := p
    cases x with
    | int n =>
      show (match PyData.int n, sl[i]? with | .int n, some (some .box) => _ | _, _ => none) = (match sl[i]? with | some (some .box) => _ | _ => none)
      cases sl[i]? with
      | none => rfl
      | some w =>
        cases w with
        | none => rfl
        | some u => cases u <;> rfl
    | _ => rfl
theorem k_bset1 {i : Nat} {k n : Int} : kBset i k sl (some (.int n, B)) = (match sl[i]? with | some (some .box) => if 1 ≤ k ∧ (k - 1).toNat < B.regs.length then some (.nx sl { B with regs := B.regs.set (k - 1).toNat n }) else none | _ => none) := id rfl
def kGetC (d : DE) (sl : Sl) : Option (Sv × Bx) → OE
  | some (.cells, B) => (d sl B).bind fun q => match q.1 with
    | .int k => (L2.atI q.2.cells k).map fun n => (.int n, q.2)
    | _ => none
  | _ => none
def kGetC2 : OE → OE
  | some (.int k, B) => (L2.atI B.cells k).map fun n => (.int n, B)
  | _ => none
theorem k_getC : dGetC dv da sl B = kGetC da sl (dv sl B) := by
  unfold dGetC kGetC
  cases dv sl B with
  | none => rfl
  | some p => obtain ⟨x, B1⟩ := p; cases x <;> rfl
theorem k_getC1 : kGetC da sl (some (.cells, B)) = kGetC2 (da sl B) := by
  cases hh : da sl B with
  | none => simp [kGetC, kGetC2, hh]
  | some p => obtain ⟨x, B1⟩ := p; cases x <;> simp [kGetC, kGetC2, hh]
theorem k_getC2 {k : Int} : kGetC2 (some (.int k, B)) = (L2.atI B.cells k).map fun n => (.int n, B) := id rfl
end
/-! equality of plain data -/
theorem sh_int {i : Int} : SeqAt.shaped (.int i) = true := rfl
theorem sh_bool {i : Bool} : SeqAt.shaped (.bool i) = true := rfl
theorem sh_none : SeqAt.shaped .none = true := rfl
theorem eqv_ii {i j : Int} : PyData.eqv (.int i) (.int j) = (i == j) := by unfold PyData.eqv; rfl
theorem eqv_bb {i j : Bool} : PyData.eqv (.bool i) (.bool j) = (i == j) := by unfold PyData.eqv; rfl
theorem eqI {i j : Int} : pyEq (.int i) (.int j) = some (decide (i = j)) := by
  unfold pyEq
  rw [if_pos ⟨sh_int, sh_int⟩, eqv_ii]
  congr 1
theorem neI {i j : Int} : pyNe (.int i) (.int j) = some (decide (i ≠ j)) := by
  unfold pyNe
  rw [if_pos ⟨sh_int, sh_int⟩, eqv_ii]
  congr 1
  by_cases h : i = j
  · subst h; simp
  · simp [h]
theorem addI {i j : Int} : pyAdd (.int i) (.int j) = some (.int (i + j)) := id rfl
theorem subI {i j : Int} : pySub (.int i) (.int j) = some (.int (i - j)) := id rfl
theorem ltI {i j : Int} : pyLt (.int i) (.int j) = some (decide (i < j)) := id rfl
theorem leI {i j : Int} : pyLe (.int i) (.int j) = some (decide (i ≤ j)) := id rfl
theorem gtI {i j : Int} : pyGt (.int i) (.int j) = some (decide (j < i)) := id rfl
theorem geI {i j : Int} : pyGe (.int i) (.int j) = some (decide (j ≤ i)) := id rfl
theorem modI {i j : Int} (h : 0 < j) : pyMod (.int i) (.int j) = some (.int (i % j)) := if_pos h
theorem divI {i j : Int} (h : 0 < j) (h2 : j.natAbs.log2 < 9000) : pyDiv (.int i) (.int j) = some (.int (i / j)) := if_pos ⟨h, h2⟩
theorem mulI {i j : Int} (h : mulOk i j = true) : pyMul (.int i) (.int j) = some (.int (i * j)) := if_pos h
theorem log2_small {n k : Nat} (h : n < 2 ^ k) (hk : 0 < k) : n.log2 < k := by
  by_cases z : n = 0
  · subst z; simpa using hk
  · exact (Nat.log2_lt z).mpr h
theorem mulOk_l {i j : Int} (h1 : -(2 ^ 64) < i) (h2 : i < 2 ^ 64) : mulOk i j = true := by
  unfold mulOk
  rw [decide_eq_true (.inl ⟨h1, h2⟩)]
  rfl
theorem mulOk_r {i j : Int} (h1 : -(2 ^ 64) < j) (h2 : j < 2 ^ 64) : mulOk i j = true := by
  unfold mulOk
  rw [decide_eq_true (.inr ⟨h1, h2⟩)]
  rfl
theorem mulOk_w {i j : Int} {a b : Nat} (h1 : i.natAbs < 2 ^ a) (h2 : j.natAbs < 2 ^ b) (ha : 0 < a) (hb : 0 < b) (h : a + b ≤ 1000000) : mulOk i j = true := by
  unfold mulOk
  have q1 := log2_small h1 ha
  have q2 := log2_small h2 hb
  have : i.natAbs.log2 + j.natAbs.log2 < 1000000 := by omega
  rw [decide_eq_true this, Bool.or_true]
/-! loops -/
theorem forGo_nil {tg : DG} {body : DS} {sl : Sl} {B : Bx} : forGo tg body [] sl B = some (.nx sl B) := rfl
theorem forGo_step {tg : DG} {body : DS} {x : PyData} {xs : List PyData} {sl s1 s2 : Sl} {B B2 : Bx} (h1 : tg x sl = some s1) (h2 : body s1 B = some (.nx s2 B2)) : forGo tg body (x :: xs) sl B = forGo tg body xs s2 B2 := by
  show (tg x sl).bind _ = _
  rw [h1]
  show (body s1 B).bind _ = _
  rw [h2]
  rfl
theorem forGo_stepC {tg : DG} {body : DS} {x : PyData} {xs : List PyData} {sl s1 s2 : Sl} {B B2 : Bx} (h1 : tg x sl = some s1) (h2 : body s1 B = some (.ct s2 B2)) : forGo tg body (x :: xs) sl B = forGo tg body xs s2 B2 := by
  show (tg x sl).bind _ = _
  rw [h1]
  show (body s1 B).bind _ = _
  rw [h2]
  rfl
theorem forGo_brk {tg : DG} {body : DS} {x : PyData} {xs : List PyData} {sl s1 s2 : Sl} {B B2 : Bx} (h1 : tg x sl = some s1) (h2 : body s1 B = some (.bk s2 B2)) : forGo tg body (x :: xs) sl B = some (.nx s2 B2) := by
  show (tg x sl).bind _ = _
  rw [h1]
  show (body s1 B).bind _ = _
  rw [h2]
  rfl
theorem forGo_ret {tg : DG} {body : DS} {x : PyData} {xs : List PyData} {sl s1 : Sl} {r : Sv} {B B2 : Bx} (h1 : tg x sl = some s1) (h2 : body s1 B = some (.rt r B2)) : forGo tg body (x :: xs) sl B = some (.rt r B2) := by
  show (tg x sl).bind _ = _
  rw [h1]
  show (body s1 B).bind _ = _
  rw [h2]
  rfl
/-- a loop by an invariant over (turn, slots, box) -/
theorem forGo_inv {tg : DG} {body : DS} (xs : List PyData) (Pv : Nat → Sl → Bx → Prop) (step : ∀ i x sl B, xs[i]? = some x → Pv i sl B → ∃ s1 s2 B2, tg x sl = some s1 ∧ (body s1 B = some (.nx s2 B2) ∨ body s1 B = some (.ct s2 B2)) ∧ Pv (i + 1) s2 B2) :
    ∀ (k : Nat) (sl : Sl) (B : Bx), k ≤ xs.length → Pv k sl B → ∃ s2 B2, forGo tg body (xs.drop k) sl B = some (.nx s2 B2) ∧ Pv xs.length s2 B2 := by
  intro k
  generalize hm : xs.length - k = m
  induction m generalizing k with
  | zero =>
    intro sl B hk h
    have : k = xs.length := by omega
    subst this
    rw [List.drop_length]
    exact ⟨sl, B, rfl, h⟩
  | succ m ih =>
    intro sl B hk h
    have hlt : k < xs.length := by omega
    rw [List.drop_eq_getElem_cons hlt]
    obtain ⟨s1, s2, B2, h1, h2, h3⟩ := step k _ sl B (List.getElem?_eq_getElem hlt) h
    obtain ⟨s3, B3, h4, h5⟩ := ih (k + 1) (by omega) s2 B2 hlt h3
    refine ⟨s3, B3, ?_, h5⟩
    rcases h2 with h2 | h2
    · rw [forGo_step h1 h2]; exact h4
    · rw [forGo_stepC h1 h2]; exact h4
theorem cmpGo_nil {tg : DG} {t : DT} {e : DE} {sw : Sl} {B : Bx} : cmpGo tg t e sw [] B = some ([], B) := rfl
/-- a comprehension without a state -/
theorem cmpGo_pure {tg : DG} {t : DT} {e : DE} {sw : Sl} {B : Bx} (f : PyData → Bool) (g : PyData → PyData) : ∀ (xs : List PyData), (∀ x ∈ xs, ∃ s2, tg x sw = some s2 ∧ t s2 B = some (f x, B) ∧ (f x = true → e s2 B = some (g x, B))) → cmpGo tg t e sw xs B = some ((xs.filter f).map g, B)
  | [], _ => rfl
  | x :: xs, h => by
    obtain ⟨s2, h1, h2, h3⟩ := h x List.mem_cons_self
    have ih := cmpGo_pure f g xs fun y hy => h y (List.mem_cons_of_mem _ hy)
    unfold cmpGo
    rw [h1]
    show (t s2 B).bind _ = _
    rw [h2]
    show (if f x = true then _ else _) = _
    cases hf : f x with
    | true =>
      rw [if_pos rfl]
      show (e s2 B).bind _ = _
      rw [h3 hf]
      show (cmpGo tg t e sw xs B).map _ = _
      rw [ih, List.filter_cons_of_pos hf]
      rfl
    | false =>
      rw [if_neg Bool.false_ne_true, List.filter_cons_of_neg (by rw [hf]; exact Bool.false_ne_true)]
      exact ih
theorem cmpGo_map {tg : DG} {e : DE} {sw : Sl} {B : Bx} (g : PyData → PyData) (xs : List PyData) (h : ∀ x ∈ xs, ∃ s2, tg x sw = some s2 ∧ e s2 B = some (g x, B)) : cmpGo tg dYes e sw xs B = some (xs.map g, B) := by
  have := cmpGo_pure (tg := tg) (t := dYes) (e := e) (sw := sw) (B := B) (fun _ => true) g xs fun x hx => by
    obtain ⟨s2, h1, h2⟩ := h x hx
    exact ⟨s2, h1, rfl, fun _ => h2⟩
  rw [this, List.filter_eq_self.mpr (fun _ _ => rfl)]
theorem rngD_get {lo : Int} {n i : Nat} {x : PyData} (h : (rngD lo n)[i]? = some x) : i < n ∧ x = .int (lo + (i : Int)) := by
  unfold rngD at h
  rw [List.getElem?_map] at h
  obtain ⟨j, e1, e2⟩ := mpd h
  have hi : i < n := by
    rcases Nat.lt_or_ge i n with z | z
    · exact z
    · rw [List.getElem?_eq_none (by simpa using z)] at e1; cases e1
  rw [List.getElem?_range hi] at e1
  cases e1
  exact ⟨hi, e2.symm⟩
theorem rngD_length (lo : Int) (n : Nat) : (rngD lo n).length = n := by simp [rngD]
theorem rngD_mem {lo : Int} {n : Nat} {x : PyData} (h : x ∈ rngD lo n) : ∃ i, i < n ∧ x = .int (lo + (i : Int)) := by
  obtain ⟨i, hi⟩ := List.getElem?_of_mem h
  exact ⟨i, rngD_get hi⟩
theorem sz {n : Nat} (h : n ≤ 1000000) : n ≤ sizeLine := Nat.le_trans h (by decide)
theorem szlt {n : Nat} (h : n < 1000000) : n < sizeLine := Nat.lt_of_lt_of_le h (by decide)
theorem k_at0 {α : Type} {x : α} {xs : List α} : L2.atI (x :: xs) 0 = some x := L2.atI_nat (j := 0) rfl
theorem k_at1 {α : Type} {x y : α} {xs : List α} : L2.atI (x :: y :: xs) 1 = some y := L2.atI_nat (j := 1) rfl
theorem k_at2 {α : Type} {x y z : α} {xs : List α} : L2.atI (x :: y :: z :: xs) 2 = some z := L2.atI_nat (j := 2) rfl
theorem at_nat {α : Type} {xs : List α} {i : Nat} (h : i < xs.length) : L2.atI xs (i : Int) = some xs[i] := L2.atI_nat (List.getElem?_eq_getElem h)
theorem sz0 : 0 ≤ sizeLine := Nat.zero_le _
theorem sz1 : 1 ≤ sizeLine := sz (by decide)
theorem sz2 : 2 ≤ sizeLine := sz (by decide)
theorem sz3 : 3 ≤ sizeLine := sz (by decide)
theorem sz4 : 4 ≤ sizeLine := sz (by decide)
theorem sz5 : 5 ≤ sizeLine := sz (by decide)
theorem sz6 : 6 ≤ sizeLine := sz (by decide)
theorem rng_ok {n : Nat} (h : n < 1000000) : (-(2 ^ 62) ≤ (n : Int) ∧ (n : Int) < 2 ^ 62) = True := by
  have e : (2 : Int) ^ 62 = 4611686018427387904 := by decide
  rw [e]
  exact eq_true (by omega)
theorem rng_okI {i : Int} (h1 : -1000000 < i) (h : i < 1000000) : (-(2 ^ 62) ≤ i ∧ i < 2 ^ 62) = True := by
  have e : (2 : Int) ^ 62 = 4611686018427387904 := by decide
  rw [e]
  exact eq_true (by omega)
theorem rng_ok2 {i j : Int} (h1 : -1000000 < i) (h : i < 1000000) (h3 : -1000000 < j) (h4 : j < 1000000) : (-(2 ^ 62) ≤ i ∧ i < 2 ^ 62 ∧ -(2 ^ 62) ≤ j ∧ j < 2 ^ 62) = True := by
  have e : (2 : Int) ^ 62 = 4611686018427387904 := by decide
  rw [e]
  exact eq_true (by omega)
/-! the draw box of two numbers -/
section
variable {cs : List Int} {c x y n : Int} {on : Bool} {sl : Sl}
theorem k_bg1 : dBget 0 1 (some .box :: sl) ⟨cs, [x, y], on⟩ = some (.int x, ⟨cs, [x, y], on⟩) := id rfl
theorem k_bg2 : dBget 0 2 (some .box :: sl) ⟨cs, [x, y], on⟩ = some (.int y, ⟨cs, [x, y], on⟩) := id rfl
theorem k_bs1 : kBset 0 1 (some .box :: sl) (some (.int n, ⟨cs, [x, y], on⟩)) = some (.nx (some .box :: sl) ⟨cs, [n, y], on⟩) := id rfl
theorem k_bs2 : kBset 0 2 (some .box :: sl) (some (.int n, ⟨cs, [x, y], on⟩)) = some (.nx (some .box :: sl) ⟨cs, [x, n], on⟩) := id rfl
theorem k_bc : dBcells 0 (some .box :: sl) ⟨cs, [x, y], on⟩ = some (.cells, ⟨cs, [x, y], on⟩) := id rfl
theorem k_pop1 : kPopC (some (.cells, ⟨c :: cs, [x, y], on⟩)) = some (.int c, ⟨cs, [x, y], on⟩) := id rfl
end
/-- a draw box that can be drawn from -/
def BI (B : Bx) : Prop := ∃ cs x y, B = ⟨cs, [x, y], true⟩ ∧ 0 ≤ x ∧ 0 ≤ y
theorem eqI_self {i : Int} : pyEq (.int i) (.int i) = some true := by rw [eqI]; simp
end Dn

set_option Elab.async false
set_option linter.all false
set_option autoImplicit false
set_option maxRecDepth 100000
set_option maxHeartbeats 2000000
namespace Dn
open PySem PySem.Spec PyProof.Rows L2

/-! ### in, not in: lists and tuples -/
def itemsD : PyData → Option (List PyData)
  | .list xs => some xs
  | .tuple xs => some xs
  | _ => none
def rInA (K : Frg) : R2 := fun x y H Q => ∃ d c ds, Dp K H x d ∧ Dp K H y c ∧ (c = .list ds ∨ c = .tuple ds) ∧ SeqAt.shaped d = true ∧ SeqAt.shaped (.list ds) = true ∧ Q (.bl (ds.any fun z => PyData.eqv z d)) H
def rNotInA (K : Frg) : R2 := fun x y H Q => ∃ d c ds, Dp K H x d ∧ Dp K H y c ∧ (c = .list ds ∨ c = .tuple ds) ∧ SeqAt.shaped d = true ∧ SeqAt.shaped (.list ds) = true ∧ Q (.bl (!ds.any fun z => PyData.eqv z d)) H
theorem op_inA {X : Cx} (hu : X.A.units + 65 < cLine) : OpR X (compareOp .In) (rInA X.K) := by
  intro pins s σ H x y v u Q I rx ry h
  obtain ⟨d, c, ds, hd, he, hc, sd, se, q⟩ := h
  obtain ⟨as, r1⟩ := Dp.reads I d x v hd rx
  obtain ⟨bs, r2⟩ := Dp.reads I c y u he ry
  rcases hc with rfl | rfl
  · exact SeqAt.in_list_reads r2 r1 (SeqAt.canLay_of_shaped se) (SeqAt.canLay_of_shaped sd) (room_in_shaped sd hu) ⟨.bl _, H, I, rfl, q⟩
  · exact SeqAt.in_tuple_reads r2 r1 (SeqAt.canLay_of_shaped se) (SeqAt.canLay_of_shaped sd) (room_in_shaped sd hu) ⟨.bl _, H, I, rfl, q⟩
theorem op_notInA {X : Cx} (hu : X.A.units + 65 < cLine) : OpR X (compareOp .NotIn) (rNotInA X.K) := by
  intro pins s σ H x y v u Q I rx ry h
  obtain ⟨d, c, ds, hd, he, hc, sd, se, q⟩ := h
  obtain ⟨as, r1⟩ := Dp.reads I d x v hd rx
  obtain ⟨bs, r2⟩ := Dp.reads I c y u he ry
  rcases hc with rfl | rfl
  · exact SeqAt.notIn_list_reads r2 r1 (SeqAt.canLay_of_shaped se) (SeqAt.canLay_of_shaped sd) (room_in_shaped sd hu) ⟨.bl _, H, I, rfl, q⟩
  · exact SeqAt.notIn_tuple_reads r2 r1 (SeqAt.canLay_of_shaped se) (SeqAt.canLay_of_shaped sd) (room_in_shaped sd hu) ⟨.bl _, H, I, rfl, q⟩
def pyIn (x y : PyData) : Option Bool := (itemsD y).bind fun ds => if SeqAt.shaped x = true ∧ SeqAt.shaped (.list ds) = true then some (ds.any fun z => PyData.eqv z x) else none
def pyNotIn (x y : PyData) : Option Bool := (pyIn x y).map fun b => !b
theorem itemsD_is {c : PyData} {ds : List PyData} (h : itemsD c = some ds) : c = .list ds ∨ c = .tuple ds := by
  cases c <;> cases h
  · exact .inl rfl
  · exact .inr rfl
theorem r_in {K : Frg} : RTs K (rInA K) pyIn := fun x y z e F H b v u Q fr qx qy k => by
  obtain ⟨ds, e1, e⟩ := bnd e
  split at e
  · rename_i h
    cases e
    exact ⟨x, y, ds, qx.dp fr, qy.dp fr, itemsD_is e1, h.1, h.2, k⟩
  · cases e
theorem r_notin {K : Frg} : RTs K (rNotInA K) pyNotIn := fun x y z e F H b v u Q fr qx qy k => by
  obtain ⟨t, e0, e⟩ := mpd e
  obtain ⟨ds, e1, e2⟩ := bnd e0
  split at e2
  · rename_i h
    cases e2
    cases e
    exact ⟨x, y, ds, qx.dp fr, qy.dp fr, itemsD_is e1, h.1, h.2, k⟩
  · cases e2

/-! ### the order of data -/
def cmpOk (x y : PyData) : Bool := PySem.W.alike x y && decide (x.depth ≤ 60) && !isNon x
theorem cmpOk_is {x y : PyData} (h : cmpOk x y = true) : PySem.W.alike x y = true ∧ x ≠ .none ∧ x.depth ≤ 60 := by
  unfold cmpOk at h
  rw [Bool.and_eq_true, Bool.and_eq_true, decide_eq_true_eq] at h
  refine ⟨h.1.1, fun e => ?_, h.1.2⟩
  rw [e] at h
  exact absurd h.2 (by decide)
def rOrd (K : Frg) (g : PyData → PyData → Bool) : R2 := fun x y H Q => ∃ d e, Dp K H x d ∧ Dp K H y e ∧ cmpOk d e = true ∧ Q (.bl (g d e)) H
theorem roomD {A : Around} {d e : PyData} (hu : A.units + 65 < cLine) (h : d.depth ≤ 60) : A.units + min d.depth e.depth < cLine := by
  have := Nat.min_le_left d.depth e.depth
  omega
theorem op_ltD {X : Cx} (hu : X.A.units + 65 < cLine) : OpR X (compareOp .Lt) (rOrd X.K fun d e => PySem.W.dataLt d e) := by
  intro pins s σ H x y v u Q I rx ry h
  obtain ⟨d, c, hd, he, hc, q⟩ := h
  obtain ⟨as, r1⟩ := Dp.reads I d x v hd rx
  obtain ⟨bs, r2⟩ := Dp.reads I c y u he ry
  obtain ⟨h1, h2, h3⟩ := cmpOk_is hc
  exact PySem.W.lt_data r1 r2 h1 h2 (roomD hu h3) ⟨.bl _, H, I, rfl, q⟩
theorem op_gtD {X : Cx} (hu : X.A.units + 65 < cLine) : OpR X (compareOp .Gt) (rOrd X.K fun d e => PySem.W.dataLt e d) := by
  intro pins s σ H x y v u Q I rx ry h
  obtain ⟨d, c, hd, he, hc, q⟩ := h
  obtain ⟨as, r1⟩ := Dp.reads I d x v hd rx
  obtain ⟨bs, r2⟩ := Dp.reads I c y u he ry
  obtain ⟨h1, h2, h3⟩ := cmpOk_is hc
  exact PySem.W.gt_data r1 r2 h1 h2 (roomD hu h3) ⟨.bl _, H, I, rfl, q⟩
theorem op_leD {X : Cx} (hu : X.A.units + 65 < cLine) : OpR X (compareOp .LtE) (rOrd X.K fun d e => !PySem.W.dataLt e d) := by
  intro pins s σ H x y v u Q I rx ry h
  obtain ⟨d, c, hd, he, hc, q⟩ := h
  obtain ⟨as, r1⟩ := Dp.reads I d x v hd rx
  obtain ⟨bs, r2⟩ := Dp.reads I c y u he ry
  obtain ⟨h1, h2, h3⟩ := cmpOk_is hc
  exact PySem.W.le_data r1 r2 h1 h2 (roomD hu h3) ⟨.bl _, H, I, rfl, q⟩
theorem op_geD {X : Cx} (hu : X.A.units + 65 < cLine) : OpR X (compareOp .GtE) (rOrd X.K fun d e => !PySem.W.dataLt d e) := by
  intro pins s σ H x y v u Q I rx ry h
  obtain ⟨d, c, hd, he, hc, q⟩ := h
  obtain ⟨as, r1⟩ := Dp.reads I d x v hd rx
  obtain ⟨bs, r2⟩ := Dp.reads I c y u he ry
  obtain ⟨h1, h2, h3⟩ := cmpOk_is hc
  exact PySem.W.ge_data r1 r2 h1 h2 (roomD hu h3) ⟨.bl _, H, I, rfl, q⟩
def pyOrd (g : PyData → PyData → Bool) (x y : PyData) : Option Bool := if cmpOk x y = true then some (g x y) else none
def pyLtD := pyOrd fun d e => PySem.W.dataLt d e
def pyGtD := pyOrd fun d e => PySem.W.dataLt e d
def pyLeD := pyOrd fun d e => !PySem.W.dataLt e d
def pyGeD := pyOrd fun d e => !PySem.W.dataLt d e
theorem r_ord {K : Frg} {g : PyData → PyData → Bool} : RTs K (rOrd K g) (pyOrd g) := fun x y z e F H b v u Q fr qx qy k => by
  unfold pyOrd at e
  split at e
  · rename_i h
    cases e
    exact ⟨x, y, qx.dp fr, qy.dp fr, h, k⟩
  · cases e

/-! ### a op b op' c -/
def dChn (f g : PyData → PyData → Option Bool) (da db dc : DE) : DT := fun sl B => (da sl B).bind fun p => (db sl p.2).bind fun q => (f p.1 q.1).bind fun t => if t = true then (dc sl q.2).bind fun r => (g q.1 r.1).map fun z => (z, r.2) else some (false, q.2)
def dChnB (f g : PyData → PyData → Option Bool) (da db dc : DE) : DE := fun sl B => (dChn f g da db dc sl B).map fun p => (.bool p.1, p.2)
section
variable {X : Cx} {C : Fx} {a b c : Expr} {da db dc : DE} {pos : Pos}
theorem chn_imp {r r' : R2} {f g : PyData → PyData → Option Bool} (hr : RTs X.K r f) (hr' : RTs X.K r' g) {sl : Sl} {B : Bx} {F H : Hp} {bb : Bad} {σ : L2.St} {t : Bool} {B' : Bx} {Q : VK} (R : Rel X.K C sl B F bb σ H) (e : dChn f g da db dc sl B = some (t, B'))
    (k : ∀ H' F' b', Rel X.K C sl B' F' b' σ H' → Stp F bb H F' b' H' → Q (.bl t) H') : tChain r r' (liftO X.K C da) (liftO X.K C db) (liftO X.K C dc) σ H Q := by
  obtain ⟨⟨x, B1⟩, e1, e⟩ := bnd e
  obtain ⟨⟨y, B2⟩, e2, e⟩ := bnd e
  obtain ⟨z, e3, e⟩ := bnd e
  refine two_o R e1 e2 fun v u H' F' b' R' S' qx qy => ?_
  refine hr x y _ e3 F' H' b' v u _ R'.fro qx qy ⟨z, rfl, ?_⟩
  cases z with
  | false =>
    cases e
    exact iteF (k H' F' b' R' S')
  | true =>
    obtain ⟨⟨w, B3⟩, e4, e⟩ := bnd e
    obtain ⟨t', e5, e⟩ := mpd e
    cases e
    exact iteT ⟨sl, B2, F', b', w, B3, R', e4, fun w' H2 F2 b2 R2 S2 q2 => hr' y w _ e5 F2 H2 b2 u w' Q R2.fro (qy.mono S2) q2 (k H2 F2 b2 R2 (S'.trans S2))⟩
theorem e_chn {op op' : CmpOp} {r r' : R2} {f g : PyData → PyData → Option Bool} (ho : OpR X (compareOp op) r) (hr : RTs X.K r f) (ho' : OpR X (compareOp op') r') (hr' : RTs X.K r' g) (ha : PE X a (liftO X.K C da)) (hb : PE X b (liftO X.K C db)) (hc : PE X c (liftO X.K C dc))
    (hm : lastMarks [op, op'] [b, c] = false := by with_unfolding_all rfl) : PE X (.Compare a [op, op'] [b, c] pos) (liftE X.K C (dChnB f g da db dc)) :=
  imp_e (fun σ H Q ⟨sl, B, F, bb, rr, B', R, e, k⟩ => by
    obtain ⟨⟨t, B1⟩, e1, e⟩ := mpd e
    cases e
    exact chn_imp hr hr' R e1 fun H' F' b' R' S' => k _ H' F' b' R' S' (.bl _)) (pe_chain ho ho' ha hb hc hm)
theorem t_chn {op op' : CmpOp} {r r' : R2} {f g : PyData → PyData → Option Bool} (ho : OpR X (compareOp op) r) (hr : RTs X.K r f) (ho' : OpR X (compareOp op') r') (hr' : RTs X.K r' g) (ha : PE X a (liftO X.K C da)) (hb : PE X b (liftO X.K C db)) (hc : PE X c (liftO X.K C dc))
    (hm : lastMarks [op, op'] [b, c] = false := by with_unfolding_all rfl) : PT X (.Compare a [op, op'] [b, c] pos) (liftT X.K C (dChn f g da db dc)) :=
  imp_t (fun σ H Q ⟨sl, B, F, bb, rr, B', R, e, k⟩ => chn_imp hr hr' R e fun H' F' b' R' S' => ⟨rr, rfl, k H' F' b' R' S'⟩) (pt_chain ho ho' ha hb hc hm)
end
end Dn

set_option Elab.async false
set_option linter.all false
set_option autoImplicit false
set_option maxRecDepth 100000
set_option maxHeartbeats 2000000
namespace Dn
open PySem PySem.Spec PyProof.Rows L2

/-! ### max, min of ints -/
theorem alike_ints (ns : List Int) : PySem.W.AlikeAll (ns.map PyData.int) := by
  refine ⟨fun x hx y hy => ?_, fun x hx e => ?_⟩
  · obtain ⟨i, _, rfl⟩ := List.mem_map.mp hx
    obtain ⟨j, _, rfl⟩ := List.mem_map.mp hy
    simp [PySem.W.alike]
  · obtain ⟨i, _, rfl⟩ := List.mem_map.mp hx
    cases e
theorem depth_ints : ∀ ns : List Int, PyData.depthAll (ns.map PyData.int) = 0
  | [] => rfl
  | n :: ns => by
    show max (PyData.depth (.int n)) (PyData.depthAll (ns.map PyData.int)) = 0
    rw [depth_ints ns]; rfl
theorem dp_ints {K : Frg} {H : Hp} : ∀ ns : List Int, DpAll K H (ns.map V.int) (ns.map PyData.int)
  | [] => .nil
  | n :: ns => .cons (.int n) (dp_ints ns)
def rM1 (K : Frg) (g : Int → List Int → Int) : List V → Hp → VK → Prop := fun vs H Q => ∃ (a : Addr) (n : Int) (ns : List Int), vs = [V.ref a] ∧ (SqL K H a ((n :: ns).map V.int) ∨ SqT K H a ((n :: ns).map V.int)) ∧ Q (.int (g n ns)) H
theorem cr_max1 {X : Cx} (hc : X.calm = true) (hu : X.A.units + 65 < cLine) : CallR X (.builtin "max") (rM1 X.K fun n ns => ns.foldl max n) := by
  intro pins s σ H vs us Q I r h
  obtain ⟨a, n, ns, rfl, hs, q⟩ := h
  have hz : X.A.units + 1 + PyData.depthAll (PyData.int n :: ns.map PyData.int) < cLine := by
    rw [show PyData.int n :: ns.map PyData.int = (n :: ns).map PyData.int from rfl, depth_ints]; omega
  rcases hs with hs | hs
  · obtain ⟨its, rv, hl, _⟩ := I.list hs
    rw [Vals.ref1 r]
    obtain ⟨as, ra⟩ := Dp.readsAll I _ _ _ (dp_ints (K := X.K) (H := H) (n :: ns)) rv
    refine PySem.W.max_list_data (I.ok.hd hc) hl.isList (by simpa using ra) (alike_ints (n :: ns)) hz fun i v h' tk bs _ rd hk => ?_
    rw [PySem.W.maxD_ints] at rd
    cases rd
    exact ⟨.int _, H, I.kept hk, ⟨_, rfl⟩, q⟩
  · obtain ⟨its, rv, hl, _⟩ := I.tuple hs
    rw [Vals.ref1 r]
    obtain ⟨as, ra⟩ := Dp.readsAll I _ _ _ (dp_ints (K := X.K) (H := H) (n :: ns)) rv
    refine PySem.W.max_tuple_data (I.ok.hd hc) (show s.heap.IsTuple a its.toArray from hl) (by simpa using ra) (alike_ints (n :: ns)) hz fun i v h' tk bs _ rd hk => ?_
    rw [PySem.W.maxD_ints] at rd
    cases rd
    exact ⟨.int _, H, I.kept hk, ⟨_, rfl⟩, q⟩
theorem cr_min1 {X : Cx} (hc : X.calm = true) (hu : X.A.units + 65 < cLine) : CallR X (.builtin "min") (rM1 X.K fun n ns => ns.foldl min n) := by
  intro pins s σ H vs us Q I r h
  obtain ⟨a, n, ns, rfl, hs, q⟩ := h
  have hz : X.A.units + 1 + PyData.depthAll (PyData.int n :: ns.map PyData.int) < cLine := by
    rw [show PyData.int n :: ns.map PyData.int = (n :: ns).map PyData.int from rfl, depth_ints]; omega
  rcases hs with hs | hs
  · obtain ⟨its, rv, hl, _⟩ := I.list hs
    rw [Vals.ref1 r]
    obtain ⟨as, ra⟩ := Dp.readsAll I _ _ _ (dp_ints (K := X.K) (H := H) (n :: ns)) rv
    refine PySem.W.min_list_data (I.ok.hd hc) hl.isList (by simpa using ra) (alike_ints (n :: ns)) hz fun i v h' tk bs _ rd hk => ?_
    rw [PySem.W.minD_ints] at rd
    cases rd
    exact ⟨.int _, H, I.kept hk, ⟨_, rfl⟩, q⟩
  · obtain ⟨its, rv, hl, _⟩ := I.tuple hs
    rw [Vals.ref1 r]
    obtain ⟨as, ra⟩ := Dp.readsAll I _ _ _ (dp_ints (K := X.K) (H := H) (n :: ns)) rv
    refine PySem.W.min_tuple_data (I.ok.hd hc) (show s.heap.IsTuple a its.toArray from hl) (by simpa using ra) (alike_ints (n :: ns)) hz fun i v h' tk bs _ rd hk => ?_
    rw [PySem.W.minD_ints] at rd
    cases rd
    exact ⟨.int _, H, I.kept hk, ⟨_, rfl⟩, q⟩
def pyM1 (g : Int → List Int → Int) : List PyData → Option PyData
  | [.list xs] => (intsOf xs).bind fun ns => match ns with
    | n :: r => some (.int (g n r))
    | [] => none
  | [.tuple xs] => (intsOf xs).bind fun ns => match ns with
    | n :: r => some (.int (g n r))
    | [] => none
  | _ => none
def pyMax1 := pyM1 fun n ns => ns.foldl max n
def pyMin1 := pyM1 fun n ns => ns.foldl min n
theorem r_m1 {X : Cx} {g : Int → List Int → Int} : RCl X.K (rM1 X.K g) (pyM1 g) := fun ds z e F H b vs Q fr q k => by
  unfold pyM1 at e
  split at e
  · obtain ⟨ns, e1, e⟩ := bnd e
    split at e
    · cases e
      have e1 := intsOf_eq e1
      subst e1
      obtain ⟨v, rfl, p, us, rfl, h1, _, h2⟩ := tops1 q
      have e2 := h2.ints
      subst e2
      exact ⟨p, _, _, rfl, .inl (SqL.of h1), k _ _ _ .refl (.int _)⟩
    · cases e
  · obtain ⟨ns, e1, e⟩ := bnd e
    split at e
    · cases e
      have e1 := intsOf_eq e1
      subst e1
      obtain ⟨v, rfl, h⟩ := tops1 q
      obtain ⟨p, us, rfl, h1, h2⟩ := top_tup fr h
      have e2 := h2.ints
      subst e2
      exact ⟨p, _, _, rfl, .inr h1, k _ _ _ .refl (.int _)⟩
    · cases e
  · cases e
end Dn

set_option Elab.async false
set_option linter.all false
set_option autoImplicit false
set_option maxRecDepth 100000
set_option maxHeartbeats 2000000
namespace Dn
open PySem PySem.Spec PyProof.Rows L2

/-! ### sorted(xs), alike data -/
def sortD (ds : List PyData) : List PyData := ds.mergeSort (PySem.W.dataLe false id)
def sortOk (ds : List PyData) : Bool := (ds.all fun d => ds.all fun e => PySem.W.alike d e) && (ds.all fun d => decide (d.depth ≤ 60)) &&
  ((ds.all fun d => match d with | .tuple (_ :: _) => true | _ => false) || (ds.all fun d => match d with | .tuple _ => false | .none => false | _ => true))
theorem sortOk_is {ds : List PyData} (h : sortOk ds = true) : PySem.W.AllAlike ds ∧ PySem.W.Sortable ds ∧ ∀ d ∈ ds, d.depth ≤ 60 := by
  unfold sortOk at h
  rw [Bool.and_eq_true, Bool.and_eq_true, Bool.or_eq_true, List.all_eq_true, List.all_eq_true, List.all_eq_true, List.all_eq_true] at h
  obtain ⟨⟨h1, h2⟩, h3⟩ := h
  refine ⟨fun d hd e he => List.all_eq_true.mp (h1 d hd) e he, ?_, fun d hd => of_decide_eq_true (h2 d hd)⟩
  rcases h3 with h3 | h3
  · refine .inl fun d hd => ?_
    have := h3 d hd
    split at this
    · exact ⟨_, _, rfl⟩
    · cases this
  · refine .inr fun d hd => ?_
    have := h3 d hd
    split at this
    · cases this
    · cases this
    · rename_i n1 n2
      exact ⟨n2, n1⟩
def rSortD (K : Frg) : List V → Hp → VK → Prop := fun vs H Q => ∃ (a : Addr) (xs : List V) (ds : List PyData), vs = [V.ref a] ∧ SqL K H a xs ∧ DpAll K H xs ds ∧ sortOk ds = true ∧
  ∀ (ys : List (V × PyData)) (p : Addr), ys.Perm (xs.zip ds) → ys.map Prod.snd = sortD ds → H p = none → Q (.ref p) (upd H p (.lst (ys.map Prod.fst)))
theorem dpAll_len {K : Frg} {H : Hp} : ∀ {xs : List V} {ds : List PyData}, DpAll K H xs ds → xs.length = ds.length
  | _, _, .nil => rfl
  | _, _, .cons _ t => congrArg Nat.succ (dpAll_len t)
theorem each_zip : ∀ {xs : List V} {us : List Value} {ds : List PyData}, xs.length = ds.length → Vals xs us → PySem.W.EachIs (fun (u : Value) (b : V × PyData) => RelV b.1 u) us (xs.zip ds)
  | [], _, _, _, .nil => .nil
  | x :: xs, _, d :: ds, h, .cons r t => .cons r (each_zip (Nat.succ.inj h) t)
  | _ :: _, _, [], h, .cons _ _ => by cases h
theorem each_rds {h : Heap} : ∀ {xs : List V} {us : List Value} {ds : List PyData} {as : List Addr}, xs.length = ds.length → Vals xs us → ReadsAll h us ds as → PySem.W.EachIs (fun (u : Value) (b : V × PyData) => ∃ as, Reads h u b.2 as) us (xs.zip ds)
  | [], _, _, _, _, .nil, .nil => .nil
  | x :: xs, _, d :: ds, _, hl, .cons r t, .cons r1 r2 => .cons ⟨_, r1⟩ (each_rds (Nat.succ.inj hl) t r2)
theorem each_vals : ∀ {us : List Value} {bs : List (V × PyData)}, PySem.W.EachIs (fun (u : Value) (b : V × PyData) => RelV b.1 u) us bs → Vals (bs.map Prod.fst) us
  | _, _, .nil => .nil
  | _, _, .cons r t => .cons r (each_vals t)
theorem zip_snd : ∀ {xs : List V} {ds : List PyData}, xs.length = ds.length → (xs.zip ds).map Prod.snd = ds
  | [], [], _ => rfl
  | x :: xs, d :: ds, h => congrArg (d :: ·) (zip_snd (Nat.succ.inj h))
theorem cr_sortD {X : Cx} (hu : X.A.units + 65 < cLine) : CallR X (.builtin "sorted") (rSortD X.K) := by
  intro pins s σ H vs us Q I r h
  obtain ⟨a, xs, ds, rfl, hs, hd, hk, q⟩ := h
  obtain ⟨its, rv, hl, hz⟩ := I.list hs
  rw [Vals.ref1 r]
  obtain ⟨as, ra⟩ := Dp.readsAll I _ _ _ hd rv
  obtain ⟨h1, h2, h3⟩ := sortOk_is hk
  have el := dpAll_len hd
  have ez := zip_snd el
  refine PySem.W.sorted_data (enc := Prod.snd) (bs := xs.zip ds) hl.isList (each_zip el rv) (each_rds el rv ra) (by rw [ez]; exact h1) (by rw [ez]; exact h2) (by rw [List.length_zip, el, Nat.min_self, ← el]; exact hz) (fun b hb => by
    have := h3 b.2 (List.of_mem_zip hb).2
    omega) fun out ho hr => ?_
  obtain ⟨ep, he'⟩ := PyProof.Rows.sortedAll_at s.heap its out.toArray
  have hp : (List.mergeSort (xs.zip ds) (PySem.W.dataLe false Prod.snd)).Perm (xs.zip ds) := List.mergeSort_perm _ _
  have hlen : ((List.mergeSort (xs.zip ds) (PySem.W.dataLe false Prod.snd)).map Prod.fst).length ≤ sizeLine := by
    rw [List.length_map, hp.length_eq, List.length_zip, el, Nat.min_self, ← el]; exact hz
  refine ⟨.ref _, upd H (s.heap.objs.size + 1) (.lst _), I.laid (t' := s.toks) (fun _ _ => PyProof.Rows.sortedAll_old) (Nat.le_succ _) ⟨hlen, _, ep, each_vals hr, he'⟩, rfl, q _ _ hp ?_ (I.hok.fresh (Nat.le_succ _))⟩
  unfold sortD
  have e := List.map_mergeSort (r := PySem.W.dataLe false Prod.snd) (s := PySem.W.dataLe false id) (f := Prod.snd) (l := xs.zip ds) fun _ _ _ _ => rfl
  rw [e, ez]
theorem rps_zip {K : Frg} {F : Hp} : ∀ {xs : List V} {ds : List PyData}, Rps K F xs ds → ∀ b ∈ xs.zip ds, Rp K F b.1 b.2
  | _, _, .nil, b, h => absurd h List.not_mem_nil
  | _, _, .cons r t, b, h => by
    rcases List.mem_cons.mp h with e | e
    · rw [e]; exact r
    · exact rps_zip t b e
theorem rps_of {K : Frg} {F : Hp} : ∀ (ys : List (V × PyData)), (∀ b ∈ ys, Rp K F b.1 b.2) → Rps K F (ys.map Prod.fst) (ys.map Prod.snd)
  | [], _ => .nil
  | y :: ys, h => .cons (h y List.mem_cons_self) (rps_of ys fun b hb => h b (List.mem_cons_of_mem _ hb))
def pySorted : List PyData → Option (List PyData)
  | [.list xs] => if sortOk xs = true then some (sortD xs) else none
  | _ => none
theorem r_sortD {X : Cx} : RClL X.K (rSortD X.K) pySorted := fun ds z e F H b vs Q fr q k => by
  unfold pySorted at e
  split at e
  · split at e
    · rename_i hk
      cases e
      obtain ⟨v, rfl, p, us, rfl, h1, _, h2⟩ := tops1 q
      refine ⟨p, us, _, rfl, SqL.of h1, (Rps.mono fr h2).dp, hk, fun ys p' hp hs hn => ?_⟩
      have := rps_of (K := X.K) (F := F) ys fun b hb => rps_zip h2 b (hp.subset hb)
      rw [hs] at this
      exact k p' _ hn this
    · cases e
  · cases e
end Dn

set_option Elab.async false
set_option linter.all false
set_option autoImplicit false
set_option maxRecDepth 100000
set_option maxHeartbeats 2000000

/-! ### t[::-1] -/
namespace HT
open PySem PySem.Spec PyProof.Rows L2
section
variable {prog : Program} {w : World} {A : Around} {E : Value → Shared → Prop} {s : Shared}
theorem sliceApplied_rev {sl : Addr} {vs : Value} {n : Nat} {Q : Int × Int × Nat → Shared → Prop} (hs : s.heap.IsSliceOf sl .none .none vs) (ps : IsPart vs (some (-1)))
    (h : Q ((n : Int) - 1, -1, n) s) : wpAny (model prog w) A (Builtin.Slice.sliceApplied (.ref sl) (pure (n : Int))) Q E s := by
  obtain ⟨os, hos, hcs, hds⟩ := id hs
  unfold Builtin.Slice.sliceApplied Builtin.Slice.sliceFields
  refine wpAny_bind (wpAny_bind (wpAny_field hos hds (x := .none) rfl (wpAny_bind (wpAny_field hos hds (x := .none) rfl (wpAny_bind (wpAny_field hos hds (x := vs) rfl (wpAny_pure ?_)))))))
  refine wpAny_bind (slicePart_ ps ?_)
  show wpAny _ _ (if ((-1 : Int) == 0) = true then _ else _) _ _ s
  rw [if_neg (by decide)]
  refine wpAny_bind (slicePart_none (wpAny_bind (slicePart_none (wpAny_bind (wpAny_pure ?_)))))
  have e : Builtin.Slice.slicePlaces ((n : Int) - 1) (-1) (-1) = n := by
    unfold Builtin.Slice.slicePlaces
    rw [if_neg (by decide)]
    split
    · rw [show -(-1 : Int) = 1 from rfl, Int.ediv_one]; omega
    · omega
  show wpAny _ _ (pure ((n : Int) - 1, (-1 : Int), Builtin.Slice.slicePlaces ((n : Int) - 1) (-1) (-1))) _ _ s
  rw [e]
  exact wpAny_pure h
theorem fm_congr {α β : Type} {f g : α → Option β} : ∀ {l : List α}, (∀ x ∈ l, f x = g x) → l.filterMap f = l.filterMap g
  | [], _ => rfl
  | x :: l, h => by
    rw [List.filterMap_cons, List.filterMap_cons, h x List.mem_cons_self, fm_congr fun y hy => h y (List.mem_cons_of_mem _ hy)]
theorem pick_rev (xs : Array Value) : ((List.range xs.size).filterMap fun (m : Nat) => xs[((xs.size : Int) - 1 + (m : Int) * (-1)).toNat]?).toArray = xs.toList.reverse.toArray := by
  congr 1
  refine List.ext_getElem? fun i => ?_
  have hh : ∀ m, m < xs.size → xs[((xs.size : Int) - 1 + (m : Int) * (-1)).toNat]? = some (xs.toList.reverse.getD m .none) := fun m hm => by
    rw [show ((xs.size : Int) - 1 + (m : Int) * (-1)).toNat = xs.size - 1 - m by omega, List.getD_eq_getElem?_getD, List.getElem?_reverse (by simpa using hm), Array.length_toList, Array.getElem?_toList]
    rw [Array.getElem?_eq_getElem (by omega)]
    rfl
  have e : (List.range xs.size).filterMap (fun (m : Nat) => xs[((xs.size : Int) - 1 + (m : Int) * (-1)).toNat]?) = (List.range xs.size).map fun m => xs.toList.reverse.getD m .none := by
    rw [← List.filterMap_eq_map']
    exact fm_congr fun m hm => by rw [hh m (List.mem_range.mp hm)]
  rw [e, List.getElem?_map]
  rcases Nat.lt_or_ge i xs.size with z | z
  · rw [List.getElem?_range z, Option.map_some, List.getD_eq_getElem?_getD, List.getElem?_eq_getElem (by simpa using z)]
    rfl
  · rw [List.getElem?_eq_none (by simpa using z), List.getElem?_eq_none (by simpa using z), Option.map_none]
theorem getItem_tuple_rev {t sl : Addr} {items : Array Value} {vs : Value} {Q : Value → Shared → Prop} (ht : IsTup s.heap t items) (hs : s.heap.IsSliceOf sl .none .none vs) (ps : IsPart vs (some (-1)))
    (h : Q (.ref s.heap.objs.size) { s with heap := s.heap.push { cls := .type "tuple", data := .seq items.toList.reverse.toArray } })
    (hsz : items.size ≤ sizeLine) : wpAny (model prog w) A (getItem (.ref t) (.ref sl)) Q E s := by
  have htake : sizeOk (.seq items.toList.reverse.toArray) := by
    show items.toList.reverse.toArray.size ≤ sizeLine
    rw [List.size_toArray, List.length_reverse, Array.length_toList]
    exact hsz
  obtain ⟨os, hos, hcs, hds⟩ := id hs
  have hTs : s.TypeIs (.ref sl) "slice" := ⟨os, hos, hcs⟩
  unfold getItem
  try with_reducible refine wpAny_holding ?_
  first | refine wpAny_bind (wpAny_pure ?_) | skip
  refine wpAny_bind (wpAny_sequenceKey ht.typeIs (by decide) ?_)
  refine wpAny_bind (wpAny_callSpecial?_slot (name := Str.ofString "__getitem__") ht.typeIs PyProof.Rows.slot_tuple_getitem
    (wpAny_call_entry PyProof.Rows.slot_tuple_getitem ht.typeIs entry_tuple_getitem ?_ (args_tuple_getitem _ _)))
  show wpAny _ _ (Builtin.Tuple.tupleItemsOf (.ref t) >>= _) _ _ s
  refine wpAny_bind (tupleItemsOf_ ht ?_)
  refine wpAny_bind (wpAny_typeOf hTs ?_)
  rw [if_pos (by decide)]
  refine wpAny_bind (sliceApplied_rev hs ps ?_)
  have hno : ¬ ((((items.size : Int) - 1) == 0 && (-1 : Int) == 1 && items.size == items.size) = true) := by
    intro q
    rw [Bool.and_eq_true, Bool.and_eq_true] at q
    exact absurd (eq_of_beq q.1.2) (by decide)
  show wpAny _ _ (if (((items.size : Int) - 1) == 0 && (-1 : Int) == 1 && items.size == items.size) = true then _ else _) _ _ s
  rw [if_neg hno, pick_rev]
  first
    | exact wpAny_bind (m := Builtin.Tuple.tupleExact _) (wpAny_newObj_type (wpAny_pure ⟨_, rfl, wpAny_pure h⟩) htake)
    | exact wpAny_bind (m := Builtin.Tuple.tupleExact _) (wpAny_newObj_type (wpAny_bind (wpAny_pure (wpAny_pure ⟨_, rfl, wpAny_pure h⟩))) htake)
    | exact wpAny_bind (wpAny_bind (m := Builtin.Tuple.tupleExact _) (wpAny_newObj_type (wpAny_pure (wpAny_pure ⟨_, rfl, wpAny_pure h⟩)) htake))
    | exact wpAny_bind (wpAny_bind (m := Builtin.Tuple.tupleExact _) (wpAny_newObj_type (wpAny_pure ⟨_, rfl, wpAny_pure h⟩) htake))
end
end HT
namespace Dn
open PySem PySem.Spec PyProof.Rows L2
def revD : PyData → Option PyData
  | .list xs => some (.list xs.reverse)
  | .tuple xs => some (.tuple xs.reverse)
  | _ => none
/-- t[::-1] of a tuple -/
def tRevT (K : Frg) (te : TE) : TE := fun σ H Q => te σ H fun x H1 => ∃ a xs, x = .ref a ∧ SqT K H1 a xs ∧ ∀ p, H1 p = none → Q (.ref p) (upd H1 p (.tup xs.reverse))
theorem pe_revT {X : Cx} {e : Expr} {te : TE} {k : Nat} {p1 p2 p3 pos : Pos} (he : PE X e te) : PE X (.Subscript e (.Slice none none (some (.UnaryOp .USub (.Constant (.int 1) k p1) p2)) p3) pos) (tRevT X.K te) := by
  refine ⟨fun pins s σ H Q I h => ?_⟩
  refine Subscript_ (thn (he.run pins s σ H _ I h) fun v s1 ⟨x, H1, I1, r1, q1⟩ => ?_)
  obtain ⟨a, xs, ex, hx, q⟩ := q1
  subst ex
  cases r1
  have hst : PO X (some (.UnaryOp .USub (.Constant (.int 1) k p1) p2)) (tPart (tUn (rU fun i => .int (-i)) (tC (.int 1)))) := po_some (pe_un un_neg pe_int)
  refine wpAny_Slice (thn (po_none.run pins s1 σ H1 (fun o H2 => o = none ∧ H2 = H1) I1 ⟨rfl, rfl⟩) fun vl s2 ⟨l, H2, I2, pl, el, e2⟩ => ?_)
  subst el e2
  refine thn (po_none.run pins s2 σ H2 (fun o H3 => o = none ∧ H3 = H2) I2 ⟨rfl, rfl⟩) fun vu s3 ⟨u, H3, I3, pu, eu, e3⟩ => ?_
  subst eu e3
  refine thn (hst.run pins s3 σ H3 (fun o H4 => o = some (-1) ∧ H4 = H3) I3 ⟨1, rfl, -1, rfl, rfl, rfl⟩) fun vs s4 ⟨o, H4, I4, ps, eo, e4⟩ => ?_
  subst eo e4
  cases pl
  cases pu
  have I5 : Inv X pins σ H4 { s4 with heap := s4.heap.push { cls := .type "slice", data := .fields #[.none, .none, vs] } } := I4.kept (t' := s4.toks) fun b ob q => Heap.get?_push_of_some _ q
  obtain ⟨its, r, ht, hz⟩ := I5.tuple hx
  have hlen := r.length
  show wpAny (model X.prog X.w) X.A (subscriptTail e (.Slice none none (some (.UnaryOp .USub (.Constant (.int 1) k p1) p2)) p3) (.ref a) (.ref s4.heap.objs.size)) (EP X pins σ Q) X.xe { s4 with heap := s4.heap.push { cls := .type "slice", data := .fields #[.none, .none, vs] } }
  refine tail_any (ops := [.ref a, .ref s4.heap.objs.size]) ht.typeIs (PyProof.Rows.slot_tuple_getitem.lookup) ?_ (by with_unfolding_all rfl)
  refine HT.getItem_tuple_rev ht (Heap.IsSliceOf.new _ .none .none vs) ps ?_ (by rw [List.size_toArray]; omega)
  refine ⟨.ref _, _, I5.laid (t' := s4.toks) (o := .tup xs.reverse) (fun b ob q => Heap.get?_push_of_some _ q) (Nat.le_refl _) ?_, rfl, q _ (I5.hok.fresh (Nat.le_refl _))⟩
  exact ⟨by rw [List.length_reverse]; exact hz, _, r.reverse, ⟨_, Heap.get?_push_size _ rfl, rfl, _, rfl⟩⟩
end Dn

set_option Elab.async false
set_option linter.all false
set_option autoImplicit false
set_option maxRecDepth 100000
set_option maxHeartbeats 2000000
namespace Dn
open PySem PySem.Spec PyProof.Rows L2

/-! ### t[::-1], l[::-1] -/
def dRev (da : DE) : DE := fun sl B => (da sl B).bind fun p => match p.1 with
  | .tuple xs => some (.tuple xs.reverse, p.2)
  | _ => none
def dRevL (da : DE) : DL := fun sl B => (da sl B).bind fun p => match p.1 with
  | .list xs => some (xs.reverse, p.2)
  | _ => none
theorem rps_snoc {K : Frg} {F : Hp} : ∀ {vs : List V} {ds : List PyData} {v : V} {d : PyData}, Rps K F vs ds → Rp K F v d → Rps K F (vs ++ [v]) (ds ++ [d])
  | _, _, _, _, .nil, h => .cons h .nil
  | _, _, _, _, .cons r t, h => .cons r (rps_snoc t h)
theorem rps_rev {K : Frg} {F : Hp} : ∀ {vs : List V} {ds : List PyData}, Rps K F vs ds → Rps K F vs.reverse ds.reverse
  | _, _, .nil => .nil
  | v :: vs, d :: ds, .cons r t => by
    rw [List.reverse_cons, List.reverse_cons]
    exact rps_snoc (rps_rev t) r
section
variable {X : Cx} {C : Fx} {a c e : Expr} {da db : DE} {p q p1 p2 p3 pos : Pos} {k : Nat}
theorem e_rev (ha : PE X a (liftO X.K C da)) : PE X (.Subscript a (.Slice none none (some (.UnaryOp .USub (.Constant (.int 1) k p1) p2)) p3) pos) (liftE X.K C (dRev da)) :=
  imp_e (fun σ H Q ⟨sl, B, F, b, rr, B', R, e, kk⟩ => by
    obtain ⟨⟨x, B1⟩, e1, e⟩ := bnd e
    split at e
    · rename_i xs hx
      cases e
      have hx' : x = .tuple xs := hx
      subst hx'
      refine ⟨sl, B, F, b, _, _, R, e1, fun v H1 F1 b1 R1 S1 q1 => ?_⟩
      obtain ⟨p, us, rfl, h1, h2⟩ := top_tup R1.fro q1
      refine ⟨p, us, rfl, h1, fun p' hp => ?_⟩
      obtain ⟨R2, S2⟩ := (Al.one hp).rel R1
      exact kk _ _ _ _ R2 (S1.trans S2) (.tup (SqT.of upd_same) (Rps.mono (Ext.new (not_in_F R1.fro hp)) (rps_rev h2)))
    · cases e) (pe_revT ha)
theorem l_rev (ha : PE X a (liftO X.K C da)) : PE X (.Subscript a (.Slice none none (some (.UnaryOp .USub (.Constant (.int 1) k p1) p2)) p3) pos) (liftL X.K C (dRevL da)) :=
  imp_e (fun σ H Q ⟨sl, B, F, b, rr, B', R, e, kk⟩ => by
    obtain ⟨⟨x, B1⟩, e1, e⟩ := bnd e
    split at e
    · rename_i xs hx
      cases e
      have hx' : x = .list xs := hx
      subst hx'
      refine ⟨sl, B, F, b, _, _, R, e1, fun v H1 F1 b1 R1 S1 q1 => ?_⟩
      obtain ⟨p, us, rfl, h1, _, h2⟩ := q1
      refine ⟨p, us, rfl, SqL.of h1, fun p' hp => ?_⟩
      have h0 : H p' = none := by
        cases z : H p' with
        | none => rfl
        | some o => exact absurd hp (S1.tr p' (by rw [z]; exact Option.some_ne_none _))
      exact kk p' us.reverse _ _ _ (R1.new hp) (S1.trans (Stp.new hp)) h0 (not_in_F R1.fro hp) (R1.nbx hp) upd_same (rps_rev h2)
    · cases e) (pe_revL ha)

/-! ### tuple(range(..)), list(range(..)) -/
def rgOk (a b : Int) : Bool := decide (-(2 ^ 62) ≤ a ∧ a < 2 ^ 62 ∧ -(2 ^ 62) ≤ b ∧ b < 2 ^ 62 ∧ (b - a).toNat ≤ 2 ^ 24)
def dRg1 (da : DE) : Sl → Bx → Option ((Int × Int) × Bx) := fun sl B => (da sl B).bind fun p => match p.1 with
  | .int n => if rgOk 0 n = true then some ((0, n), p.2) else none
  | _ => none
def dRg2 (da db : DE) : Sl → Bx → Option ((Int × Int) × Bx) := fun sl B => (da sl B).bind fun p => (db sl p.2).bind fun q => match p.1, q.1 with
  | .int i, .int j => if rgOk i j = true then some ((i, j), q.2) else none
  | _, _ => none
def rgD (a b : Int) : List PyData := rngD a (b - a).toNat
def dTupRg (r : Sl → Bx → Option ((Int × Int) × Bx)) : DE := fun sl B => (r sl B).map fun p => (.tuple (rgD p.1.1 p.1.2), p.2)
def dLstRg (r : Sl → Bx → Option ((Int × Int) × Bx)) : DL := fun sl B => (r sl B).map fun p => (rgD p.1.1 p.1.2, p.2)
theorem rps_rg {K : Frg} {F : Hp} (a b : Int) : Rps K F (rgV a b) (rgD a b) := by
  unfold rgV rgD rngD
  induction List.range (b - a).toNat with
  | nil => exact .nil
  | cons x r ih => exact .cons (.int _) ih
def liftRg (K : Frg) (C : Fx) (d : Sl → Bx → Option ((Int × Int) × Bx)) : L2.St → Hp → (Int → Int → Hp → Prop) → Prop := fun σ H Q => ∃ sl B F b r B', Rel K C sl B F b σ H ∧ d sl B = some (r, B') ∧ ∀ H' F' b', Rel K C sl B' F' b' σ H' → Stp F b H F' b' H' → Q r.1 r.2 H'
theorem rg_1 (hm : X.mg "range" = none) (ha : PE X a (liftO X.K C da)) (hg : Gl X "range" := by rfl) (na : starEach [a] X.env = (false, eval a X.env) :: starEach [] X.env := by rfl) : PRg X (.Call (.Name "range" p) [a] [] pos) (liftRg X.K C (dRg1 da)) :=
  fun pins s σ H Q I ⟨sl, B, F, b, rr, B', R, e, kk⟩ => prg_1 hg hm ha na pins s σ H Q I (by
    obtain ⟨⟨x, B1⟩, e1, e⟩ := bnd e
    split at e
    · rename_i n hx
      have hx' : x = .int n := hx
      subst hx'
      split at e
      · cases e
        refine ⟨sl, B, F, b, _, _, R, e1, fun v H1 F1 b1 R1 S1 q1 => ⟨n, top_int q1, kk H1 F1 b1 R1 S1⟩⟩
      · cases e
    · cases e)
theorem rg_2 (hm : X.mg "range" = none) (ha : PE X a (liftO X.K C da)) (hb : PE X c (liftO X.K C db)) (hg : Gl X "range" := by rfl) (na : starEach [a, c] X.env = (false, eval a X.env) :: starEach [c] X.env := by rfl)
    (nb : starEach [c] X.env = (false, eval c X.env) :: starEach [] X.env := by rfl) (hp : (backTo pos (starEach [c] X.env)).any (·.1) = false := by rfl) : PRg X (.Call (.Name "range" p) [a, c] [] pos) (liftRg X.K C (dRg2 da db)) :=
  fun pins s σ H Q I ⟨sl, B, F, b, rr, B', R, e, kk⟩ => prg_2 hg hm ha hb na nb hp pins s σ H Q I (by
    obtain ⟨⟨x, B1⟩, e1, e⟩ := bnd e
    obtain ⟨⟨y, B2⟩, e2, e⟩ := bnd e
    split at e
    · rename_i i j hx hy
      have hx' : x = .int i := hx
      have hy' : y = .int j := hy
      subst hx' hy'
      split at e
      · cases e
        exact two_o R e1 e2 fun v u H' F' b' R' S' qx qy => ⟨i, j, top_int qx, top_int qy, kk H' F' b' R' S'⟩
      · cases e
    · cases e)
theorem rgOk_is {a b : Int} (h : rgOk a b = true) : RgOk a b := by
  unfold rgOk at h
  rw [decide_eq_true_eq] at h
  exact h
def DRgOk (d : Sl → Bx → Option ((Int × Int) × Bx)) : Prop := ∀ sl B r B', d sl B = some (r, B') → RgOk r.1 r.2
theorem ok_rg1 : DRgOk (dRg1 da) := fun sl B r B' e => by
  obtain ⟨⟨x, B1⟩, e1, e⟩ := bnd e
  split at e
  · split at e
    · rename_i h
      cases e
      exact rgOk_is h
    · cases e
  · cases e
theorem ok_rg2 : DRgOk (dRg2 da db) := fun sl B r B' e => by
  obtain ⟨⟨x, B1⟩, e1, e⟩ := bnd e
  obtain ⟨⟨y, B2⟩, e2, e⟩ := bnd e
  split at e
  · split at e
    · rename_i h
      cases e
      exact rgOk_is h
    · cases e
  · cases e
variable {r : Sl → Bx → Option ((Int × Int) × Bx)}
theorem e_tupRg (hm : X.mg "tuple" = none) (ok : DRgOk r) (he : PRg X e (liftRg X.K C r)) (hc : X.calm = true := by rfl) (hg : Gl X "tuple" := by rfl) (na : starEach [e] X.env = (false, eval e X.env) :: starEach [] X.env := by rfl) : PE X (.Call (.Name "tuple" p) [e] [] pos) (liftE X.K C (dTupRg r)) :=
  imp_e (fun σ H Q ⟨sl, B, F, b, rr, B', R, e, kk⟩ => by
    obtain ⟨⟨⟨i, j⟩, B1⟩, e1, e⟩ := mpd e
    cases e
    refine ⟨sl, B, F, b, _, _, R, e1, fun H1 F1 b1 R1 S1 => ⟨ok _ _ _ _ e1, fun p' hp => ?_⟩⟩
    obtain ⟨R2, S2⟩ := (Al.one hp).rel R1
    exact kk _ _ _ _ R2 (S1.trans S2) (.tup (SqT.of upd_same) (rps_rg i j))) (pe_tupRg hc hg hm he na)
theorem l_lstRg (hm : X.mg "list" = none) (ok : DRgOk r) (he : PRg X e (liftRg X.K C r)) (hc : X.calm = true := by rfl) (hg : Gl X "list" := by rfl) (na : starEach [e] X.env = (false, eval e X.env) :: starEach [] X.env := by rfl) : PE X (.Call (.Name "list" p) [e] [] pos) (liftL X.K C (dLstRg r)) :=
  imp_e (fun σ H Q ⟨sl, B, F, b, rr, B', R, e, kk⟩ => by
    obtain ⟨⟨⟨i, j⟩, B1⟩, e1, e⟩ := mpd e
    cases e
    refine ⟨sl, B, F, b, _, _, R, e1, fun H1 F1 b1 R1 S1 => ⟨ok _ _ _ _ e1, fun p' hp => ?_⟩⟩
    have h0 : H p' = none := by
      cases z : H p' with
      | none => rfl
      | some o => exact absurd hp (S1.tr p' (by rw [z]; exact Option.some_ne_none _))
    exact kk p' (rgV i j) _ _ _ (R1.new hp) (S1.trans (Stp.new hp)) h0 (not_in_F R1.fro hp) (R1.nbx hp) upd_same (rps_rg i j)) (pe_listRg hc hg hm he na)

/-! ### sorted(set(t)), len(set(t)): a tuple of ints -/
def rSetT (K : Frg) (w : World) : List V → Hp → VK → Prop := fun vs H Q => ∃ (a : Addr) (ns : List Int), vs = [V.ref a] ∧ SqT K H a (ns.map V.int) ∧ ns.length ≤ 1000 ∧
  ∀ (p : Addr) (c : Nat), H p = none → c ≤ ns.length → Q (.ref p) (upd H p (SetO w p (fun j => decide (j ∈ ns)) c))
theorem cr_setT {X : Cx} (hc : X.calm = true) : CallR X (.type "set") (rSetT X.K X.w) := by
  intro pins s σ H vs us Q I r h
  obtain ⟨a, ns, rfl, hs, hl, q⟩ := h
  obtain ⟨its, rv, pt, hz⟩ := I.tuple hs
  rw [Vals.ref1 r]
  have hi : PyProof.Rows.IntsAre its.toArray.toList ns := ints_of_vals rv
  refine call_set_tupI ns (I.ok.hd hc) (show s.heap.IsTuple a its.toArray from pt) hi (by unfold scanBound; omega) fun h' tk c R1 hcn k => ?_
  exact ⟨.ref _, upd H s.heap.objs.size (SetO X.w s.heap.objs.size (fun j => decide (j ∈ ns)) c), I.laid (t' := tk) k (Nat.le_refl _) (setO_new R1), rfl, q _ c (I.hok.fresh (Nat.le_refl _)) hcn⟩
/-- the distinct ones, ascending -/
def sdI (ns : List Int) : List Int := (ns.eraseDups).mergeSort fun a b => decide (a ≤ b)
theorem asc_ext : ∀ {a b : List Int}, a.Pairwise (· < ·) → b.Pairwise (· < ·) → (∀ k, k ∈ a ↔ k ∈ b) → a = b
  | [], [], _, _, _ => rfl
  | [], y :: ys, _, _, h => absurd ((h y).mpr List.mem_cons_self) List.not_mem_nil
  | x :: xs, [], _, _, h => absurd ((h x).mp List.mem_cons_self) List.not_mem_nil
  | x :: xs, y :: ys, ha, hb, h => by
    rw [List.pairwise_cons] at ha hb
    have e : x = y := by
      have h1 := (h x).mp List.mem_cons_self
      have h2 := (h y).mpr List.mem_cons_self
      rcases List.mem_cons.mp h1 with e | e
      · exact e
      · rcases List.mem_cons.mp h2 with e2 | e2
        · exact e2.symm
        · have := hb.1 x e
          have := ha.1 y e2
          omega
    subst e
    congr 1
    refine asc_ext ha.2 hb.2 fun k => ⟨fun m => ?_, fun m => ?_⟩
    · rcases List.mem_cons.mp ((h k).mp (List.mem_cons_of_mem _ m)) with e | e
      · have := ha.1 k m
        omega
      · exact e
    · rcases List.mem_cons.mp ((h k).mpr (List.mem_cons_of_mem _ m)) with e | e
      · have := hb.1 k m
        omega
      · exact e
theorem eraseDups_nodup : ∀ ns : List Int, ns.eraseDups.Nodup
  | [] => by rw [List.eraseDups_nil]; exact List.nodup_nil
  | n :: ns => by
    rw [List.eraseDups_cons, List.nodup_cons]
    refine ⟨fun h => ?_, eraseDups_nodup _⟩
    rw [List.mem_eraseDups, List.mem_filter] at h
    simp at h
termination_by ns => ns.length
decreasing_by
  have := List.length_filter_le (fun b => !b == n) ns
  simp only [List.length_cons]
  omega
theorem sdI_mem (ns : List Int) (k : Int) : k ∈ sdI ns ↔ k ∈ ns := by
  unfold sdI
  rw [(List.mergeSort_perm _ _).mem_iff, List.mem_eraseDups]
theorem sdI_asc (ns : List Int) : (sdI ns).Pairwise (· < ·) := by
  have h1 : (sdI ns).Pairwise fun a b => decide (a ≤ b) = true := List.pairwise_mergeSort (le := fun a b : Int => decide (a ≤ b)) (fun a b c h1 h2 => by
    have := of_decide_eq_true h1
    have := of_decide_eq_true h2
    exact decide_eq_true (by omega)) (fun a b => by
    rw [Bool.or_eq_true, decide_eq_true_eq, decide_eq_true_eq]; omega) _
  have h2 : (sdI ns).Nodup := (List.mergeSort_perm _ _).nodup_iff.mpr (eraseDups_nodup ns)
  have h3 := h1.and h2
  exact h3.imp fun {a b} h => by
    have := of_decide_eq_true h.1
    have := h.2
    omega
def dSrtSet (da : DE) : DL := fun sl B => (da sl B).bind fun p => match p.1 with
  | .tuple xs => (intsOf xs).bind fun ns => if ns.length < 64 then some ((sdI ns).map PyData.int, p.2) else none
  | _ => none
theorem rps_ints {K : Frg} {F : Hp} : ∀ ns : List Int, Rps K F (ns.map V.int) (ns.map PyData.int)
  | [] => .nil
  | n :: ns => .cons (.int n) (rps_ints ns)
theorem l_srtSet (hm : X.mg "sorted" = none) (hm2 : X.mg "set" = none) (ha : PE X a (liftO X.K C da)) (hc : X.calm = true := by rfl) (hg : Gl X "sorted" := by rfl) (hg2 : Gl X "set" := by rfl)
    (he : starEach [.Call (.Name "set" q) [a] [] p2] X.env = (false, eval (.Call (.Name "set" q) [a] [] p2) X.env) :: starEach [] X.env := by rfl) (hpl : (backTo pos (starEach [] X.env)).any (·.1) = false := by rfl)
    (he2 : starEach [a] X.env = (false, eval a X.env) :: starEach [] X.env := by rfl) (hpl2 : (backTo p2 (starEach [] X.env)).any (·.1) = false := by rfl) :
    PE X (.Call (.Name "sorted" p) [.Call (.Name "set" q) [a] [] p2] [] pos) (liftL X.K C (dSrtSet da)) :=
  imp_e (fun σ H Q ⟨sl, B, F, b, rr, B', R, e, kk⟩ => by
    obtain ⟨⟨x, B1⟩, e1, e⟩ := bnd e
    split at e
    · rename_i xs hx
      have hx' : x = .tuple xs := hx
      subst hx'
      obtain ⟨ns, e2, e⟩ := bnd e
      split at e
      · rename_i hn
        cases e
        have e2 := intsOf_eq e2
        subst e2
        refine ⟨sl, B, F, b, _, _, R, e1, fun v H1 F1 b1 R1 S1 q1 => ?_⟩
        obtain ⟨p', us, rfl, h1, h2⟩ := top_tup R1.fro q1
        have e3 := h2.ints
        subst e3
        refine ⟨p', ns, rfl, h1, by omega, fun t c ht hc2 => ?_⟩
        refine ⟨t, _, c, rfl, upd_same, by omega, fun ns' l h3 h4 h5 hl => ?_⟩
        have en : ns' = sdI ns := asc_ext h3 (sdI_asc ns) fun k => by rw [h4, sdI_mem, decide_eq_true_eq]
        subst en
        have R2 := R1.new (o := SetO X.w t (fun j => decide (j ∈ ns)) c) ht
        have S2 := S1.trans (Stp.new (o := SetO X.w t (fun j => decide (j ∈ ns)) c) ht)
        have h0 : H l = none := by
          cases z : H l with
          | none => rfl
          | some o => exact absurd hl (S2.tr l (by rw [z]; exact Option.some_ne_none _))
        exact kk l _ _ _ _ (R2.new hl) (S2.trans (Stp.new hl)) h0 (not_in_F R2.fro hl) (R2.nbx hl) upd_same (rps_ints _)
      · cases e
    · cases e)
    (pe_callB (cr_sortedSet hc) hg hm PyProof.Rows.boot_sorted (pa_cons (pe_callTy (cr_setT hc) hg2 hm2 PyProof.Rows.boot_set (pa_cons (hs := he2) ha pa_nil) (by decide) (by decide) he2 hpl2) pa_nil (hs := he)) (by decide) (by decide) he hpl)
end
end Dn

set_option Elab.async false
set_option linter.all false
set_option autoImplicit false
set_option maxRecDepth 100000
set_option maxHeartbeats 2000000
namespace Dn
open PySem PySem.Spec PyProof.Rows L2

/-! ### two names at once, one's own lists among the values -/
def dParLE (i j : Nat) (da : DL) (db : DE) : DS := fun sl B => (da sl B).bind fun p => (db sl p.2).map fun q => .nx ((sl.set i (some (.own p.1))).set j (some (.dat q.1))) q.2
def dParEL (i j : Nat) (da : DE) (db : DL) : DS := fun sl B => (da sl B).bind fun p => (db sl p.2).map fun q => .nx ((sl.set j (some (.own q.1))).set i (some (.dat p.1))) q.2
def dParLL (i j : Nat) (da : DL) (db : DL) : DS := fun sl B => (da sl B).bind fun p => (db sl p.2).map fun q => .nx ((sl.set i (some (.own p.1))).set j (some (.own q.1))) q.2
theorem nb_of {F F' H H' : Hp} {b b' : Bad} {a : Addr} {o : HO} (S : Stp F b H F' b' H') (h1 : H a = some o) (h2 : ¬ inb b a) : ¬ inb b' a := fun z => by
  rcases S.nb a z with y | y
  · exact h2 y
  · rw [h1] at y; cases y
section
variable {X : Cx} {C : Fx} {a c : Expr} {da : DE} {la lb : DL} {db : DE} {x y : Str} {px py pt pos : Pos} {kt k2 : Nat} {pt2 : Pos}
theorem s_parLE (i j : Nat) {x y : Str} {a c : Expr} {da : DL} {db : DE} {px py pt : Pos} {kt k2 pt2} (hc : X.calm = true) (hN : X.N.Nodup) (hij : i ≠ j) (ha : PE X a (liftL X.K C da)) (hb : PE X c (liftE X.K C db)) (hi : X.N[i]? = some x := by rfl) (hj : X.N[j]? = some y := by rfl)
    (hx : X.env.scope.names.lookup x = some .local := by rfl) (hy : X.env.scope.names.lookup y = some .local := by rfl)
    (hw : swappedStores [.Tuple [.Name x px, .Name y py] kt pt] (.Tuple [a, c] k2 pt2) X.env = pure (some [x, y]) := by rfl)
    (hs : swapsWithSole [.Tuple [.Name x px, .Name y py] kt pt] (.Tuple [a, c] k2 pt2) pos.line X.env = pure false := by rfl)
    (hs1 : starEach (a :: [c]) X.env = (false, eval a X.env) :: starEach [c] X.env := by rfl) (hs2 : starEach (c :: []) X.env = (false, eval c X.env) :: starEach [] X.env := by rfl) :
    PS X (.Assign [.Tuple [.Name x px, .Name y py] kt pt] (.Tuple [a, c] k2 pt2) pos) (liftS X.K C (dParLE i j da db)) := imp_s (fun D σ H ⟨sl, B, F, b, o, R, e, k⟩ => by
  obtain ⟨⟨u, B1⟩, e1, e⟩ := bnd e
  obtain ⟨⟨w, B2⟩, e2, e⟩ := mpd e
  cases e
  exact ⟨sl, B, F, b, _, _, R, e1, fun p vs H1 F1 b1 R1 S1 h0 h1 h2 h3 h4 => ⟨sl, B1, F1, b1, _, _, R1, e2, fun v2 H2 F2 b2 R2 S2 q2 => ⟨.ref p, v2, rfl, k F2 b2 _ H2
    ((R2.putO (i := i) (S2.pr p _ h3 h2) (Rps.mono S2.ex h4) (S2.ko p (by rw [h3]; exact Option.some_ne_none _) h1) (nb_of S2 h3 h2) (R.t0 h0) (fun m ys em => R.ownT em h0)).put (s := .dat _) q2 (fun _ z => nomatch z)) (S1.ex.trans S2.ex)⟩⟩⟩)
  (ps_par (ta := tCons (liftL X.K C da) (tCons (liftE X.K C db) tNil)) hc hN hi hj hij hx hy (pa_cons ha (pa_cons hb pa_nil hs2) hs1) hw hs)
theorem s_parEL (i j : Nat) {x y : Str} {a c : Expr} {da : DE} {db : DL} {px py pt : Pos} {kt k2 pt2} (hc : X.calm = true) (hN : X.N.Nodup) (hij : i ≠ j) (ha : PE X a (liftE X.K C da)) (hb : PE X c (liftL X.K C db)) (hi : X.N[i]? = some x := by rfl) (hj : X.N[j]? = some y := by rfl)
    (hx : X.env.scope.names.lookup x = some .local := by rfl) (hy : X.env.scope.names.lookup y = some .local := by rfl)
    (hw : swappedStores [.Tuple [.Name x px, .Name y py] kt pt] (.Tuple [a, c] k2 pt2) X.env = pure (some [x, y]) := by rfl)
    (hs : swapsWithSole [.Tuple [.Name x px, .Name y py] kt pt] (.Tuple [a, c] k2 pt2) pos.line X.env = pure false := by rfl)
    (hs1 : starEach (a :: [c]) X.env = (false, eval a X.env) :: starEach [c] X.env := by rfl) (hs2 : starEach (c :: []) X.env = (false, eval c X.env) :: starEach [] X.env := by rfl) :
    PS X (.Assign [.Tuple [.Name x px, .Name y py] kt pt] (.Tuple [a, c] k2 pt2) pos) (liftS X.K C (dParEL i j da db)) := imp_s (fun D σ H ⟨sl, B, F, b, o, R, e, k⟩ => by
  obtain ⟨⟨u, B1⟩, e1, e⟩ := bnd e
  obtain ⟨⟨w, B2⟩, e2, e⟩ := mpd e
  cases e
  exact ⟨sl, B, F, b, _, _, R, e1, fun v1 H1 F1 b1 R1 S1 q1 => ⟨sl, B1, F1, b1, _, _, R1, e2, fun p vs H2 F2 b2 R2 S2 h0 h1 h2 h3 h4 => ⟨v1, .ref p, rfl, by
    rw [List.set_comm _ _ hij]
    exact k F2 b2 _ H2 ((R2.putO (i := j) h3 h4 h1 h2 (R1.t0 h0) (fun m ys em => R1.ownT em h0)).put (i := i) (s := .dat _) (Rp.mono S2.ex q1) (fun _ z => nomatch z)) (S1.ex.trans S2.ex)⟩⟩⟩)
  (ps_par (ta := tCons (liftE X.K C da) (tCons (liftL X.K C db) tNil)) hc hN hi hj hij hx hy (pa_cons ha (pa_cons hb pa_nil hs2) hs1) hw hs)
theorem s_parLL (i j : Nat) {x y : Str} {a c : Expr} {da : DL} {db : DL} {px py pt : Pos} {kt k2 pt2} (hc : X.calm = true) (hN : X.N.Nodup) (hij : i ≠ j) (ha : PE X a (liftL X.K C da)) (hb : PE X c (liftL X.K C db)) (hi : X.N[i]? = some x := by rfl) (hj : X.N[j]? = some y := by rfl)
    (hx : X.env.scope.names.lookup x = some .local := by rfl) (hy : X.env.scope.names.lookup y = some .local := by rfl)
    (hw : swappedStores [.Tuple [.Name x px, .Name y py] kt pt] (.Tuple [a, c] k2 pt2) X.env = pure (some [x, y]) := by rfl)
    (hs : swapsWithSole [.Tuple [.Name x px, .Name y py] kt pt] (.Tuple [a, c] k2 pt2) pos.line X.env = pure false := by rfl)
    (hs1 : starEach (a :: [c]) X.env = (false, eval a X.env) :: starEach [c] X.env := by rfl) (hs2 : starEach (c :: []) X.env = (false, eval c X.env) :: starEach [] X.env := by rfl) :
    PS X (.Assign [.Tuple [.Name x px, .Name y py] kt pt] (.Tuple [a, c] k2 pt2) pos) (liftS X.K C (dParLL i j da db)) := imp_s (fun D σ H ⟨sl, B, F, b, o, R, e, k⟩ => by
  obtain ⟨⟨u, B1⟩, e1, e⟩ := bnd e
  obtain ⟨⟨w, B2⟩, e2, e⟩ := mpd e
  cases e
  exact ⟨sl, B, F, b, _, _, R, e1, fun p vs H1 F1 b1 R1 S1 g0 g1 g2 g3 g4 => ⟨sl, B1, F1, b1, _, _, R1, e2, fun p2 vs2 H2 F2 b2 R2 S2 h0 h1 h2 h3 h4 => ⟨.ref p, .ref p2, rfl,
    k F2 b2 _ H2 ((R2.putO (i := i) (S2.pr p _ g3 g2) (Rps.mono S2.ex g4) (S2.ko p (by rw [g3]; exact Option.some_ne_none _) g1) (nb_of S2 g3 g2) (R.t0 g0) (fun m ys em => R.ownT em g0)).putO (i := j) h3 h4 h1 h2 (R1.t0 h0) (fun m ys em => by
      by_cases z : i = m
      · subst z
        intro q
        by_cases hl : i < σ.length
        · rw [List.getElem?_set_self hl] at q
          cases q
          rw [g3] at h0; cases h0
        · rw [List.getElem?_eq_none (by simpa using hl)] at q; cases q
      · rw [List.getElem?_set_ne z] at em ⊢
        exact R1.ownT em h0)) (S1.ex.trans S2.ex)⟩⟩⟩)
  (ps_par (ta := tCons (liftL X.K C da) (tCons (liftL X.K C db) tNil)) hc hN hi hj hij hx hy (pa_cons ha (pa_cons hb pa_nil hs2) hs1) hw hs)
end
end Dn

set_option Elab.async false
set_option linter.all false
set_option autoImplicit false
set_option maxRecDepth 100000
set_option maxHeartbeats 2000000
namespace Dn
open PySem PySem.Spec PyProof.Rows L2

/-! ### sum(xs), a list or a tuple of ints -/
def rSumA (K : Frg) : List V → Hp → VK → Prop := fun vs H Q => ∃ (a : Addr) (ns : List Int), vs = [V.ref a] ∧ (SqL K H a (ns.map V.int) ∨ SqT K H a (ns.map V.int)) ∧ Q (.int ns.sum) H
theorem cr_sumA {X : Cx} (hc : X.calm = true) : CallR X (.builtin "sum") (rSumA X.K) := by
  intro pins s σ H vs us Q I r h
  obtain ⟨a, ns, rfl, hs, q⟩ := h
  rcases hs with hs | hs
  · exact cr_sum hc pins s σ H _ us Q I r ⟨a, ns, rfl, hs, q⟩
  · obtain ⟨its, rv, hl, _⟩ := I.tuple hs
    rw [Vals.ref1 r]
    have hi : PyProof.Rows.IntsAre its ns := ints_of_vals rv
    obtain ⟨xs, e⟩ := hi.allInts.items
    have hn : numsOf (intItems xs).toList = ns := by rw [← e]; exact hi.numsOf
    rw [nums_intItems] at hn
    have hl' : s.heap.IsTuple a (intItems xs) := by rw [← e]; exact hl
    refine PySem.W.ktm_sumG (I.ok.hd hc) hl' fun h' tk t' hk => ?_
    have es : preSum (numAt xs) xs.size = ns.sum := by
      rw [preSum_eq, List.take_of_length_le (by simp), hn]
    rw [es]
    exact ⟨.int _, H, I.kept hk, ⟨_, rfl⟩, q⟩
def pySumA : List PyData → Option PyData
  | [.list xs] => (intsOf xs).map fun ns => .int ns.sum
  | [.tuple xs] => (intsOf xs).map fun ns => .int ns.sum
  | _ => none
theorem r_sumA {X : Cx} : RCl X.K (rSumA X.K) pySumA := fun ds z e F H b vs Q fr q k => by
  unfold pySumA at e
  split at e
  · obtain ⟨ns, e1, e⟩ := mpd e
    cases e
    have e1 := intsOf_eq e1
    subst e1
    obtain ⟨v, rfl, p, us, rfl, h1, _, h2⟩ := tops1 q
    have e2 := h2.ints
    subst e2
    exact ⟨p, ns, rfl, .inl (SqL.of h1), k _ _ _ .refl (.int _)⟩
  · obtain ⟨ns, e1, e⟩ := mpd e
    cases e
    have e1 := intsOf_eq e1
    subst e1
    obtain ⟨v, rfl, h⟩ := tops1 q
    obtain ⟨p, us, rfl, h1, h2⟩ := top_tup fr h
    have e2 := h2.ints
    subst e2
    exact ⟨p, ns, rfl, .inr h1, k _ _ _ .refl (.int _)⟩
  · cases e
end Dn

set_option Elab.async false
set_option linter.all false
set_option autoImplicit false
set_option maxRecDepth 100000
set_option maxHeartbeats 2000000
namespace Dn
open PySem PySem.Spec PyProof.Rows L2

/-! ### sorted(xs), one item at most, or alike data -/
theorem swo0 : SrtO.Swo fun _ _ : Value => false := ⟨fun _ _ h => absurd h Bool.false_ne_true, fun _ _ _ _ _ => rfl⟩
def rSortA (K : Frg) : List V → Hp → VK → Prop := fun vs H Q => rSortD K vs H Q ∨ ∃ (a : Addr) (xs : List V), vs = [V.ref a] ∧ SqL K H a xs ∧ xs.length ≤ 1 ∧ ∀ p, H p = none → Q (.ref p) (upd H p (.lst xs))
theorem perm_one {α : Type} {a b : List α} (h : a.Perm b) (hl : b.length ≤ 1) : a = b := by
  cases b with
  | nil => exact h.eq_nil
  | cons x r =>
    cases r with
    | nil => exact List.perm_singleton.mp h
    | cons _ _ => simp at hl
theorem cr_sortA {X : Cx} (hu : X.A.units + 65 < cLine) : CallR X (.builtin "sorted") (rSortA X.K) := by
  intro pins s σ H vs us Q I r h
  rcases h with h | ⟨a, xs, rfl, hs, h1, q⟩
  · exact cr_sortD hu pins s σ H vs us Q I r h
  · obtain ⟨its, rv, hl, hz⟩ := I.list hs
    rw [Vals.ref1 r]
    have hlen : its.length ≤ 1 := by rw [← rv.length]; exact h1
    refine SrtO.sorted_ord swo0 hl.isList (by rw [← rv.length]; exact hz) (fun h2 => absurd h2 (by omega)) fun out _ h2 => ?_
    have e : out = its := perm_one h2.perm hlen
    subst e
    obtain ⟨ep, he'⟩ := PyProof.Rows.sortedAll_at s.heap out out.toArray
    exact ⟨.ref _, upd H (s.heap.objs.size + 1) (.lst xs), I.laid (t' := s.toks) (fun _ _ => PyProof.Rows.sortedAll_old) (Nat.le_succ _) ⟨hz, out, ep, rv, he'⟩, rfl, q _ (I.hok.fresh (Nat.le_succ _))⟩
def pySortedA : List PyData → Option (List PyData)
  | [.list xs] => if sortOk xs = true ∨ xs.length ≤ 1 then some (sortD xs) else none
  | _ => none
theorem sortD_one {xs : List PyData} (h : xs.length ≤ 1) : sortD xs = xs := perm_one (List.mergeSort_perm _ _) h
theorem r_sortA {X : Cx} : RClL X.K (rSortA X.K) pySortedA := fun ds z e F H b vs Q fr q k => by
  unfold pySortedA at e
  split at e
  · split at e
    · rename_i xs hk
      cases e
      by_cases h1 : sortOk xs = true
      · exact .inl (r_sortD _ _ (show pySorted [.list xs] = some (sortD xs) from if_pos h1) F H b vs Q fr q k)
      · have h2 : xs.length ≤ 1 := by rcases hk with z | z; exact absurd z h1; exact z
        rw [sortD_one h2] at k
        obtain ⟨v, rfl, p, us, rfl, g1, _, g2⟩ := tops1 q
        exact .inr ⟨p, us, rfl, SqL.of g1, by rw [g2.length]; exact h2, fun p' hp => k p' us hp g2⟩
    · cases e
  · cases e
end Dn

set_option Elab.async false
set_option linter.all false
set_option autoImplicit false
set_option maxRecDepth 100000
set_option maxHeartbeats 2000000
namespace Dn
open PySem PySem.Spec PyProof.Rows L2

/-! ### xs.extend(ys): a list behind one's own list -/
def dExt (j : Nat) (d : DE) : DS := fun sl B => (d sl B).bind fun p => match p.1, sl[j]? with
  | .list zs, some (some (.own xs)) => if xs.length + zs.length ≤ sizeLine then some (.nx (sl.set j (some (.own (xs ++ zs)))) p.2) else none
  | _, _ => none
section
variable {X : Cx} {C : Fx} {e : Expr} {d : DE} {pos : Pos}
theorem s_ext (j : Nat) (h : PE X e (tBM X.K "list" rExtend (tVar j) (tCons (liftO X.K C d) tNil))) (hs : swapsWith e none pos.line X.env = pure false := by rfl) :
    PS X (.Expr e pos) (liftS X.K C (dExt j d)) := imp_s (fun D σ H ⟨sl, B, F, b, o, R, e, k⟩ => by
  obtain ⟨⟨u, B1⟩, e1, e⟩ := bnd e
  split at e
  · rename_i zs xs hu hx
    have hu' : u = .list zs := hu
    subst hu'
    split at e
    · rename_i hz
      cases e
      obtain ⟨v, ev, a, vs, rfl, g1, g2, g3, g4⟩ := R.slt j _ hx
      refine ⟨_, ev, .inl ⟨rfl, _, SqL.of g1⟩, sl, B, F, b, _, B1, R, e1, fun y H1 F1 b1 R1 S1 q1 => ?_⟩
      obtain ⟨p, us, rfl, h1, h2, h3⟩ := q1
      refine ⟨a, p, vs, us, rfl, rfl, S1.pr a _ g1 g4, h1, by rw [g2.length, h3.length]; exact hz, ?_⟩
      exact k F1 b1 σ _ (R1.chg hx ev (Rps.append (Rps.mono S1.ex g2) h3)) S1.ex
    · cases e
  · cases e) (ps_expr h hs)
end
end Dn

set_option Elab.async false
set_option linter.all false
set_option autoImplicit false
set_option maxRecDepth 100000
set_option maxHeartbeats 4000000
namespace Dn
open PySem PySem.Spec PyProof.Rows L2

/-! ### [e for x in xs if .. for y in ys if ..] -/
def cmpGo2 (tg : DG) (t : DT) (it1 : DL) (tg1 : DG) (t1 : DT) (e : DE) (vs1 : List Nat) (sw : Sl) : List PyData → Bx → Option (List PyData × Bx)
  | [], B => some ([], B)
  | x :: xs, B => (tg x sw).bind fun s2 => (t s2 B).bind fun q => if q.1 = true then (it1 s2 q.2).bind fun p => (cmpGo tg1 t1 e (wipeD s2 vs1) p.1 p.2).bind fun y => (cmpGo2 tg t it1 tg1 t1 e vs1 sw xs y.2).map fun r => (y.1 ++ r.1, r.2) else cmpGo2 tg t it1 tg1 t1 e vs1 sw xs q.2
def dCmp2 (it : DL) (tg : DG) (t : DT) (it1 : DL) (tg1 : DG) (t1 : DT) (e : DE) (vs vs1 : List Nat) : DL := fun sl B => (it sl B).bind fun p => (cmpGo2 tg t it1 tg1 t1 e vs1 (wipeD sl vs) p.1 p.2).bind fun r => if r.1.length ≤ sizeLine then some r else none
/-- a target leaves one's own lists as they are -/
def OwnKept (tg : DG) : Prop := ∀ (x : PyData) (sw s2 : Sl), tg x sw = some s2 → ∀ (j : Nat) (s : Sv), (∀ d, s ≠ .dat d) → s2[j]? = some (some s) → sw[j]? = some (some s)
theorem kept_gN (i : Nat) : OwnKept (gN i) := fun x sw s2 e j s ns h => by
  cases e
  by_cases z : i = j
  · subst z
    by_cases hl : i < sw.length
    · rw [List.getElem?_set_self hl] at h; cases h; exact absurd rfl (ns _)
    · rw [List.getElem?_eq_none (by simpa using hl)] at h; cases h
  · rw [List.getElem?_set_ne z] at h; exact h
theorem wipeD_own : ∀ (vs : List Nat) (sl : Sl) (j : Nat) (s : Sv), (wipeD sl vs)[j]? = some (some s) → j ∉ vs ∧ sl[j]? = some (some s)
  | [], sl, j, s, h => ⟨List.not_mem_nil, h⟩
  | v :: vs, sl, j, s, h => by
    have h : ((wipeD sl vs).set v none)[j]? = some (some s) := h
    by_cases z : v = j
    · subst z
      by_cases hl : v < (wipeD sl vs).length
      · rw [List.getElem?_set_self hl] at h; cases h
      · rw [List.getElem?_eq_none (by simpa using hl)] at h; cases h
    · rw [List.getElem?_set_ne z] at h
      obtain ⟨h1, h2⟩ := wipeD_own vs sl j s h
      exact ⟨fun m => by rcases List.mem_cons.mp m with q | q; exact z q.symm; exact h1 q, h2⟩
theorem wipe_at : ∀ (vs : List Nat) (σ : L2.St) (j : Nat), j ∉ vs → (L2.wipe σ vs)[j]? = σ[j]?
  | [], _, _, _ => rfl
  | v :: vs, σ, j, h => by
    show ((L2.wipe σ vs).set v none)[j]? = _
    rw [List.getElem?_set_ne (fun z => h (by rw [z]; exact List.mem_cons_self)), wipe_at vs σ j fun m => h (List.mem_cons_of_mem _ m)]
theorem lc2_imp {K : Frg} {C : Fx} {it it1 : DL} {tg tg1 : DG} {t t1 : DT} {e : DE} {vs ws vs1 ws1 : List Nat} (hw : ∀ j ∈ ws, j ∈ vs) (hw1 : ∀ j ∈ ws1, j ∈ vs1) (hk : OwnKept tg) : ∀ σ H Q, liftL K C (dCmp2 it tg t it1 tg1 t1 e vs vs1) σ H Q → tLc2 (liftIo K C it) (liftG K C tg ws) (liftT K C t) (liftI K C it1) (liftG K C tg1 ws1) (liftT K C t1) (liftE K C e) vs vs1 σ H Q :=
  fun σ H Q ⟨sl, B, F, b, rr, B', R, he, k⟩ => by
    obtain ⟨⟨xs, B1⟩, e1, he⟩ := bnd he
    obtain ⟨⟨r0, B0⟩, he, hz0⟩ := bnd he
    simp only at he hz0
    split at hz0
    case isFalse => cases hz0
    case isTrue hz =>
    cases hz0
    refine ⟨sl, B, F, b, xs, B1, R, e1, fun J H1 F1 b1 R1 S1 wk D hD => ?_⟩
    have d0 : C.H0 D = none := R1.t0 hD
    have dF : F1 D = none := not_in_F R1.fro hD
    have db : ¬ inb b1 D := R1.nbx hD
    refine ⟨fun i m H' => m = xs.length - i ∧ i ≤ xs.length ∧ ∃ F' b' B2 acc da rest, Rel K C sl B2 F' b' σ H' ∧ Stp F1 b1 H1 F' b' H' ∧ H' D = some (.lst acc) ∧ F' D = none ∧ ¬ inb b' D ∧ Rps K F' acc da ∧ cmpGo2 tg t it1 tg1 t1 e vs1 (wipeD sl vs) (xs.drop i) B2 = some (rest, B') ∧ da ++ rest = rr,
      ⟨_, rfl, Nat.zero_le _, F1, b1, B1, [], [], rr, R1.tmp dF db d0 (fun j ys e => R1.ownT e hD) (fun j ys e => R1.dicT e fun ks z => by rw [hD] at z; cases z), Stp.new hD, upd_same, dF, db, .nil, he, rfl⟩, ?_⟩
    rintro i m H' ⟨rfl, hi, F', b', B2, acc, da, rest, R2, S2, h1, h2, h3, h4, h6, h7⟩
    have kp : Keep b1 H1 H' := fun a o g n => S2.pr a o g n
    obtain ⟨w1, w2⟩ := wk i F' H' S2.ex R2.fro kp
    by_cases hlt : i < xs.length
    · have hx : xs[i]? = some xs[i] := List.getElem?_eq_getElem hlt
      obtain ⟨go, yl⟩ := w1 _ hx
      rw [List.drop_eq_getElem_cons hlt] at h6
      unfold cmpGo2 at h6
      obtain ⟨s2, g1, h6⟩ := bnd h6
      obtain ⟨⟨tb, B3⟩, g2, h6⟩ := bnd h6
      refine .inr ⟨go, fun H'' => ∃ F' b' B2 acc da rest, Rel K C sl B2 F' b' σ H'' ∧ Stp F1 b1 H1 F' b' H'' ∧ H'' D = some (.lst acc) ∧ F' D = none ∧ ¬ inb b' D ∧ Rps K F' acc da ∧ cmpGo2 tg t it1 tg1 t1 e vs1 (wipeD sl vs) (xs.drop (i + 1)) B2 = some (rest, B') ∧ da ++ rest = rr,
        fun H'' hn => ⟨xs.length - (i + 1), by omega, rfl, hlt, hn⟩, fun v H2 y => ?_⟩
      obtain ⟨F2, al, rv⟩ := yl v H2 y
      obtain ⟨R3, S3⟩ := al.rel R2
      have D2 : H2 D = some (.lst acc) := S3.pr D _ h1 h3
      have F2D : F2 D = none := S3.ko D (by rw [h1]; exact Option.some_ne_none _) h2
      refine ⟨wipeD sl vs, B2, F2, b', xs[i], s2, R3.wipe vs, rv, g1, fun σ2 R4 wq => ⟨by rw [wq vs hw]; exact lc_imp.wipe_wipe σ vs, s2, B2, F2, b', tb, B3, R4, g2, fun H3 F3 b3 R5 S5 => ?_⟩⟩
      have D3 : H3 D = some (.lst acc) := S5.pr D _ D2 h3
      have nb3 : ¬ inb b3 D := nb_of S5 D2 h3
      have F3D : F3 D = none := S5.ko D (by rw [D2]; exact Option.some_ne_none _) F2D
      have S13 := S2.trans (S3.trans S5)
      cases tb with
      | false => exact iteF ⟨F3, b3, B3, acc, da, rest, R3.step S5 R5.fro R5.bx, S13, D3, F3D, nb3, Rps.mono (S3.ex.trans S5.ex) h4, h6, h7⟩
      | true =>
        have h6 : (it1 s2 B3).bind (fun p => (cmpGo tg1 t1 e (wipeD s2 vs1) p.1 p.2).bind fun y => (cmpGo2 tg t it1 tg1 t1 e vs1 (wipeD sl vs) (xs.drop (i + 1)) y.2).map fun r => (y.1 ++ r.1, r.2)) = some (rest, B') := h6
        obtain ⟨⟨ys, B4⟩, g3, h6⟩ := bnd h6
        obtain ⟨⟨zs, B5⟩, g4, h6⟩ := bnd h6
        obtain ⟨⟨rs, B6⟩, g5, h6⟩ := mpd h6
        injection h6 with q1 q2
        refine iteT ⟨s2, B3, F3, b3, ys, B4, R5, g3, fun J1 H4 F4 b4 R6 S6 wk1 => ?_⟩
        have D4 : H4 D = some (.lst acc) := S6.pr D _ D3 nb3
        have nb4 : ¬ inb b4 D := nb_of S6 D3 nb3
        have F4D : F4 D = none := S6.ko D (by rw [D3]; exact Option.some_ne_none _) F3D
        have R3' : Rel K C sl B4 F4 b4 σ H4 := R3.step (S5.trans S6) R6.fro R6.bx
        refine ⟨fun j kk H'' => kk = ys.length - j ∧ j ≤ ys.length ∧ ∃ F' b' B7 acc da rest1, Rel K C s2 B7 F' b' σ2 H'' ∧ Rel K C sl B7 F' b' σ H'' ∧ Ext F4 F' ∧ Stp F1 b1 H1 F' b' H'' ∧ H'' D = some (.lst acc) ∧ F' D = none ∧ ¬ inb b' D ∧ Rps K F' acc da ∧ cmpGo tg1 t1 e (wipeD s2 vs1) (ys.drop j) B7 = some (rest1, B5) ∧ da ++ (rest1 ++ rs) = rr,
          ⟨_, rfl, Nat.zero_le _, F4, b4, B4, acc, da, zs, R6, R3', Ext.refl _, S13.trans S6, D4, F4D, nb4, Rps.mono (S3.ex.trans (S5.ex.trans S6.ex)) h4, g4, by rw [← h7, ← q1]⟩, ?_⟩
        rintro j kk H'' ⟨rfl, hj, F5, b5, B7, acc5, da5, rest1, R7, R7', x5, S7, i1, i2, i3, i4, i5, i6⟩
        obtain ⟨u1, u2⟩ := wk1 j F5 H'' x5 R7.fro trivial
        by_cases hlj : j < ys.length
        · have hy : ys[j]? = some ys[j] := List.getElem?_eq_getElem hlj
          obtain ⟨go1, yl1⟩ := u1 _ hy
          rw [List.drop_eq_getElem_cons hlj] at i5
          unfold cmpGo at i5
          obtain ⟨s3, k1, i5⟩ := bnd i5
          obtain ⟨⟨tb1, B8⟩, k2, i5⟩ := bnd i5
          refine .inr ⟨go1, fun H'' => ∃ F' b' B7 acc da rest1, Rel K C s2 B7 F' b' σ2 H'' ∧ Rel K C sl B7 F' b' σ H'' ∧ Ext F4 F' ∧ Stp F1 b1 H1 F' b' H'' ∧ H'' D = some (.lst acc) ∧ F' D = none ∧ ¬ inb b' D ∧ Rps K F' acc da ∧ cmpGo tg1 t1 e (wipeD s2 vs1) (ys.drop (j + 1)) B7 = some (rest1, B5) ∧ da ++ (rest1 ++ rs) = rr,
            fun H'' hn => ⟨ys.length - (j + 1), by omega, rfl, hlj, hn⟩, fun v1 H8 y1 => ?_⟩
          obtain ⟨F8, al1, rv1⟩ := yl1 v1 H8 y1
          obtain ⟨R8, S8⟩ := al1.rel R7
          have D8 : H8 D = some (.lst acc5) := S8.pr D _ i1 i3
          have F8D : F8 D = none := S8.ko D (by rw [i1]; exact Option.some_ne_none _) i2
          refine ⟨wipeD s2 vs1, B7, F8, b5, ys[j], s3, R8.wipe vs1, rv1, k1, fun σ3 R9 wq1 => ⟨by rw [wq1 vs1 hw1]; exact lc_imp.wipe_wipe σ2 vs1, s3, B7, F8, b5, tb1, B8, R9, k2, fun H9 F9 b9 R10 S10 => ?_⟩⟩
          have D9 : H9 D = some (.lst acc5) := S10.pr D _ D8 i3
          have nb9 : ¬ inb b9 D := nb_of S10 D8 i3
          have F9D : F9 D = none := S10.ko D (by rw [D8]; exact Option.some_ne_none _) F8D
          have S19 := S7.trans (S8.trans S10)
          cases tb1 with
          | false => exact iteF ⟨F9, b9, B8, acc5, da5, rest1, R8.step S10 R10.fro R10.bx, R7'.step (S8.trans S10) R10.fro R10.bx, x5.trans (S8.ex.trans S10.ex), S19, D9, F9D, nb9, Rps.mono (S8.ex.trans S10.ex) i4, i5, i6⟩
          | true =>
            have i5 : (e s3 B8).bind (fun y => (cmpGo tg1 t1 e (wipeD s2 vs1) (ys.drop (j + 1)) y.2).map fun r => (y.1 :: r.1, r.2)) = some (rest1, B5) := i5
            obtain ⟨⟨yv, B9⟩, k3, i5⟩ := bnd i5
            obtain ⟨⟨rs1, B10⟩, k4, i5⟩ := mpd i5
            injection i5 with p1 p2
            refine iteT ⟨s3, B8, F9, b9, yv, B9, R10, k3, fun u H10 F10 b10 R11 S11 q6 => ?_⟩
            have D10 : H10 D = some (.lst acc5) := S11.pr D _ D9 nb9
            have nb10 : ¬ inb b10 D := nb_of S11 D9 nb9
            have F10D : F10 D = none := S11.ko D (by rw [D9]; exact Option.some_ne_none _) F9D
            have hlen : acc5.length < sizeLine := by
              have e2 : rr.length = da5.length + ((rest1.length) + rs.length) := by rw [← i6, List.length_append, List.length_append]
              have e3 : rest1.length = rs1.length + 1 := by rw [← p1]; rfl
              have e4 := i4.length
              omega
            have S20 := S19.trans S11
            have RA : Rel K C s2 B9 F10 b10 σ2 H10 := R8.step (S10.trans S11) R11.fro R11.bx
            have RB : Rel K C sl B9 F10 b10 σ H10 := R7'.step (S8.trans (S10.trans S11)) R11.fro R11.bx
            refine ⟨acc5, D10, hlen, F10, b10, B9, acc5 ++ [u], da5 ++ [yv], rs1, ?_, RB.tmp F10D nb10 d0 (fun j ys e => R1.ownT e hD) (fun j ys e => R1.dicT e fun ks z => by rw [hD] at z; cases z), x5.trans (S8.ex.trans (S10.ex.trans S11.ex)), ?_, upd_same, F10D, nb10, Rps.append (Rps.mono (S8.ex.trans (S10.ex.trans S11.ex)) i4) (.one q6), ?_, ?_⟩
            · refine RA.tmp F10D nb10 d0 (fun j ys ej => ?_) (fun j ys ej => ?_)
              · obtain ⟨n1, n2⟩ := wipeD_own vs sl j _ (hk _ _ _ g1 j (.own ys) (fun _ z => nomatch z) ej)
                have n3 := wq vs hw
                rw [lc_imp.wipe_wipe σ vs] at n3
                rw [← wipe_at vs σ2 j n1, n3, wipe_at vs σ j n1]
                exact R1.ownT n2 hD
              · obtain ⟨n1, n2⟩ := wipeD_own vs sl j _ (hk _ _ _ g1 j (.dic ys) (fun _ z => nomatch z) ej)
                have n3 := wq vs hw
                rw [lc_imp.wipe_wipe σ vs] at n3
                rw [← wipe_at vs σ2 j n1, n3, wipe_at vs σ j n1]
                exact R1.dicT n2 fun ks z => by rw [hD] at z; cases z
            · exact ⟨S20.ex, fun a o g n => by
                rw [upd_ne (ne_of_none g hD)]
                exact S20.pr a o g n, S20.ko, S20.bb, S20.nb, fun a g => by
                rw [upd_ne (fun z => by subst z; exact g hD)]
                exact S20.tr a g⟩
            · rw [← p2]; exact k4
            · rw [← i6, ← p1, List.append_assoc]; rfl
        · have e0 : j = ys.length := by omega
          subst e0
          refine .inl ⟨u2 rfl, ?_⟩
          rw [List.drop_length] at i5
          cases i5
          exact ⟨F5, b5, B5, acc5, da5, rs, R7', S7, i1, i2, i3, i4, by rw [← q2]; exact g5, by rw [← i6]; rfl⟩
    · have e0 : i = xs.length := by omega
      subst e0
      refine .inl ⟨w2 rfl, ?_⟩
      rw [List.drop_length] at h6
      cases h6
      rw [List.append_nil] at h7
      subst h7
      have hD0 : H D = none := by
        cases z : H D with
        | none => rfl
        | some o => exact absurd hD (S1.tr D (by rw [z]; exact Option.some_ne_none _))
      exact k D acc H' F' b' R2 (S1.trans S2) hD0 h2 h3 h1 h4
section
variable {X : Cx} {C : Fx}
theorem l_lc2 {elt tg iter tg1 iter1 : Expr} {ifs ifs1 : List Expr} {scope : Scope} {own : List (Str × Nat)} {pos : Pos} {it it1 : DL} {dg dg1 : DG} {t t1 : DT} {e : DE} {ws ws1 vs1 : List Nat} (hc : X.calm = true) (hN : X.N.Nodup) (hi : PI X tg iter (liftIo X.K C it)) (ok : BlkOk X.N X.env.scope scope own)
    (hg : ∀ (s : Shared) (H : Hp) (CC : Addr) (cl : List (Str × Addr)) (fp : List Addr), PG (X.blk s H scope (compEnvC scope cl CC X.env) fp) tg (liftG X.K C dg ws)) (ht : ∀ (s : Shared) (H : Hp) (CC : Addr) (cl : List (Str × Addr)) (fp : List Addr), PTs (X.blk s H scope (compEnvC scope cl CC X.env) fp) ifs (liftT X.K C t))
    (hi1 : ∀ (s : Shared) (H : Hp) (CC : Addr) (cl : List (Str × Addr)) (fp : List Addr), PI (X.blk s H scope (compEnvC scope cl CC X.env) fp) tg1 iter1 (liftI X.K C it1))
    (hg1 : ∀ (s : Shared) (H : Hp) (CC : Addr) (cl : List (Str × Addr)) (fp : List Addr), PG (X.blk s H scope (compEnvC scope cl CC X.env) fp) tg1 (liftG X.K C dg1 ws1)) (ht1 : ∀ (s : Shared) (H : Hp) (CC : Addr) (cl : List (Str × Addr)) (fp : List Addr), PTs (X.blk s H scope (compEnvC scope cl CC X.env) fp) ifs1 (liftT X.K C t1))
    (he : ∀ (s : Shared) (H : Hp) (CC : Addr) (cl : List (Str × Addr)) (fp : List Addr), PE (X.blk s H scope (compEnvC scope cl CC X.env) fp) elt (liftE X.K C e)) (hk : OwnKept dg) {us : List Nat} (hu : own.map (·.2) = us := by rfl) (hv : ∀ j ∈ vs1, j ∈ us := by decide) (hw : ∀ j ∈ ws, j ∈ us := by decide) (hw1 : ∀ j ∈ ws1, j ∈ vs1 := by decide)
    (hs : ∀ x, foldedSetIterable iter X.env x = pure x := by intro _; rfl) (hs1 : ∀ env x, foldedSetIterable iter1 env x = pure x := by intro _ _; rfl) :
    PE X (.ListComp elt [⟨tg, iter, ifs, 0⟩, ⟨tg1, iter1, ifs1, 0⟩] scope pos) (liftL X.K C (dCmp2 it dg t it1 dg1 t1 e us vs1)) := by
  subst hu
  exact imp_e (lc2_imp hw hw1 hk) (pe_lc2 (vs1 := vs1) hc hN hi ok hv hg ht hi1 hg1 ht1 he hs hs1)
end
end Dn

set_option Elab.async false
set_option linter.all false
set_option autoImplicit false
set_option maxRecDepth 100000
set_option maxHeartbeats 1000000
namespace Dn
open PySem
section
variable {da db dc : DE} {la lb : DL} {sl : Sl} {B B1 : Bx} {x y z : PyData} {xs ys : List PyData} {f g : PyData → PyData → Option Bool} {i j : Nat}
def kChn4 (g : PyData → PyData → Option Bool) (y : PyData) : OE → Option (Bool × Bx)
  | some (z, B) => (g y z).map fun t => (t, B)
  | none => none
def kChn3 (g : PyData → PyData → Option Bool) (y : PyData) (dc : DE) (sl : Sl) (B : Bx) : Option Bool → Option (Bool × Bx)
  | some true => kChn4 g y (dc sl B)
  | some false => some (false, B)
  | none => none
def kChn2 (f g : PyData → PyData → Option Bool) (x : PyData) (dc : DE) (sl : Sl) : OE → Option (Bool × Bx)
  | some (y, B) => kChn3 g y dc sl B (f x y)
  | none => none
def kChn1 (f g : PyData → PyData → Option Bool) (db dc : DE) (sl : Sl) : OE → Option (Bool × Bx)
  | some (x, B) => kChn2 f g x dc sl (db sl B)
  | none => none
theorem k_chn : dChn f g da db dc sl B = kChn1 f g db dc sl (da sl B) := by
  unfold dChn kChn1
  cases da sl B with
  | none => rfl
  | some p =>
    obtain ⟨x, B1⟩ := p
    show (db sl B1).bind _ = kChn2 f g x dc sl (db sl B1)
    unfold kChn2
    cases db sl B1 with
    | none => rfl
    | some q =>
      obtain ⟨y, B2⟩ := q
      show (f x y).bind _ = kChn3 g y dc sl B2 (f x y)
      unfold kChn3
      cases f x y with
      | none => rfl
      | some t =>
        cases t with
        | false => rfl
        | true =>
          show (dc sl B2).bind _ = kChn4 g y (dc sl B2)
          unfold kChn4
          cases dc sl B2 with
          | none => rfl
          | some r => rfl
theorem k_chn1 : kChn1 f g db dc sl (some (x, B)) = kChn2 f g x dc sl (db sl B) := id rfl
theorem k_chn2 : kChn2 f g x dc sl (some (y, B)) = kChn3 g y dc sl B (f x y) := id rfl
theorem k_chn3t : kChn3 g y dc sl B (some true) = kChn4 g y (dc sl B) := id rfl
theorem k_chn3f : kChn3 g y dc sl B (some false) = some (false, B) := id rfl
def kTFo (B : Bx) : Option Bool → Option (Bool × Bx)
  | some t => some (t, B)
  | none => none
theorem k_chn4 : kChn4 g y (some (z, B)) = kTFo B (g y z) := by
  show (g y z).map _ = kTFo B (g y z)
  cases g y z <;> rfl
theorem k_tfo {b : Bool} : kTFo B (some b) = some (b, B) := id rfl
def kChB : Option (Bool × Bx) → OE
  | some (t, B) => some (.bool t, B)
  | none => none
theorem k_chnB : dChnB f g da db dc sl B = kChB (dChn f g da db dc sl B) := by
  unfold dChnB kChB
  cases dChn f g da db dc sl B <;> rfl
theorem k_chB {b : Bool} : kChB (some (b, B)) = some (.bool b, B) := id rfl
def kRev : OE → OE
  | some (.tuple xs, B) => some (.tuple xs.reverse, B)
  | _ => none
theorem k_rev : dRev da sl B = kRev (da sl B) := by
  unfold dRev kRev
  cases da sl B with
  | none => rfl
  | some p => obtain ⟨x, B1⟩ := p; cases x <;> rfl
theorem k_rev1 : kRev (some (.tuple xs, B)) = some (.tuple xs.reverse, B) := id rfl
def kRevL : OE → Option (List PyData × Bx)
  | some (.list xs, B) => some (xs.reverse, B)
  | _ => none
theorem k_revL : dRevL da sl B = kRevL (da sl B) := by
  unfold dRevL kRevL
  cases da sl B with
  | none => rfl
  | some p => obtain ⟨x, B1⟩ := p; cases x <;> rfl
theorem k_revL1 : kRevL (some (.list xs, B)) = some (xs.reverse, B) := id rfl
def kRg1 : OE → Option ((Int × Int) × Bx)
  | some (.int n, B) => if rgOk 0 n = true then some ((0, n), B) else none
  | _ => none
theorem k_rg1 : dRg1 da sl B = kRg1 (da sl B) := by
  unfold dRg1 kRg1
  cases da sl B with
  | none => rfl
  | some p => obtain ⟨x, B1⟩ := p; cases x <;> rfl
theorem k_rg1' {n : Int} (h : rgOk 0 n = true) : kRg1 (some (.int n, B)) = some ((0, n), B) := if_pos h
def kTupRg : Option ((Int × Int) × Bx) → OE
  | some ((a, b), B) => some (.tuple (rgD a b), B)
  | none => none
theorem k_tupRg {r : Sl → Bx → Option ((Int × Int) × Bx)} : dTupRg r sl B = kTupRg (r sl B) := by
  unfold dTupRg kTupRg
  cases r sl B <;> rfl
theorem k_tupRg1 {a b : Int} : kTupRg (some ((a, b), B)) = some (.tuple (rgD a b), B) := id rfl
def kLstRg : Option ((Int × Int) × Bx) → Option (List PyData × Bx)
  | some ((a, b), B) => some (rgD a b, B)
  | none => none
theorem k_lstRg {r : Sl → Bx → Option ((Int × Int) × Bx)} : dLstRg r sl B = kLstRg (r sl B) := by
  unfold dLstRg kLstRg
  cases r sl B <;> rfl
theorem k_lstRg1 {a b : Int} : kLstRg (some ((a, b), B)) = some (rgD a b, B) := id rfl
def kSrt : OE → Option (List PyData × Bx)
  | some (.tuple xs, B) => (intsOf xs).bind fun ns => if ns.length < 64 then some ((sdI ns).map PyData.int, B) else none
  | _ => none
theorem k_srt : dSrtSet da sl B = kSrt (da sl B) := by
  unfold dSrtSet kSrt
  cases da sl B with
  | none => rfl
  | some p => obtain ⟨x, B1⟩ := p; cases x <;> rfl
theorem k_srt1 {ns : List Int} (h : ns.length < 64) : kSrt (some (.tuple (ns.map PyData.int), B)) = some ((sdI ns).map PyData.int, B) := by
  show (intsOf (ns.map PyData.int)).bind _ = _
  rw [intsOf_map]
  exact if_pos h
def kPLE (i j : Nat) (db : DE) (sl : Sl) : Option (List PyData × Bx) → Option Out
  | some (xs, B) => match db sl B with
    | some (y, B2) => some (.nx ((sl.set i (some (.own xs))).set j (some (.dat y))) B2)
    | none => none
  | none => none
theorem k_parLE : dParLE i j la db sl B = kPLE i j db sl (la sl B) := by
  unfold dParLE kPLE
  cases la sl B with
  | none => rfl
  | some p =>
    obtain ⟨x, B1⟩ := p
    show (db sl B1).map _ = (match db sl B1 with | some (y, B2) => _ | none => _)
    cases db sl B1 with
    | none => rfl
    | some q => rfl
def kPLE2 (i j : Nat) (sl : Sl) (xs : List PyData) : OE → Option Out
  | some (y, B2) => some (.nx ((sl.set i (some (.own xs))).set j (some (.dat y))) B2)
  | none => none
theorem k_parLE1 : kPLE i j db sl (some (xs, B)) = kPLE2 i j sl xs (db sl B) := by
  unfold kPLE2
  show (match db sl B with | some (y, B2) => _ | none => _) = _
  cases db sl B <;> rfl
theorem k_parLE2 : kPLE2 i j sl xs (some (y, B)) = some (.nx ((sl.set i (some (.own xs))).set j (some (.dat y))) B) := id rfl
end
section
variable {da : DE} {sl : Sl} {B : Bx}
def kAugA (f : Int → Int → Int) (i : Nat) (da : DE) (sl : Sl) (B : Bx) : Option (Option Sv) → Option Out
  | some (some (.dat (.int a))) => kAug f i sl a (da sl B)
  | _ => none
theorem k_augA {f : Int → Int → Int} {i : Nat} : dAug f i da sl B = kAugA f i da sl B (sl[i]?) := by
  cases h : sl[i]? with
  | none => unfold dAug; rw [h]; rfl
  | some u =>
    cases u with
    | none => unfold dAug; rw [h]; rfl
    | some v =>
      cases v with
      | dat d =>
        cases d with
        | int a => exact k_aug h
        | _ => unfold dAug; rw [h]; rfl
      | _ => unfold dAug; rw [h]; rfl
theorem k_augA1 {f : Int → Int → Int} {i : Nat} {a : Int} : kAugA f i da sl B (some (some (.dat (.int a)))) = kAug f i sl a (da sl B) := id rfl
end
/-! the tape: place, number, seed -/
section
variable {cs : List Int} {c p x y n : Int} {on : Bool} {sl : Sl}
theorem t_bg1 : dBget 0 1 (some .box :: sl) ⟨cs, [p, x, y], on⟩ = some (.int p, ⟨cs, [p, x, y], on⟩) := id rfl
theorem t_bg2 : dBget 0 2 (some .box :: sl) ⟨cs, [p, x, y], on⟩ = some (.int x, ⟨cs, [p, x, y], on⟩) := id rfl
theorem t_bg3 : dBget 0 3 (some .box :: sl) ⟨cs, [p, x, y], on⟩ = some (.int y, ⟨cs, [p, x, y], on⟩) := id rfl
theorem t_bs1 : kBset 0 1 (some .box :: sl) (some (.int n, ⟨cs, [p, x, y], on⟩)) = some (.nx (some .box :: sl) ⟨cs, [n, x, y], on⟩) := id rfl
theorem t_bs2 : kBset 0 2 (some .box :: sl) (some (.int n, ⟨cs, [p, x, y], on⟩)) = some (.nx (some .box :: sl) ⟨cs, [p, n, y], on⟩) := id rfl
theorem t_bs3 : kBset 0 3 (some .box :: sl) (some (.int n, ⟨cs, [p, x, y], on⟩)) = some (.nx (some .box :: sl) ⟨cs, [p, x, n], on⟩) := id rfl
theorem t_bc : dBcells 0 (some .box :: sl) ⟨cs, [p, x, y], on⟩ = some (.cells, ⟨cs, [p, x, y], on⟩) := id rfl
end
def TI (B : Bx) : Prop := ∃ cs p x y, B = ⟨cs, [p, x, y], true⟩ ∧ 0 ≤ p ∧ 0 ≤ x ∧ 0 ≤ y
end Dn

set_option Elab.async false
set_option linter.all false
set_option autoImplicit false
set_option maxRecDepth 100000
set_option maxHeartbeats 1000000
namespace Dn
open PySem PySem.Spec PyProof.Rows L2
/-! ### slots forgotten; comprehensions without a test -/
def dWp (vs : List Nat) (d : DS) : DS := fun sl B => d (wipeD sl vs) B
def dCmpY (it : DL) (tg : DG) (e : DE) (vs : List Nat) : DL := dCmp it tg dYes e vs
def dCmp2Y (it : DL) (tg : DG) (t : DT) (it1 : DL) (tg1 : DG) (e : DE) (vs vs1 : List Nat) : DL := dCmp2 it tg t it1 tg1 dYes e vs vs1
theorem Rel.fgt {K : Frg} {C : Fx} {sl : Sl} {B : Bx} {F H : Hp} {b : Bad} {σ : L2.St} (r : Rel K C sl B F b σ H) (j : Nat) : Rel K C (sl.set j none) B F b σ H := by
  have sub : ∀ (l : Nat) (t : Sv), (sl.set j none)[l]? = some (some t) → sl[l]? = some (some t) := fun l t e => by
    by_cases z : j = l
    · subst z
      by_cases hl : j < sl.length
      · rw [List.getElem?_set_self hl] at e; cases e
      · rw [List.getElem?_eq_none (by simpa using hl)] at e; cases e
    · rw [List.getElem?_set_ne z] at e
      exact e
  exact ⟨r.fro, by rw [List.length_set]; exact r.len, fun l t e => r.slt l t (sub l t e), fun l m xs ys a e1 e2 e3 e4 => r.dis l m xs ys a (sub _ _ e1) (sub _ _ e2) e3 e4, fun l xs a e1 e3 => r.own0 l xs a (sub _ _ e1) e3, r.bx, r.e1, r.e2, r.e3, r.e4, r.e5, fun l m xs ys a e1 e2 e3 e4 => r.dis2 l m xs ys a (sub _ _ e1) (sub _ _ e2) e3 e4, fun l xs a e1 e3 => r.own2 l xs a (sub _ _ e1) e3⟩
theorem Rel.fgts {K : Frg} {C : Fx} {sl : Sl} {B : Bx} {F H : Hp} {b : Bad} {σ : L2.St} (r : Rel K C sl B F b σ H) : ∀ vs : List Nat, Rel K C (wipeD sl vs) B F b σ H
  | [] => r
  | v :: vs => (Rel.fgts r vs).fgt v
theorem ss_wp {X : Cx} {C : Fx} {rest : List Stmt} {d1 : DS} (vs : List Nat) (h : PSs X rest (liftS X.K C d1)) : PSs X rest (liftS X.K C (dWp vs d1)) := imp_ss (fun D σ H ⟨sl, B, F, b, o, R, e, k⟩ => ⟨_, B, F, b, o, R.fgts vs, e, k⟩) h
end Dn

set_option Elab.async false
set_option linter.all false
set_option autoImplicit false
set_option maxRecDepth 100000
set_option maxHeartbeats 4000000
namespace Dn
open PySem PySem.Spec PyProof.Rows L2
/-! ### x += ys of one's own list -/
theorem s_augL {X : Cx} {C : Fx} {e : Expr} {d : DE} {pos : Pos} (j : Nat) {x : Str} {pos' : Pos} (hN : X.N.Nodup) (h : PE X e (liftO X.K C d)) (hi : X.N[j]? = some x := by rfl) (hx : Loc X.env.scope x := by first | exact .inl rfl | exact .inr rfl) (hf : X.fn x = true ∨ X.env.scope.names.lookup x = some .local := by first | exact .inl rfl | exact .inr rfl) :
    PS X (.AugAssign (.Name x pos') .Add e pos) (liftS X.K C (dExt j d)) := imp_s (fun D σ H ⟨sl, B, F, b, o, R, e, k⟩ => by
  obtain ⟨⟨u, B1⟩, e1, e⟩ := bnd e
  split at e
  · rename_i zs xs hu hx
    split at e
    · rename_i hz
      cases e
      obtain ⟨v, ev, a, vs, rfl, g1, g2, g3, g4⟩ := R.slt j _ hx
      refine ⟨_, ev, sl, B, F, b, u, B1, R, e1, fun y H1 F1 b1 R1 S1 q1 => ?_⟩
      have hu' : u = .list zs := hu
      subst hu'
      obtain ⟨c, us, rfl, k1, k2, k3⟩ := q1
      refine ⟨a, c, vs, us, rfl, rfl, S1.pr a _ g1 g4, k1, by rw [g2.length, k3.length]; exact hz, ?_⟩
      have es : σ.set j (some (.ref a)) = σ := by
        apply List.ext_getElem?
        intro i
        by_cases z : j = i
        · subst z
          have hl : j < σ.length := by
            rcases Nat.lt_or_ge j σ.length with z | z
            · exact z
            · rw [List.getElem?_eq_none z] at ev; cases ev
          rw [List.getElem?_set_self hl, ev]
        · rw [List.getElem?_set_ne z]
      show D.nx (σ.set j (some (V.ref a))) _
      rw [es]
      exact k F1 b1 σ _ (R1.chg hx ev (Rps.append (Rps.mono S1.ex g2) k3)) S1.ex
    · cases e
  · cases e) (ps_aug hN hi hx h (show PIp X .Add rExt2 from iop_ext) hf)

/-! ### tuples and lists times an int -/
def repD (ds : List PyData) (k : Int) : List PyData := (List.replicate k.toNat ds).flatten
theorem rps_rep {K : Frg} {F : Hp} {vs : List V} {ds : List PyData} (h : Rps K F vs ds) : ∀ n : Nat, Rps K F (List.replicate n vs).flatten (List.replicate n ds).flatten
  | 0 => .nil
  | n + 1 => by
    rw [List.replicate_succ, List.replicate_succ, List.flatten_cons, List.flatten_cons]
    exact h.append (rps_rep h n)
theorem tuple_mul1 (l : Addr) (items : Array Value) (n : Nat) (x : Int) (u : Tok) (dd : Option Addr) (sl : Array (Option Value)) (c0 : (decide (x < -(2 ^ 63)) || decide (x ≥ 2 ^ 63)) = false) (c1 : (items.isEmpty || x == 1) = true) :
    Meets (Builtin.«tuple.__mul__» ⟨[.ref l, .int x u], []⟩) (fun _ R s => s.heap.get? l = some { cls := .type "tuple", dict := dd, data := .seq items n, slots := sl } ∧ R (.ok (.ret (Value.ref l))) s) :=
  .of_wp fun prog w A R s h => by
    obtain ⟨hp, g, d, tk, os⟩ := s
    obtain ⟨hl, h⟩ := h
    have f1 := AutoSeq1.idx_int
    wp_walk using wpAny_loadPart' hl
    repeat (first
      | (refine wpAny_ite_false (decide_eq_false (by rw [c0]; exact Bool.false_ne_true)) ?_; wp_walk using wpAny_loadPart' hl)
      | (refine wpAny_ite_true (decide_eq_true (by rw [c1])) ?_; wp_walk using wpAny_loadPart' hl))
    exact ⟨_, rfl, h⟩
theorem tuple_mul0 (l : Addr) (items : Array Value) (n : Nat) (x : Int) (u : Tok) (dd : Option Addr) (sl : Array (Option Value)) (c0 : (decide (x < -(2 ^ 63)) || decide (x ≥ 2 ^ 63)) = false) (c1 : (items.isEmpty || x == 1) = false) (c2 : (decide (x ≤ 0) || items.isEmpty) = true) :
    Meets (Builtin.«tuple.__mul__» ⟨[.ref l, .int x u], []⟩) (fun _ R s => s.heap.get? l = some { cls := .type "tuple", dict := dd, data := .seq items n, slots := sl } ∧
      R (.ok (.ret (Value.ref s.heap.objs.size))) { s with heap := s.heap.push { cls := Value.type "tuple", data := Data.seq #[] }, toks := s.toks }) :=
  .of_wp fun prog w A R s h => by
    obtain ⟨hp, g, d, tk, os⟩ := s
    obtain ⟨hl, h⟩ := h
    have f1 := AutoSeq1.idx_int
    wp_walk using wpAny_loadPart' hl
    repeat (first
      | (refine wpAny_ite_false (decide_eq_false (by rw [c0]; exact Bool.false_ne_true)) ?_; wp_walk using wpAny_loadPart' hl)
      | (refine wpAny_ite_false (decide_eq_false (by rw [c1]; exact Bool.false_ne_true)) ?_; wp_walk using wpAny_loadPart' hl)
      | (refine wpAny_ite_true (decide_eq_true (by rw [c2])) ?_; wp_walk using wpAny_loadPart' hl))
    exact ⟨_, rfl, h⟩
/-- a tuple times an int, of any size | once | none at all -/
def rRepA (K : Frg) : R2 := fun x y H Q => ∃ l k xs, x = .ref l ∧ y = .int k ∧ SqT K H l xs ∧ -(2 ^ 63) ≤ k ∧ k < 2 ^ 63 ∧
  (((xs = [] ∨ k = 1) ∧ Q (.ref l) H) ∨ (xs ≠ [] ∧ k ≤ 0 ∧ ∀ p, H p = none → Q (.ref p) (upd H p (.tup []))) ∨ (xs ≠ [] ∧ 2 ≤ k ∧ k ≤ 1000 ∧ xs.length ≤ 1000 ∧ ∀ p, H p = none → Q (.ref p) (upd H p (.tup (List.replicate k.toNat xs).flatten))))
theorem op_repA {X : Cx} : OpR X (binaryOp .Mult) (rRepA X.K) := by
  intro pins s σ H x y v u Q I rx ry h
  obtain ⟨l, k, xs, rfl, rfl, hT, hk1, hk2, h⟩ := h
  rcases h with ⟨h1, q⟩ | ⟨h1, h2, q⟩ | ⟨h1, h2, h3, h4, q⟩
  · cases rx
    obtain ⟨t, rfl⟩ := ry
    obtain ⟨its, r, ⟨⟨cls, dd, data, sl⟩, ho, hc, n, hd⟩, hs⟩ := I.tuple hT
    simp only at hc hd
    subst hc hd
    have c0 : (decide (k < -(2 ^ 63)) || decide (k ≥ 2 ^ 63)) = false := by
      rw [decide_eq_false (by omega), decide_eq_false (by omega)] <;> rfl
    have c1 : (its.toArray.isEmpty || k == 1) = true := by
      rcases h1 with h1 | h1
      · subst h1
        have hle : its.length = 0 := r.length.symm
        rw [List.eq_nil_of_length_eq_zero hle]
        rfl
      · subst h1
        rw [Bool.or_eq_true]
        exact .inr rfl
    refine wpAny_binaryOp_repeat_ref (T := "tuple") (U := "int") (by decide) ⟨_, ho, rfl⟩ (fun s' => typeIs_int s' k t) noFill_tuple_mul F.fills_int_mul F.slot_int_rmul repeat_tuple F.slot_int_index.lookup
      (call_meets F.slot_int_rmul (typeIs_int s k t) F.entry_int_rmul (F.args_int_rmul_2 _ _) (int_rmul_tuple k t l its.toArray n dd sl)
        ⟨ho, rfl, ⟨_, ho, rfl⟩, call_meets F.slot_tuple_mul ⟨_, ho, rfl⟩ F.entry_tuple_mul (F.args_tuple_mul_2 _ _) (tuple_mul1 l its.toArray n k t dd sl c0 c1) ⟨ho, ?_⟩⟩)
    exact ⟨.ref l, H, I, rfl, q⟩
  · cases rx
    obtain ⟨t, rfl⟩ := ry
    obtain ⟨its, r, ⟨⟨cls, dd, data, sl⟩, ho, hc, n, hd⟩, hs⟩ := I.tuple hT
    simp only at hc hd
    subst hc hd
    have hle : its.length = xs.length := r.length.symm
    have hn : its ≠ [] := fun e => h1 (by
      rw [e] at hle
      exact List.eq_nil_of_length_eq_zero hle.symm)
    have hi : its.toArray.isEmpty = false := by
      cases its with
      | nil => exact absurd rfl hn
      | cons a b => rfl
    have c0 : (decide (k < -(2 ^ 63)) || decide (k ≥ 2 ^ 63)) = false := by
      rw [decide_eq_false (by omega), decide_eq_false (by omega)] <;> rfl
    have c1 : (its.toArray.isEmpty || k == 1) = false := by
      rw [hi, Bool.false_or]
      exact beq_eq_false_iff_ne.mpr (by omega)
    have c2 : (decide (k ≤ 0) || its.toArray.isEmpty) = true := by
      rw [decide_eq_true h2, Bool.true_or]
    refine wpAny_binaryOp_repeat_ref (T := "tuple") (U := "int") (by decide) ⟨_, ho, rfl⟩ (fun s' => typeIs_int s' k t) noFill_tuple_mul F.fills_int_mul F.slot_int_rmul repeat_tuple F.slot_int_index.lookup
      (call_meets F.slot_int_rmul (typeIs_int s k t) F.entry_int_rmul (F.args_int_rmul_2 _ _) (int_rmul_tuple k t l its.toArray n dd sl)
        ⟨ho, rfl, ⟨_, ho, rfl⟩, call_meets F.slot_tuple_mul ⟨_, ho, rfl⟩ F.entry_tuple_mul (F.args_tuple_mul_2 _ _) (tuple_mul0 l its.toArray n k t dd sl c0 c1 c2) ⟨ho, ?_⟩⟩)
    refine ⟨.ref s.heap.objs.size, _, I.laid (t' := s.toks) (o := .tup []) (fun b ob q => Heap.get?_push_of_some _ q) (Nat.le_refl _) ?_, rfl, q _ (I.hok.fresh (Nat.le_refl _))⟩
    exact ⟨Nat.zero_le _, [], .nil, IsTup.new _ _⟩
  · exact op_repT pins s σ H _ _ v u Q I rx ry ⟨l, k, xs, rfl, rfl, hT, h1, h2, h3, h4, q⟩
def pyMulB : PyData → PyData → Option PyData
  | .tuple xs, .int k => if -(2 ^ 63) ≤ k ∧ k ≤ 1000 ∧ xs.length ≤ 1000 then some (.tuple (repD xs k)) else none
  | .list xs, .int k => if -(2 ^ 63) ≤ k ∧ k < 2 ^ 63 ∧ xs.length * k.toNat ≤ sizeLine then some (.list (repD xs k)) else none
  | x, y => pyMul x y
def rMulB (K : Frg) : R2 := fun x y H Q => rMulA x y H Q ∨ (rRepA K x y H Q ∨ rRep x y H Q)
theorem op_mulB {X : Cx} : OpR X (binaryOp .Mult) (rMulB X.K) := op_mulA.or (op_repA.or op_rep)
theorem r_mulB {X : Cx} : ROp X.K (rMulB X.K) pyMulB := fun x y z e F H b v u Q fr qx qy k => by
  have old : pyMul x y = some z → rMulB X.K v u H Q := fun e => .inl (r_mul (X := X) x y z e F H b v u Q fr qx qy k)
  cases x with
  | tuple xs =>
    cases y with
    | int i =>
      unfold pyMulB at e
      simp only at e
      split at e
      · rename_i hc
        cases e
        obtain ⟨a, vs, rfl, h1, h2⟩ := top_tup fr qx
        have hu := top_int qy
        subst hu
        refine .inr (.inl ⟨a, i, vs, rfl, rfl, h1, hc.1, by omega, ?_⟩)
        by_cases c1 : xs = [] ∨ i = 1
        · refine .inl ⟨?_, ?_⟩
          · rcases c1 with c1 | c1
            · subst c1; cases h2; exact .inl rfl
            · exact .inr c1
          · refine k _ F H .refl ?_
            have er : repD xs i = xs := by
              unfold repD
              rcases c1 with c1 | c1
              · subst c1; simp
              · subst c1; simp
            rw [er]
            exact qx
        · have hne : vs ≠ [] := fun z => c1 (.inl (by subst z; cases h2; rfl))
          by_cases c2 : i ≤ 0
          · refine .inr (.inl ⟨hne, c2, fun p hp => k _ _ _ (Al.one hp) ?_⟩)
            have er : repD xs i = [] := by
              unfold repD
              rw [Int.toNat_of_nonpos c2]
              rfl
            rw [er]
            exact .tup (.inl (.inl upd_same)) .nil
          · refine .inr (.inr ⟨hne, by omega, hc.2.1, by rw [h2.length]; exact hc.2.2, fun p hp => k _ _ _ (Al.one hp) ?_⟩)
            have hF : F p = none := not_in_F fr hp
            exact .tup (.inl (.inl upd_same)) (rps_rep (Rps.mono (Ext.new hF) h2) _)
      · cases e
    | _ => exact old e
  | list xs =>
    cases y with
    | int i =>
      unfold pyMulB at e
      simp only at e
      split at e
      · rename_i hc
        cases e
        obtain ⟨a, vs, rfl, h1, h3, h2⟩ := qx
        have hu := top_int qy
        subst hu
        refine .inr (.inr ⟨a, i, vs, rfl, rfl, h1, hc.1, hc.2.1, by rw [h2.length]; exact hc.2.2, fun p hp => k _ _ _ (Al.one hp) ?_⟩)
        have hF : F p = none := not_in_F fr hp
        exact .lst upd_same (rps_rep (Rps.mono (Ext.new hF) h2) _)
      · cases e
    | _ => exact old e
  | int _ => exact old e
  | none => exact old e
  | bool _ => exact old e
  | str _ => exact old e
  | dict _ => exact old e
end Dn

set_option Elab.async false
set_option linter.all false
set_option autoImplicit false
set_option maxRecDepth 100000
set_option maxHeartbeats 4000000
namespace Dn
open PySem PySem.Spec PyProof.Rows L2
/-! ### sorted(t) of a tuple -/
mutual
theorem reads_lt {h : Heap} : ∀ (d : PyData) (v : Value) (as : List Addr), Reads h v d as → ∀ a ∈ as, a < h.objs.size
  | .none, _, _, r, a, m => by cases r; cases m
  | .bool _, _, _, r, a, m => by cases r; cases m
  | .int _, _, _, r, a, m => by cases r; cases m
  | .str _, _, _, r, a, m => by cases r; cases m
  | .list xs, _, _, r, a, m => by
    cases r with
    | list h1 _ _ h2 =>
      rcases List.mem_cons.mp m with e | e
      · rw [e]; exact Heap.lt_size h1
      · exact readsAll_lt xs _ _ h2 a e
  | .tuple xs, _, _, r, a, m => by
    cases r with
    | tuple h1 _ _ h2 => exact readsAll_lt xs _ _ h2 a m
  | .dict kvs, _, _, r, a, m => by
    cases r with
    | dict h1 _ _ h2 h3 =>
      rcases List.mem_append.mp m with m | m
      · rcases List.mem_cons.mp m with e | e
        · rw [e]; exact Heap.lt_size h1
        · exact readsKey_lt kvs _ _ h2 a e
      · exact readsVal_lt kvs _ _ h3 a m
theorem readsAll_lt {h : Heap} : ∀ (ds : List PyData) (vs : List Value) (as : List Addr), ReadsAll h vs ds as → ∀ a ∈ as, a < h.objs.size
  | [], _, _, r, a, m => by cases r; cases m
  | d :: ds, _, _, r, a, m => by
    cases r with
    | cons h1 h2 =>
      rcases List.mem_append.mp m with e | e
      · exact reads_lt d _ _ h1 a e
      · exact readsAll_lt ds _ _ h2 a e
theorem readsKey_lt {h : Heap} : ∀ (kvs : List (PyData × PyData)) (vs : List Value) (as : List Addr), ReadsAll h vs (kvs.map (·.1)) as → ∀ a ∈ as, a < h.objs.size
  | [], _, _, r, a, m => by cases r; cases m
  | (d, e) :: ds, _, _, r, a, m => by
    cases r with
    | cons h1 h2 =>
      rcases List.mem_append.mp m with q | q
      · exact reads_lt d _ _ h1 a q
      · exact readsKey_lt ds _ _ h2 a q
theorem readsVal_lt {h : Heap} : ∀ (kvs : List (PyData × PyData)) (vs : List Value) (as : List Addr), ReadsAll h vs (kvs.map (·.2)) as → ∀ a ∈ as, a < h.objs.size
  | [], _, _, r, a, m => by cases r; cases m
  | (e, d) :: ds, _, _, r, a, m => by
    cases r with
    | cons h1 h2 =>
      rcases List.mem_append.mp m with q | q
      · exact reads_lt d _ _ h1 a q
      · exact readsVal_lt ds _ _ h2 a q
end
def rSortT (K : Frg) : List V → Hp → VK → Prop := fun vs H Q => ∃ (a : Addr) (xs : List V) (ds : List PyData), vs = [V.ref a] ∧ SqT K H a xs ∧ DpAll K H xs ds ∧ ((sortOk ds = true ∧
  ∀ (ys : List (V × PyData)) (p : Addr), ys.Perm (xs.zip ds) → ys.map Prod.snd = sortD ds → H p = none → Q (.ref p) (upd H p (.lst (ys.map Prod.fst)))) ∨ (xs.length ≤ 1 ∧ ∀ p, H p = none → Q (.ref p) (upd H p (.lst xs))))
theorem cr_sortT {X : Cx} (hu : X.A.units + 65 < cLine) : CallR X (.builtin "sorted") (rSortT X.K) := by
  intro pins s σ H vs us Q I r h
  obtain ⟨t, xs, ds, rfl, hs, hd, hk⟩ := h
  obtain ⟨its, rv, ⟨o, ho, hc, n, hdt⟩, hz⟩ := I.tuple hs
  rw [Vals.ref1 r]
  have hlen := rv.length
  refine Calls.call_function_entry kind_sorted plain_sorted entry_sorted (args_sorted1 _) ?_
  unfold Builtin.«sorted»
  refine wpAny_bind (m := checkCount "sorted" 1 1 _) (wpAny_pure ?_)
  refine wpAny_bind (wpAny_collect_seq t (.inr rfl) ho hc hdt (fun h1 hk1 => ?_) (by rw [List.size_toArray]; omega))
  have I1 : Inv X pins σ H { s with heap := h1 } := I.kept (t' := s.toks) hk1
  have eit : its.toArray.toList = its := by simp
  rw [eit]
  refine wpAny_bind (wpAny_newList ?_ (by omega))
  have hoL : (h1.push (seqObj "list" its.toArray 0)).get? h1.objs.size = some (seqObj "list" its.toArray 0) := Heap.get?_push_size _ rfl
  have keep : ∀ b u, h1.get? b = some u → (h1.push (seqObj "list" its.toArray 0)).get? b = some u := fun b u q => Heap.get?_push_of_some _ q
  have fin : ∀ (out : List Value) (ys : List V), ys.length ≤ sizeLine → Vals ys out → (∀ p, H p = none → Q (.ref p) (upd H p (.lst ys))) → EP X pins σ Q (.ref h1.objs.size) { s with heap := sortedHeap (h1.push (seqObj "list" its.toArray 0)) h1.objs.size its out.toArray } := fun out ys hy hv q => by
    obtain ⟨ep, he⟩ := sortedHeap_at (vs := its) (out := out.toArray) hoL
    refine ⟨.ref _, upd H h1.objs.size (.lst ys), I1.laid (t' := s.toks) (fun b u q => ?_) (Nat.le_refl _) ⟨hy, out, ep, hv, he⟩, rfl, q _ (I1.hok.fresh (Nat.le_refl _))⟩
    have hlt := Heap.lt_size q
    rw [sortedHeap_old (Nat.ne_of_lt hlt) (by rw [size_push']; exact Nat.lt_succ_of_lt hlt)]
    exact keep b u q
  rcases hk with ⟨hk, q⟩ | ⟨h1e, q⟩
  · obtain ⟨as, ra⟩ := Dp.readsAll I1 _ _ _ hd rv
    obtain ⟨g1, g2, g3⟩ := sortOk_is hk
    have el := dpAll_len hd
    have ez := zip_snd el
    have er' : PySem.W.EachIs (fun (v : Value) (b : V × PyData) => ∃ as, Reads (h1.push (seqObj "list" its.toArray 0)) v b.2 as ∧ h1.objs.size ∉ as) its (xs.zip ds) := (each_rds el rv ra).mono fun v b hx => by
      obtain ⟨as', r'⟩ := hx
      exact ⟨as', PyProof.Rows.Reads.keeps keep r', fun hm => absurd (reads_lt _ _ _ r' _ hm) (Nat.lt_irrefl _)⟩
    have hu' : ∀ b, b ∈ xs.zip ds → X.A.in1.units + 1 + b.2.depth < cLine := fun b hb => by
      have := g3 b.2 (List.of_mem_zip hb).2
      have e1 : X.A.in1.units = X.A.units + 1 := rfl
      omega
    refine wpAny_bind (wpAny_holding (PySem.W.list_sort_data (s := { s with heap := h1.push (seqObj "list" its.toArray 0) }) (vs := its) (n := 0) (enc := Prod.snd) (bs := xs.zip ds) hoL (each_zip el rv) er' (by rw [ez]; exact g1) (by rw [ez]; exact g2) (by rw [List.length_zip, el, Nat.min_self, ← el]; exact hz) hu' fun out ho' hr => ?_))
    · refine wpAny_pure ⟨_, rfl, ?_⟩
      have hp : (List.mergeSort (xs.zip ds) (PySem.W.dataLe false Prod.snd)).Perm (xs.zip ds) := List.mergeSort_perm _ _
      refine fin out _ ?_ (each_vals hr) fun p hH => q _ p hp ?_ hH
      · rw [List.length_map, hp.length_eq, List.length_zip, el, Nat.min_self, ← el]; exact hz
      · unfold sortD
        have e := List.map_mergeSort (r := PySem.W.dataLe false Prod.snd) (s := PySem.W.dataLe false id) (f := Prod.snd) (l := xs.zip ds) fun _ _ _ _ => rfl
        rw [e, ez]
  · refine wpAny_bind (wpAny_holding (wpAny_call_entry slot_list_sort ⟨_, hoL, rfl⟩ entry_list_sort (SrtO.list_sort_ord (s := { s with heap := h1.push (seqObj "list" its.toArray 0) }) swo0 hoL (by omega) (fun h2 => absurd h2 (by omega)) fun out _ hb => ⟨_, rfl, ?_⟩) (args_list_sort _)))
    have e : out = its := perm_one hb.perm (by omega)
    subst e
    exact wpAny_pure ⟨_, rfl, fin out xs hz rv q⟩
def rSortB (K : Frg) : List V → Hp → VK → Prop := fun vs H Q => rSortA K vs H Q ∨ rSortT K vs H Q
theorem cr_sortB {X : Cx} (hu : X.A.units + 65 < cLine) : CallR X (.builtin "sorted") (rSortB X.K) := by
  intro pins s σ H vs us Q I r h
  rcases h with h | h
  · exact cr_sortA hu pins s σ H vs us Q I r h
  · exact cr_sortT hu pins s σ H vs us Q I r h
def pySortedB : List PyData → Option (List PyData)
  | [.list xs] => if sortOk xs = true ∨ xs.length ≤ 1 then some (sortD xs) else none
  | [.tuple xs] => if sortOk xs = true ∨ xs.length ≤ 1 then some (sortD xs) else none
  | _ => none
theorem r_sortB {X : Cx} : RClL X.K (rSortB X.K) pySortedB := fun ds z e F H b vs Q fr q k => by
  unfold pySortedB at e
  split at e
  · rename_i xs
    exact .inl (r_sortA [.list xs] z e F H b vs Q fr q k)
  · split at e
    · rename_i xs hk
      cases e
      obtain ⟨v, rfl, h⟩ := tops1 q
      obtain ⟨p, us, rfl, h1, h2⟩ := top_tup fr h
      refine .inr ⟨p, us, _, rfl, h1, (Rps.mono fr h2).dp, ?_⟩
      by_cases hs : sortOk xs = true
      · refine .inl ⟨hs, fun ys p' hp hy hn => ?_⟩
        have := rps_of (K := X.K) (F := F) ys fun b hb => rps_zip h2 b (hp.subset hb)
        rw [hy] at this
        exact k p' _ hn this
      · have h3 : xs.length ≤ 1 := by rcases hk with z | z; exact absurd z hs; exact z
        rw [sortD_one h3] at k
        exact .inr ⟨by rw [h2.length]; exact h3, fun p' hn => k p' us hn h2⟩
    · cases e
  · cases e

/-! ### < and its like: ints, or data that are alike -/
def pyLtA : PyData → PyData → Option Bool
  | .int i, .int j => some (decide (i < j))
  | x, y => pyLtD x y
def pyLeA : PyData → PyData → Option Bool
  | .int i, .int j => some (decide (i ≤ j))
  | x, y => pyLeD x y
def pyGtA : PyData → PyData → Option Bool
  | .int i, .int j => some (decide (j < i))
  | x, y => pyGtD x y
def pyGeA : PyData → PyData → Option Bool
  | .int i, .int j => some (decide (j ≤ i))
  | x, y => pyGeD x y
section
variable {X : Cx}
def rOrA (r1 r2 : R2) : R2 := fun x y H Q => r1 x y H Q ∨ r2 x y H Q
theorem op_ltA (hu : X.A.units + 65 < cLine) : OpR X (compareOp .Lt) (rOrA (rI0 fun i j => .bl (decide (i < j))) (rOrd X.K fun d e => PySem.W.dataLt d e)) := op_lt.or (op_ltD hu)
theorem op_leA (hu : X.A.units + 65 < cLine) : OpR X (compareOp .LtE) (rOrA (rI0 fun i j => .bl (decide (i ≤ j))) (rOrd X.K fun d e => !PySem.W.dataLt e d)) := op_le.or (op_leD hu)
theorem op_gtA (hu : X.A.units + 65 < cLine) : OpR X (compareOp .Gt) (rOrA (rI0 fun i j => .bl (decide (j < i))) (rOrd X.K fun d e => PySem.W.dataLt e d)) := op_gt.or (op_gtD hu)
theorem op_geA (hu : X.A.units + 65 < cLine) : OpR X (compareOp .GtE) (rOrA (rI0 fun i j => .bl (decide (j ≤ i))) (rOrd X.K fun d e => !PySem.W.dataLt d e)) := op_ge.or (op_geD hu)
theorem r_orA {r1 r2 : R2} {f g h : PyData → PyData → Option Bool} (h1 : RTs X.K r1 f) (h2 : RTs X.K r2 g) (hh : ∀ x y z, h x y = some z → f x y = some z ∨ g x y = some z) : RTs X.K (rOrA r1 r2) h := fun x y z e F H b v u Q fr qx qy k => by
  rcases hh x y z e with e | e
  · exact .inl (h1 x y z e F H b v u Q fr qx qy k)
  · exact .inr (h2 x y z e F H b v u Q fr qx qy k)
theorem r_ltA : RTs X.K (rOrA (rI0 fun i j => .bl (decide (i < j))) (rOrd X.K fun d e => PySem.W.dataLt d e)) pyLtA := r_orA r_lt (r_ord (g := fun d e => PySem.W.dataLt d e)) fun x y z e => by
  unfold pyLtA at e
  split at e
  · exact .inl e
  · exact .inr e
theorem r_leA : RTs X.K (rOrA (rI0 fun i j => .bl (decide (i ≤ j))) (rOrd X.K fun d e => !PySem.W.dataLt e d)) pyLeA := r_orA r_le (r_ord (g := fun d e => !PySem.W.dataLt e d)) fun x y z e => by
  unfold pyLeA at e
  split at e
  · exact .inl e
  · exact .inr e
theorem r_gtA : RTs X.K (rOrA (rI0 fun i j => .bl (decide (j < i))) (rOrd X.K fun d e => PySem.W.dataLt e d)) pyGtA := r_orA r_gt (r_ord (g := fun d e => PySem.W.dataLt e d)) fun x y z e => by
  unfold pyGtA at e
  split at e
  · exact .inl e
  · exact .inr e
theorem r_geA : RTs X.K (rOrA (rI0 fun i j => .bl (decide (j ≤ i))) (rOrd X.K fun d e => !PySem.W.dataLt d e)) pyGeA := r_orA r_ge (r_ord (g := fun d e => !PySem.W.dataLt d e)) fun x y z e => by
  unfold pyGeA at e
  split at e
  · exact .inl e
  · exact .inr e
end

/-! ### max, min of alike data -/
def bestOk (ds : List PyData) : Bool := (ds.all fun d => ds.all fun e => PySem.W.alike d e) && (ds.all fun d => decide (d.depth ≤ 60)) && (ds.all fun d => !isNon d) && ds.all fun d => d.canLay0
theorem bestOk_is {ds : List PyData} (h : bestOk ds = true) : PySem.W.AlikeAll ds ∧ PyData.depthAll ds ≤ 60 ∧ ∀ d ∈ ds, d.canLay0 = true := by
  unfold bestOk at h
  rw [Bool.and_eq_true, Bool.and_eq_true, Bool.and_eq_true, List.all_eq_true, List.all_eq_true, List.all_eq_true, List.all_eq_true] at h
  obtain ⟨⟨⟨h1, h2⟩, h3⟩, h4⟩ := h
  refine ⟨⟨fun d hd e he => List.all_eq_true.mp (h1 d hd) e he, fun d hd z => ?_⟩, ?_, h4⟩
  · have := h3 d hd
    rw [z] at this
    exact absurd this (by decide)
  · have : ∀ (l : List PyData), (∀ d ∈ l, d.depth ≤ 60) → PyData.depthAll l ≤ 60 := by
      intro l
      induction l with
      | nil => intro _; exact Nat.zero_le _
      | cons x r ih =>
        intro hh
        unfold PyData.depthAll
        exact Nat.max_le.mpr ⟨hh x List.mem_cons_self, ih fun y hy => hh y (List.mem_cons_of_mem _ hy)⟩
    exact this ds fun d hd => of_decide_eq_true (h2 d hd)
def rBest (K : Frg) (g : PyData → List PyData → PyData) : List V → Hp → VK → Prop := fun vs H Q => ∃ (a : Addr) (xs : List V) (d : PyData) (ds : List PyData), vs = [V.ref a] ∧ (SqL K H a xs ∨ SqT K H a xs) ∧ DpAll K H xs (d :: ds) ∧ bestOk (d :: ds) = true ∧
  ∀ (i : Nat) (v : V), xs[i]? = some v → (d :: ds)[i]? = some (g d ds) → Q v H
theorem readsAll_get {h : Heap} : ∀ {us : List Value} {ds : List PyData} {as : List Addr} {i : Nat} {u : Value}, ReadsAll h us ds as → us[i]? = some u → ∃ d bs, ds[i]? = some d ∧ Reads h u d bs
  | _ :: _, _ :: _, _, 0, _, .cons r _, e => by cases e; exact ⟨_, _, rfl, r⟩
  | _ :: _, _ :: _, _, i + 1, _, .cons _ t, e => readsAll_get (i := i) t e
theorem vals_get {xs : List V} {us : List Value} (r : Vals xs us) {i : Nat} {u : Value} (e : us[i]? = some u) : ∃ x, xs[i]? = some x ∧ RelV x u := by
  induction r generalizing i with
  | nil => cases e
  | cons h t ih =>
    cases i with
    | zero => cases e; exact ⟨_, rfl, h⟩
    | succ i => exact ih e
theorem best_end {X : Cx} {pins : List (Addr × Obj)} {s : Shared} {σ : L2.St} {H : Hp} {Q : VK} (I : Inv X pins σ H s) {xs : List V} {its : List Value} {d g : PyData} {ds : List PyData} {as bs : List Addr} (rv : Vals xs its) (ra : ReadsAll s.heap its (d :: ds) as) (hl : ∀ e ∈ d :: ds, e.canLay0 = true)
    (q : ∀ (i : Nat) (v : V), xs[i]? = some v → (d :: ds)[i]? = some g → Q v H) {i : Nat} {v : Value} {h' : Heap} {tk : Nat} (hi : its[i]? = some v) (rd : Reads h' v g bs) (hk : ∀ b o, s.heap.get? b = some o → h'.get? b = some o) :
    EP X pins σ Q v { s with heap := h', toks := tk } := by
  obtain ⟨x, hx, rx⟩ := vals_get rv hi
  obtain ⟨e, cs, he, re⟩ := readsAll_get ra hi
  have r2 := PyProof.Rows.Reads.keeps hk re
  have hc := hl e (List.mem_of_getElem? he)
  have ee : e = g := SeqAt.Reads.unique e g v _ _ hc r2 rd
  subst ee
  exact ⟨x, H, I.kept hk, rx, q i x hx he⟩
theorem cr_minD {X : Cx} (hc : X.calm = true) (hu : X.A.units + 65 < cLine) : CallR X (.builtin "min") (rBest X.K PySem.W.minD) := by
  intro pins s σ H vs us Q I r h
  obtain ⟨a, xs, d, ds, rfl, hs, hd, hk, q⟩ := h
  obtain ⟨g1, g2, g3⟩ := bestOk_is hk
  rcases hs with hs | hs
  · obtain ⟨its, rv, hl, _⟩ := I.list hs
    rw [Vals.ref1 r]
    obtain ⟨as, ra⟩ := Dp.readsAll I _ _ _ hd rv
    exact PySem.W.min_list_data (I.ok.hd hc) hl.isList (by simpa using ra) g1 (by omega) fun i v h' tk bs hi rd hk => best_end I rv ra g3 q (by simpa using hi) rd hk
  · obtain ⟨its, rv, hl, _⟩ := I.tuple hs
    rw [Vals.ref1 r]
    obtain ⟨as, ra⟩ := Dp.readsAll I _ _ _ hd rv
    exact PySem.W.min_tuple_data (I.ok.hd hc) (show s.heap.IsTuple a its.toArray from hl) (by simpa using ra) g1 (by omega) fun i v h' tk bs hi rd hk => best_end I rv ra g3 q (by simpa using hi) rd hk
theorem cr_maxD {X : Cx} (hc : X.calm = true) (hu : X.A.units + 65 < cLine) : CallR X (.builtin "max") (rBest X.K PySem.W.maxD) := by
  intro pins s σ H vs us Q I r h
  obtain ⟨a, xs, d, ds, rfl, hs, hd, hk, q⟩ := h
  obtain ⟨g1, g2, g3⟩ := bestOk_is hk
  rcases hs with hs | hs
  · obtain ⟨its, rv, hl, _⟩ := I.list hs
    rw [Vals.ref1 r]
    obtain ⟨as, ra⟩ := Dp.readsAll I _ _ _ hd rv
    exact PySem.W.max_list_data (I.ok.hd hc) hl.isList (by simpa using ra) g1 (by omega) fun i v h' tk bs hi rd hk => best_end I rv ra g3 q (by simpa using hi) rd hk
  · obtain ⟨its, rv, hl, _⟩ := I.tuple hs
    rw [Vals.ref1 r]
    obtain ⟨as, ra⟩ := Dp.readsAll I _ _ _ hd rv
    exact PySem.W.max_tuple_data (I.ok.hd hc) (show s.heap.IsTuple a its.toArray from hl) (by simpa using ra) g1 (by omega) fun i v h' tk bs hi rd hk => best_end I rv ra g3 q (by simpa using hi) rd hk
def pyBest (g : PyData → List PyData → PyData) : List PyData → Option PyData
  | [.list (x :: xs)] => if bestOk (x :: xs) = true then some (g x xs) else none
  | [.tuple (x :: xs)] => if bestOk (x :: xs) = true then some (g x xs) else none
  | _ => none
def pyMinA (ds : List PyData) : Option PyData := (pyMin1 ds).or (pyBest PySem.W.minD ds)
def pyMaxA (ds : List PyData) : Option PyData := (pyMax1 ds).or (pyBest PySem.W.maxD ds)
theorem foldl_mem {α : Type} (f : α → α → α) (hf : ∀ a b, f a b = a ∨ f a b = b) : ∀ (xs : List α) (x : α), xs.foldl f x ∈ x :: xs
  | [], x => List.mem_cons_self
  | y :: ys, x => by
    rw [List.foldl_cons]
    have := foldl_mem f hf ys (f x y)
    rcases List.mem_cons.mp this with e | e
    · rw [e]
      rcases hf x y with z | z
      · rw [z]; exact List.mem_cons_self
      · rw [z]; exact List.mem_cons_of_mem _ List.mem_cons_self
    · exact List.mem_cons_of_mem _ (List.mem_cons_of_mem _ e)
theorem r_best {X : Cx} {g : PyData → List PyData → PyData} : RCl X.K (rBest X.K g) (pyBest g) := fun ds z e F H b vs Q fr q k => by
  unfold pyBest at e
  split at e
  · split at e
    · rename_i x xs hk
      cases e
      obtain ⟨v, rfl, p, us, rfl, h1, _, h2⟩ := tops1 q
      refine ⟨p, us, x, xs, rfl, .inl (SqL.of h1), (Rps.mono fr h2).dp, hk, fun i w hw hz => ?_⟩
      obtain ⟨w', hw', hr⟩ := Rps.get h2 hz
      rw [hw] at hw'
      cases hw'
      exact k _ _ _ .refl hr
    · cases e
  · split at e
    · rename_i x xs hk
      cases e
      obtain ⟨v, rfl, h⟩ := tops1 q
      obtain ⟨p, us, rfl, h1, h2⟩ := top_tup fr h
      refine ⟨p, us, x, xs, rfl, .inr h1, (Rps.mono fr h2).dp, hk, fun i w hw hz => ?_⟩
      obtain ⟨w', hw', hr⟩ := Rps.get h2 hz
      rw [hw] at hw'
      cases hw'
      exact k _ _ _ .refl hr
    · cases e
  · cases e
def rCl2 (r1 r2 : List V → Hp → VK → Prop) : List V → Hp → VK → Prop := fun vs H Q => r1 vs H Q ∨ r2 vs H Q
theorem call_or {X : Cx} {v : Value} {r1 r2 : List V → Hp → VK → Prop} (h1 : CallR X v r1) (h2 : CallR X v r2) : CallR X v (rCl2 r1 r2) := fun pins s σ H vs us Q I r h => by
  rcases h with h | h
  · exact h1 pins s σ H vs us Q I r h
  · exact h2 pins s σ H vs us Q I r h
theorem rcl_or {X : Cx} {r1 r2 : List V → Hp → VK → Prop} {f g h : List PyData → Option PyData} (h1 : RCl X.K r1 f) (h2 : RCl X.K r2 g) (hh : ∀ ds z, h ds = some z → f ds = some z ∨ g ds = some z) : RCl X.K (rCl2 r1 r2) h := fun ds z e F H b vs Q fr q k => by
  rcases hh ds z e with e | e
  · exact .inl (h1 ds z e F H b vs Q fr q k)
  · exact .inr (h2 ds z e F H b vs Q fr q k)
theorem or_some {α : Type} {a b : Option α} {z : α} (h : a.or b = some z) : a = some z ∨ b = some z := by
  cases a with
  | none => exact .inr h
  | some x => exact .inl h
theorem cr_minA {X : Cx} (hc : X.calm = true) (hu : X.A.units + 65 < cLine) : CallR X (.builtin "min") (rCl2 (rM1 X.K fun n ns => ns.foldl min n) (rBest X.K PySem.W.minD)) := call_or (cr_min1 hc hu) (cr_minD hc hu)
theorem cr_maxA {X : Cx} (hc : X.calm = true) (hu : X.A.units + 65 < cLine) : CallR X (.builtin "max") (rCl2 (rM1 X.K fun n ns => ns.foldl max n) (rBest X.K PySem.W.maxD)) := call_or (cr_max1 hc hu) (cr_maxD hc hu)
theorem r_minA {X : Cx} : RCl X.K (rCl2 (rM1 X.K fun n ns => ns.foldl min n) (rBest X.K PySem.W.minD)) pyMinA := rcl_or r_m1 r_best fun ds z e => or_some e
theorem r_maxA {X : Cx} : RCl X.K (rCl2 (rM1 X.K fun n ns => ns.foldl max n) (rBest X.K PySem.W.maxD)) pyMaxA := rcl_or r_m1 r_best fun ds z e => or_some e
end Dn

set_option Elab.async false
set_option linter.all false
set_option autoImplicit false
set_option maxRecDepth 100000
set_option maxHeartbeats 4000000
namespace Dn
open PySem PySem.Spec PyProof.Rows L2
/-! ### xs.extend(ys): a list or a tuple behind one's own list -/
section
open PySem.SeqAt
open PySem.AutoSeq1 (wpAny_loadPart')
open PySem.MeetsSeq PySem.MeetsSeq2 PySem.MeetsSeq3
theorem ext_tup (l : Addr) (items : Array Value) (n : Nat) (b : Addr) (items2 : Array Value) (n2 : Nat) (dd : Option Addr) (sl : Array (Option Value)) (hs0 : ¬(!items.isEmpty && Builtin.List.listTooLong (items.size + items2.size)) = true) (hs1 : items.size ≤ sizeLine) (hs2 : items.size + items2.size ≤ sizeLine + 1) :
    Meets (Builtin.«list.extend» ⟨[.ref l, .ref b], []⟩) (fun _ R s => s.heap.get? l = some { cls := .type "list", dict := none, data := .seq items n, slots := #[] } ∧ s.heap.get? b = some { cls := .type "tuple", dict := dd, data := .seq items2 n2, slots := sl } ∧ R (.ok (.ret Value.none)) { s with heap := s.heap.update l (Obj.mapSeq fun x => x ++ items2), toks := s.toks }) :=
  .of_wp fun prog w A R s h => by
    obtain ⟨hp, g, d, tk, os⟩ := s; obtain ⟨hl, hb, h⟩ := h
    have f2 := AutoSeq1.sub_tuple_tuple; have f3 := AutoSeq1.sub_list_list; have f4 := AutoSeq1.sub_tuple_list; have f5 := AutoSeq1.sub_list_tuple
    have hz' : (items ++ items2).size ≤ sizeLine + 1 := by rw [Array.size_append]; exact hs2
    wp_walk using (wpAny_updateSeq hl rfl (hz := hs1) (_hz' := hz')), wpAny_loadPart' hl, wpAny_loadPart' hb; exact ⟨_, rfl, h⟩
end
def rExtB (K : Frg) : V → List V → Hp → VK → Prop := fun x vs H Q => ∃ l b xs zs, x = .ref l ∧ vs = [.ref b] ∧ H l = some (.lst xs) ∧ (H b = some (.lst zs) ∨ SqT K H b zs) ∧ xs.length + zs.length ≤ sizeLine ∧ Q .non (upd H l (.lst (xs ++ zs)))
theorem mt_extB {X : Cx} : MtM X "list.extend" (rExtB X.K) := by
  intro pins s σ H x vs v us Q I rx rv h
  obtain ⟨l, b, xs, zs, rfl, rfl, hH, hB, hz, q⟩ := h
  rcases hB with hB | hB
  · exact mt_extend pins s σ H _ _ _ _ Q I rx rv ⟨l, b, xs, zs, rfl, rfl, hH, hB, hz, q⟩
  cases rx
  obtain ⟨u, rfl, ru⟩ := rv.one
  cases ru
  obtain ⟨z, its, n, r, hl, e⟩ := I.lstM hH
  obtain ⟨its2, r2, ht, hl2⟩ := I.tuple hB
  obtain ⟨⟨cls2, dd2, data2, sl2⟩, ho2, hc2, n2, hd2⟩ := id ht
  simp only at hc2 hd2
  subst hc2 hd2
  have z2 : its2.length = zs.length := r2.length.symm
  have hsz : its.toArray.size + its2.toArray.size ≤ sizeLine := by rw [List.size_toArray, List.size_toArray]; omega
  have hlong : ¬ (!its.toArray.isEmpty && Builtin.List.listTooLong (its.toArray.size + its2.toArray.size)) = true := by
    rw [notLongL hsz, Bool.and_false]
    exact Bool.false_ne_true
  refine call_meets F.slot_list_extend ⟨_, e, rfl⟩ F.entry_list_extend (F.args_list_extend_2 _ _)
    (ext_tup l its.toArray n b its2.toArray n2 dd2 sl2 hlong (by rw [List.size_toArray]; omega) (by omega)) ⟨e, ho2, ?_⟩
  refine ⟨.non, _, I.lset (its' := its ++ its2) hH e (by simp) (r.append r2) ?_, rfl, q⟩
  rw [List.length_append]
  omega
def dExtB (j : Nat) (d : DE) : DS := fun sl B => (d sl B).bind fun p => match p.1, sl[j]? with
  | .list zs, some (some (.own xs)) => if xs.length + zs.length ≤ sizeLine then some (.nx (sl.set j (some (.own (xs ++ zs)))) p.2) else none
  | .tuple zs, some (some (.own xs)) => if xs.length + zs.length ≤ sizeLine then some (.nx (sl.set j (some (.own (xs ++ zs)))) p.2) else none
  | _, _ => none
section
variable {X : Cx} {C : Fx} {e : Expr} {d : DE} {pos : Pos}
theorem s_extB (j : Nat) (h : PE X e (tBM X.K "list" (rExtB X.K) (tVar j) (tCons (liftO X.K C d) tNil))) (hs : swapsWith e none pos.line X.env = pure false := by rfl) :
    PS X (.Expr e pos) (liftS X.K C (dExtB j d)) := imp_s (fun D σ H ⟨sl, B, F, b, o, R, e, k⟩ => by
  obtain ⟨⟨u, B1⟩, e1, e⟩ := bnd e
  split at e
  · rename_i zs xs hu hx
    have hu' : u = .list zs := hu
    subst hu'
    split at e
    · rename_i hz
      cases e
      obtain ⟨v, ev, a, vs, rfl, g1, g2, g3, g4⟩ := R.slt j _ hx
      refine ⟨_, ev, .inl ⟨rfl, _, SqL.of g1⟩, sl, B, F, b, _, B1, R, e1, fun y H1 F1 b1 R1 S1 q1 => ?_⟩
      obtain ⟨p, us, rfl, h1, h2, h3⟩ := q1
      refine ⟨a, p, vs, us, rfl, rfl, S1.pr a _ g1 g4, .inl h1, by rw [g2.length, h3.length]; exact hz, ?_⟩
      exact k F1 b1 σ _ (R1.chg hx ev (Rps.append (Rps.mono S1.ex g2) h3)) S1.ex
    · cases e
  · rename_i zs xs hu hx
    have hu' : u = .tuple zs := hu
    subst hu'
    split at e
    · rename_i hz
      cases e
      obtain ⟨v, ev, a, vs, rfl, g1, g2, g3, g4⟩ := R.slt j _ hx
      refine ⟨_, ev, .inl ⟨rfl, _, SqL.of g1⟩, sl, B, F, b, _, B1, R, e1, fun y H1 F1 b1 R1 S1 q1 => ?_⟩
      have q2 : Rp X.K F1 y (.tuple zs) := q1
      cases q2 with
      | @tup p us _ h2 h3 =>
        refine ⟨a, p, vs, us, rfl, rfl, S1.pr a _ g1 g4, .inr (R1.fro.sqT h2), by rw [g2.length, h3.length]; exact hz, ?_⟩
        exact k F1 b1 σ _ (R1.chg hx ev (Rps.append (Rps.mono S1.ex g2) h3)) S1.ex
    · cases e
  · cases e) (ps_expr h hs)
end
end Dn

set_option Elab.async false
set_option linter.all false
set_option autoImplicit false
set_option maxRecDepth 100000
set_option maxHeartbeats 4000000
namespace Dn
open PySem PySem.Spec PyProof.Rows L2
/-! ### a value that is never asked for -/
def dNo : DE := fun _ _ => none
theorem e_no {X : Cx} {C : Fx} {e : Expr} : PE X e (liftE X.K C dNo) := ⟨fun pins s σ H Q I ⟨sl, B, F, b, r, B', R, e, kk⟩ => by cases e⟩
/-! ### x[i] = v, x[i] op= v of one's own list -/
def dSetL (j : Nat) (di dv : DE) : DS := fun sl B => (dv sl B).bind fun p => (di sl p.2).bind fun q => match q.1, sl[j]? with
  | .int k, some (some (.own xs)) => (ixN xs.length k).map fun m => .nx (sl.set j (some (.own (xs.set m p.1)))) q.2
  | _, _ => none
def dAugL (f : Int → Int → Int) (j : Nat) (di dv : DE) : DS := fun sl B => (di sl B).bind fun q => match q.1, sl[j]? with
  | .int k, some (some (.own xs)) => (ixN xs.length k).bind fun m => match xs[m]? with
    | some (.int a) => (dv sl q.2).bind fun p => match p.1 with
      | .int c => some (.nx (sl.set j (some (.own (xs.set m (.int (f a c)))))) p.2)
      | _ => none
    | _ => none
  | _, _ => none
section
variable {X : Cx} {C : Fx} {i e : Expr} {di dv : DE} {x : Str} {px tp pos : Pos}
theorem s_setL (j : Nat) (hv : PE X (.Name x px) (tVar j)) (hi : PE X i (liftE X.K C di)) (he : PE X e (liftE X.K C dv))
    (hs : swapsWithSole [.Subscript (.Name x px) i tp] e pos.line X.env = pure false := by rfl) (hw : swappedStores [.Subscript (.Name x px) i tp] e X.env = pure none := by rfl)
    (h1 : (assignEach [.Subscript (.Name x px) i tp] X.env).map (·.2) = [assign (.Subscript (.Name x px) i tp) X.env] := by rfl)
    (ha : ∀ v, assign (.Subscript (.Name x px) i tp) X.env v = (do
      let ov ← holding [v] (eval (.Name x px) X.env)
      let iv ← holding [v, ov] (eval i X.env)
      standAt tp
      holding [v, ov, iv] (setItem ov iv v)
      release [v, ov, iv] []) := by intro _; rfl) :
    PS X (.Assign [.Subscript (.Name x px) i tp] e pos) (liftS X.K C (dSetL j di dv)) := imp_s (fun D σ H ⟨sl, B, F, b, o, R, e, k⟩ => by
  obtain ⟨⟨u, B1⟩, e1, e⟩ := bnd e
  obtain ⟨⟨w, B2⟩, e2, e⟩ := bnd e
  split at e
  · rename_i kk xs hk hx
    have hk' : w = .int kk := hk
    subst hk'
    obtain ⟨m, e3, e⟩ := mpd e
    cases e
    refine ⟨sl, B, F, b, u, B1, R, e1, fun v H1 F1 b1 R1 S1 q1 => ?_⟩
    obtain ⟨v0, ev, a, vs, rfl, g1, g2, g3, g4⟩ := R1.slt j _ hx
    refine ⟨_, ev, sl, B1, F1, b1, _, B2, R1, e2, fun y H2 F2 b2 R2 S2 q2 => ?_⟩
    cases (show Rp X.K F2 y (.int kk) from q2)
    refine ⟨a, vs, kk, m, rfl, rfl, S2.pr a _ g1 g4, by rw [g2.length]; exact e3, ?_⟩
    exact k F2 b2 σ _ (R2.chg hx ev (Rps.set (Rp.mono S2.ex q1) m (Rps.mono S2.ex g2))) (S1.ex.trans S2.ex)
  · cases e) (ps_asg he (pg_sub hv hi set_list (ha := ha)) hs hw h1)
theorem get_list {X : Cx} : PGet X (fun o i H Q => ∃ p xs k y, o = .ref p ∧ i = .int k ∧ H p = some (.lst xs) ∧ atI xs k = some y ∧ Q y H) := by
  intro pins s σ H o i ov iv Q I ro ri h
  obtain ⟨p, xs, k, y, rfl, rfl, hp, he, q⟩ := h
  cases ro
  obtain ⟨t, rfl⟩ := ri
  obtain ⟨its, r, pl, hz⟩ := I.list (SqL.of hp)
  obtain ⟨j, h1, h2, h3, h4, h5⟩ := atI_get he
  obtain ⟨w, ew, rw'⟩ := r.get h2
  have hl := r.length
  have hn := line63
  have fin : EP X pins σ Q w s := ⟨y, H, I, rw', q⟩
  by_cases h0 : 0 ≤ k
  · have hj : k.toNat = j := by
      rw [seqIndex_of h0 h5] at h1
      exact Option.some.inj h1
    exact wpAny_getItem_list pl.isList h0 (by omega) (by rw [hj]; simpa using ew) fin
  · have hj : (k + (its.toArray.size : Int)).toNat = j := by
      rw [seqIndex_neg (by omega) h4] at h1
      rw [List.size_toArray, ← hl]
      exact Option.some.inj h1
    exact wpAny_getItem_list_neg pl.isList (by omega) (by rw [List.size_toArray] <;> omega) (by omega) (by rw [hj]; simpa using ew) fin
theorem s_augLi (j : Nat) {f : Int → Int → Int} {op : Operator} (ho : PIp X op (ipI f)) (hv : PE X (.Name x px) (tVar j)) (hi : PE X i (liftE X.K C di)) (he : PE X e (liftE X.K C dv))
    (ha : ∀ ov iv new, augStore i ov iv new = (do holding [new, ov, iv] (setItem ov iv new); release [new, ov, iv] []; pure .next) := by intros; rfl) :
    PS X (.AugAssign (.Subscript (.Name x px) i tp) op e pos) (liftS X.K C (dAugL f j di dv)) := imp_s (fun D σ H ⟨sl, B, F, b, o, R, e, k⟩ => by
  obtain ⟨⟨w, B1⟩, e1, e⟩ := bnd e
  split at e
  · rename_i kk xs hk hx
    have hk' : w = .int kk := hk
    subst hk'
    obtain ⟨m, e3, e⟩ := bnd e
    split at e
    · rename_i a0 hm
      obtain ⟨⟨u, B2⟩, e2, e⟩ := bnd e
      split at e
      · rename_i c hc
        have hc' : u = .int c := hc
        subst hc'
        cases e
        obtain ⟨v0, ev, a, vs, rfl, g1, g2, g3, g4⟩ := R.slt j _ hx
        refine ⟨_, ev, sl, B, F, b, _, B1, R, e1, fun y H1 F1 b1 R1 S1 q1 => ?_⟩
        cases (show Rp X.K F1 y (.int kk) from q1)
        obtain ⟨vy, hy1, hy2⟩ := g2.get hm
        cases (show Rp X.K F vy (.int a0) from hy2)
        refine ⟨a, vs, kk, _, rfl, rfl, S1.pr a _ g1 g4, by unfold atI; rw [g2.length, e3]; exact hy1, sl, B1, F1, b1, _, B2, R1, e2, fun z H2 F2 b2 R2 S2 q2 => ?_⟩
        cases (show Rp X.K F2 z (.int c) from q2)
        refine ⟨a0, c, rfl, rfl, a, vs, kk, m, rfl, rfl, S2.pr a _ (S1.pr a _ g1 g4) (nb_of S1 g1 g4), by rw [g2.length]; exact e3, ?_⟩
        exact k F2 b2 σ _ (R2.chg hx ev (Rps.set (.int _) m (Rps.mono S2.ex (Rps.mono S1.ex g2)))) (S1.ex.trans S2.ex)
      · cases e
    · cases e
  · cases e) (ps_augS hv hi get_list he ho set_list (ha := ha))
end
end Dn

set_option Elab.async false
set_option linter.all false
set_option autoImplicit false
set_option maxRecDepth 100000
set_option maxHeartbeats 4000000
namespace Dn
open PySem PySem.Spec PyProof.Rows L2
/-! ### zip of three -/
def ysZ3 (z1 z2 z3 : Src) (i : Nat) : List V := [z1.vs.getD i .non, z2.vs.getD i .non, z3.vs.getD i .non]
theorem turn_zipS3 {P : Program} {w : World} {K : Frg} {elts : List Expr} {kk : Nat} {tpos : Pos} (z1 z2 z3 : Src) (N : Nat) (h1 : z1.a < N) (h2 : z2.a < N) (h3 : z3.a < N) :
    Turn P w K (.Tuple elts kk tpos) (ItS K [z1, z2, z3] (min (min z1.vs.length z2.vs.length) z3.vs.length) (ysZ3 z1 z2 z3)) [N + 5, N + 3, N + 4, N, N + 1, N + 2] (N + 5)
      (fun i h => IsZip h (N + 5) (N + 3) (N + 4) .none ∧ IsTupOf3 h (N + 3) (.ref N) (.ref (N + 1)) (.ref (N + 2)) ∧ (∃ a1 a2 a3, IsTupOf3 h (N + 4) a1 a2 a3) ∧ SrcAt h N z1 i ∧ SrcAt h (N + 1) z2 i ∧ SrcAt h (N + 2) z3 i) := by
  refine turn_gen (by simp) (fun i h st b hb => ?_) (fun i h h' st k => ?_) (fun A i s Q E st h => ?_) (fun i => by show 3 ≤ 3; decide) fun X hP hw hK hc pins s σ H I hs i st => ?_
  · obtain ⟨hz, hT, ⟨x, y, u, hTO⟩, q1, q2, q3⟩ := st
    rcases (by simpa using hb : b = N + 5 ∨ b = N + 3 ∨ b = N + 4 ∨ b = N ∨ b = N + 1 ∨ b = N + 2) with q | q | q | q | q | q
    · rw [q]; exact ⟨_, hz, fun v t => nomatch t⟩
    · rw [q]; exact ⟨_, hT, fun v t => nomatch t⟩
    · rw [q]; exact ⟨_, hTO, fun v t => nomatch t⟩
    · rw [q]; exact src_obj q1
    · rw [q]; exact src_obj q2
    · rw [q]; exact src_obj q3
  · obtain ⟨hz, hT, ⟨x, y, u, hTO⟩, q1, q2, q3⟩ := st
    exact ⟨k _ (by simp) _ hz, k _ (by simp) _ hT, ⟨x, y, u, k _ (by simp) _ hTO⟩, src_keep q1 (fun o q => k _ (by simp) o q), src_keep q2 (fun o q => k _ (by simp) o q), src_keep q3 (fun o q => k _ (by simp) o q)⟩
  · exact wpAny_pyIter_zip st.1 h
  · subst hP hw hK
    obtain ⟨hz, hT, hTO, q1, q2, q3⟩ := st
    obtain ⟨its1, rv1, hI1, _⟩ := src_items I (hs z1 (by simp))
    obtain ⟨its2, rv2, hI2, _⟩ := src_items I (hs z2 (by simp))
    obtain ⟨its3, rv3, hI3, _⟩ := src_items I (hs z3 (by simp))
    have hcc : X.A.in1.handled = none := I.ok.hd hc
    have D1 : Draws X.prog X.w X.A.in1 N [N, z1.a] its1.toArray.size (fun i v => its1.toArray[i]? = some v) (fun i h => SrcAt h N z1 i ∧ SrcI h z1 its1.toArray) := src_draws hcc N z1 (Nat.ne_of_lt h1) its1.toArray
    have D2 : Draws X.prog X.w X.A.in1 (N + 1) [N + 1, z2.a] its2.toArray.size (fun i v => its2.toArray[i]? = some v) (fun i h => SrcAt h (N + 1) z2 i ∧ SrcI h z2 its2.toArray) := src_draws hcc (N + 1) z2 (Nat.ne_of_lt (Nat.lt_succ_of_lt h2)) its2.toArray
    have D3 : Draws X.prog X.w X.A.in1 (N + 2) [N + 2, z3.a] its3.toArray.size (fun i v => its3.toArray[i]? = some v) (fun i h => SrcAt h (N + 2) z3 i ∧ SrcI h z3 its3.toArray) := src_draws hcc (N + 2) z3 (Nat.ne_of_lt (Nat.lt_succ_of_lt (Nat.lt_succ_of_lt h3))) its3.toArray
    have S : ZipSep3 (N + 5) (N + 3) (N + 4) N (N + 1) (N + 2) (N :: [z1.a]) ((N + 1) :: [z2.a]) ((N + 2) :: [z3.a]) := zip_sep3 (fun b hb => by rw [List.mem_singleton.mp hb]; exact h1) (fun b hb => by rw [List.mem_singleton.mp hb]; exact h2) (fun b hb => by rw [List.mem_singleton.mp hb]; exact h3)
    have W := GoesN.zip3 (elts := elts) (x1 := kk) (pos := tpos) S D1 D2 D3
    have e1 : its1.toArray.size = z1.vs.length := by rw [List.size_toArray, ← rv1.length]
    have e2 : its2.toArray.size = z2.vs.length := by rw [List.size_toArray, ← rv2.length]
    have e3 : its3.toArray.size = z3.vs.length := by rw [List.size_toArray, ← rv3.length]
    rw [e1, e2, e3] at W
    refine ⟨_, _, _, W.mono fun i h0 v h hi' ⟨T, x, y, u, ev, hT, hx, hy, hu, ht⟩ => ⟨T, [x, y, u], ev, hT, ?_, ht⟩, fun b hb => by
      rcases (by simpa using hb : b = N + 5 ∨ b = N + 4 ∨ b = N ∨ b = N + 1 ∨ b = N + 2) with q | q | q | q | q <;> simp [q], ⟨hz, hT, hTO, ⟨q1, hI1⟩, ⟨q2, hI2⟩, ⟨q3, hI3⟩⟩, fun j h ⟨k1, k2, k3, k4, k5, k6⟩ => ⟨k1, k2, k3, k4.1, k5.1, k6.1⟩⟩
    exact .cons (vals_getD rv1 hx) (.cons (vals_getD rv2 hy) (.cons (vals_getD rv3 hu) .nil))
def zipD3 : List PyData → List PyData → List PyData → List PyData
  | x :: xs, y :: ys, z :: zs => .tuple [x, y, z] :: zipD3 xs ys zs
  | _, _, _ => []
theorem zipD3_get : ∀ (xs ys zs : List PyData) (i : Nat) (x : PyData), (zipD3 xs ys zs)[i]? = some x → ∃ a b c, xs[i]? = some a ∧ ys[i]? = some b ∧ zs[i]? = some c ∧ x = .tuple [a, b, c]
  | [], _, _, _, _, h => by cases h
  | _ :: _, [], _, _, _, h => by cases h
  | _ :: _, _ :: _, [], _, _, h => by cases h
  | a :: xs, b :: ys, c :: zs, 0, x, h => by
    cases h
    exact ⟨a, b, c, rfl, rfl, rfl, rfl⟩
  | a :: xs, b :: ys, c :: zs, i + 1, x, h => zipD3_get xs ys zs i x h
theorem zipD3_length : ∀ (xs ys zs : List PyData), (zipD3 xs ys zs).length = min (min xs.length ys.length) zs.length
  | [], _, _ => by simp [zipD3]
  | _ :: _, [], _ => by simp [zipD3]
  | _ :: _, _ :: _, [] => by simp [zipD3]
  | _ :: xs, _ :: ys, _ :: zs => by rw [zipD3, List.length_cons, List.length_cons, List.length_cons, List.length_cons, zipD3_length xs ys zs]; omega
def dZip3 (d d2 d3 : DE) : DL := fun sl B => (dSeq' d sl B).bind fun p => (dSeq' d2 sl p.2).bind fun q => (dSeq' d3 sl q.2).map fun r => (zipD3 p.1 q.1 r.1, r.2)
theorem lt_of_get {α : Type} {xs : List α} {i : Nat} {a : α} (h : xs[i]? = some a) : i < xs.length := by
  rcases Nat.lt_or_ge i xs.length with q | q
  · exact q
  · rw [List.getElem?_eq_none q] at h; cases h
theorem wk_zip3 {K : Frg} {F : Hp} {P : Hp → Prop} {z1 z2 z3 : Src} {xs ys us : List PyData} (hp : ∀ F' H', Ext F F' → Ext F' H' → P H' → SrcH K H' z1 ∧ SrcH K H' z2 ∧ SrcH K H' z3) (r1 : Rps K F z1.vs xs) (r2 : Rps K F z2.vs ys) (r3 : Rps K F z3.vs us) :
    Wk K F P (ItS K [z1, z2, z3] (min (min z1.vs.length z2.vs.length) z3.vs.length) (ysZ3 z1 z2 z3)) (zipD3 xs ys us) := fun i F' H' h1 h2 h3 => by
  have hs : ∀ y ∈ [z1, z2, z3], SrcH K H' y := fun y hy => by
    rcases (by simpa using hy : y = z1 ∨ y = z2 ∨ y = z3) with q | q | q
    · rw [q]; exact (hp F' H' h1 h2 h3).1
    · rw [q]; exact (hp F' H' h1 h2 h3).2.1
    · rw [q]; exact (hp F' H' h1 h2 h3).2.2
  refine ⟨fun x hx => ?_, fun hx => ⟨by rw [hx, zipD3_length, r1.length, r2.length, r3.length], hs⟩⟩
  obtain ⟨a, b, c, e1, e2, e4, e3⟩ := zipD3_get xs ys us i x hx
  refine ⟨⟨by rw [r1.length, r2.length, r3.length]; exact Nat.lt_min.mpr ⟨Nat.lt_min.mpr ⟨lt_of_get e1, lt_of_get e2⟩, lt_of_get e4⟩, hs⟩, fun v H2 ⟨T, ev, hT, eH⟩ => ?_⟩
  subst ev eH e3
  exact al_tup h2 hT (.cons (Rp.mono h1 (rps_getD r1 e1)) (.cons (Rp.mono h1 (rps_getD r2 e2)) (.one (Rp.mono h1 (rps_getD r3 e4)))))
section
variable {X : Cx} {C : Fx} {l l2 l3 : Expr} {d d2 d3 : DE} {p pos tpos : Pos} {elts : List Expr} {kk : Nat}
theorem zip_run3 {pins : List (Addr × Obj)} {σ : L2.St} {H : Hp} {s1 : Shared} {Rr : It → Hp → Prop} {E : Value → Shared → Prop} (I : Inv X pins σ H s1) (z1 z2 z3 : Src) (hz1 : SrcH X.K H z1) (hz2 : SrcH X.K H z2) (hz3 : SrcH X.K H z3) (q : Rr (ItS X.K [z1, z2, z3] (min (min z1.vs.length z2.vs.length) z3.vs.length) (ysZ3 z1 z2 z3)) H) :
    wpAny (model X.prog X.w) X.A (call (.type "zip") [.ref z1.a, .ref z2.a, .ref z3.a]) (fun v s2 => wpAny (model X.prog X.w) X.A (pyIter v) (PIE X pins σ (.Tuple elts kk tpos) Rr) E s2) E s1 := by
  obtain ⟨its1, rv1, hI1, hlt1⟩ := src_items I hz1
  obtain ⟨its2, rv2, hI2, hlt2⟩ := src_items I hz2
  obtain ⟨its3, rv3, hI3, hlt3⟩ := src_items I hz3
  refine zip_begins3 (src_begins z1 its1.toArray) (src_begins z2 its2.toArray) (src_begins z3 its3.toArray) hI1 hI2 hI3 fun h' hz hTI hTO h1 h2 h3 _ hk => wpAny_pyIter_zip hz ?_
  have I2 : Inv X pins σ H { s1 with heap := h' } := I.kept (t' := s1.toks) hk
  refine ⟨s1.heap.objs.size + 5, [s1.heap.objs.size + 5, s1.heap.objs.size + 3, s1.heap.objs.size + 4, s1.heap.objs.size, s1.heap.objs.size + 1, s1.heap.objs.size + 2], _, _, H, rfl, I2, turn_zipS3 z1 z2 z3 _ hlt1 hlt2 hlt3, ⟨hz, hTI, ⟨_, _, _, hTO⟩, src_at h1, src_at h2, src_at h3⟩, fun c hc => ?_, q⟩
  have hle : s1.heap.objs.size ≤ c := by
    rcases (by simpa using hc : c = s1.heap.objs.size + 5 ∨ c = s1.heap.objs.size + 3 ∨ c = s1.heap.objs.size + 4 ∨ c = s1.heap.objs.size ∨ c = s1.heap.objs.size + 1 ∨ c = s1.heap.objs.size + 2) with q | q | q | q | q | q <;> rw [q] <;> first | exact Nat.le_add_right _ _ | exact Nat.le_refl _
  exact I.fpOk hle (I.hok.fresh hle)
theorem i_zip3 (hm : X.mg "zip" = none) (h : PE X l (liftE X.K C d)) (h2 : PE X l2 (liftE X.K C d2)) (h3 : PE X l3 (liftE X.K C d3)) (hg : Gl X "zip" := by rfl) (hs : starEach [l, l2, l3] X.env = (false, eval l X.env) :: starEach [l2, l3] X.env := by rfl) (hpl : (backTo pos (starEach [l2, l3] X.env)).any (·.1) = false := by rfl)
    (hs2 : starEach [l2, l3] X.env = (false, eval l2 X.env) :: starEach [l3] X.env := by rfl) (hs3 : starEach (l3 :: []) X.env = (false, eval l3 X.env) :: starEach [] X.env := by rfl) : PI X (.Tuple elts kk tpos) (.Call (.Name "zip" p) [l, l2, l3] [] pos) (liftI X.K C (dZip3 d d2 d3)) := ⟨fun pins s σ H Rr I ⟨sl, B, F, b, xs, B', R, e, k⟩ => by
  obtain ⟨⟨xs1, B1⟩, e1, e⟩ := bnd e
  obtain ⟨⟨xs2, B2⟩, e2, e⟩ := bnd e
  obtain ⟨⟨xs3, B3⟩, e3, e⟩ := mpd e
  cases e
  obtain ⟨x, e4, e5⟩ := dSeq_inv e1
  obtain ⟨y, e6, e7⟩ := dSeq_inv e2
  obtain ⟨u, e8, e9⟩ := dSeq_inv e3
  refine Call_ (ld_blt I hg hm PyProof.Rows.boot_zip (PyProof.Rows.callWith_type1 (thn ((pa_cons h (pa_cons h2 (pa_cons h3 pa_nil hs3) hs2) hs).run pos pins s σ H (fun vs H' => ∃ F' b', Rel X.K C sl B3 F' b' σ H' ∧ Stp F b H F' b' H' ∧ ∃ v1 v2 v3, vs = [v1, v2, v3] ∧ Rp X.K F' v1 x ∧ Rp X.K F' v2 y ∧ Rp X.K F' v3 u) I ⟨sl, B, F, b, x, B1, R, e4, fun v H' F' b' R' S' q => ⟨sl, B1, F', b', y, _, R', e6, fun v2 H2 F2 b2 R2 S2 q2 => ⟨sl, B2, F2, b2, u, _, R2, e8, fun v3 H3 F3 b3 R3 S3 q3 => ⟨F3, b3, R3, (S'.trans S2).trans S3, v, v2, v3, rfl, Rp.mono S3.ex (Rp.mono S2.ex q), Rp.mono S3.ex q2, q3⟩⟩⟩⟩) fun us s1 ⟨vs, H1, I1, r1, q1⟩ => ?_) hs hpl))
  obtain ⟨F1, b1, R1, S1, v, v2, v3, rfl, q1, q2, q3⟩ := q1
  obtain ⟨z, ev, hz, rz, kz⟩ := src_ofE R1.fro q1 e5
  obtain ⟨z2, ev2, hz2, rz2, kz2⟩ := src_ofE R1.fro q2 e7
  obtain ⟨z3, ev3, hz3, rz3, kz3⟩ := src_ofE R1.fro q3 e9
  subst ev ev2 ev3
  cases r1 with
  | cons ra rb =>
    cases rb with
    | cons rb rc =>
      cases rc with
      | cons rc rd =>
        cases rd
        cases ra
        cases rb
        cases rc
        exact zip_run3 I1 z z2 z3 hz hz2 hz3 (k _ H1 F1 b1 R1 S1 (wk_zip3 (fun F' H' g1 g2 g3 => ⟨kz F' H' g1 g2 g3, kz2 F' H' g1 g2 g3, kz3 F' H' g1 g2 g3⟩) rz rz2 rz3))⟩
end
end Dn

set_option Elab.async false
set_option linter.all false
set_option autoImplicit false
set_option maxRecDepth 100000
set_option maxHeartbeats 4000000
namespace Dn
open PySem PySem.Spec PyProof.Rows L2
/-! ### xs.insert(i, v) of one's own list -/
def rIns : V → List V → Hp → VK → Prop := fun x vs H Q => ∃ (l : Addr) (xs : List V) (i : Int) (y : V), x = .ref l ∧ vs = [.int i, y] ∧ H l = some (.lst xs) ∧ xs.length < sizeLine ∧ 0 ≤ i ∧ i < 2 ^ 63 ∧
    Q .non (upd H l (.lst (xs.take i.toNat ++ [y] ++ xs.drop i.toNat)))
theorem mt_ins {X : Cx} : MtM X "list.insert" rIns := mt_insert
def dIns (j : Nat) (di dv : DE) : DS := fun sl B => (di sl B).bind fun p => (dv sl p.2).bind fun q => match p.1, sl[j]? with
  | .int k, some (some (.own xs)) => if 0 ≤ k ∧ k < 2 ^ 63 ∧ xs.length < sizeLine then some (.nx (sl.set j (some (.own (xs.take k.toNat ++ [q.1] ++ xs.drop k.toNat)))) q.2) else none
  | _, _ => none
/-! ### xs.pop() of one's own list, its value kept under a name or let go -/
def popD (xs : List PyData) : Option (PyData × List PyData) := (xs[xs.length - 1]?).map fun y => (y, xs.dropLast)
def dPopA (i j : Nat) : DS := fun sl B => match sl[j]? with
  | some (some (.own xs)) => (popD xs).map fun p => .nx ((sl.set j (some (.own p.2))).set i (some (.dat p.1))) B
  | _ => none
def dPopS (j : Nat) : DS := fun sl B => match sl[j]? with
  | some (some (.own xs)) => (popD xs).map fun p => .nx (sl.set j (some (.own p.2))) B
  | _ => none
/-! ### str(n) -/
def pyStr : List PyData → Option PyData
  | [.int i] => if i.natAbs.log2 < 1920 then some (.str (PySem.Str.ofString (toString i))) else none
  | _ => none
section
variable {X : Cx} {C : Fx} {e : Expr} {di dv : DE} {pos : Pos}
theorem r_str : RCl X.K (fun xs H Q => ∃ i, xs = [V.int i] ∧ i.natAbs.log2 < 1920 ∧ Q (.str (PySem.Str.ofString (toString i))) H) pyStr := fun ds z e F H b vs Q fr q k => by
  unfold pyStr at e
  split at e
  · rename_i i
    split at e
    · rename_i hl
      cases e
      obtain ⟨v, rfl, h⟩ := tops1 q
      rw [top_int h]
      exact ⟨_, rfl, hl, k _ _ _ .refl (.str _)⟩
    · cases e
  · cases e
theorem cr_str : CallR X (.type "str") (fun xs H Q => ∃ i, xs = [V.int i] ∧ i.natAbs.log2 < 1920 ∧ Q (.str (PySem.Str.ofString (toString i))) H) := call_str_int
theorem s_ins (j : Nat) (h : PE X e (tBM X.K "list" rIns (tVar j) (tCons (liftE X.K C di) (tCons (liftE X.K C dv) tNil)))) (hs : swapsWith e none pos.line X.env = pure false := by rfl) :
    PS X (.Expr e pos) (liftS X.K C (dIns j di dv)) := imp_s (fun D σ H ⟨sl, B, F, b, o, R, e, k⟩ => by
  obtain ⟨⟨u, B1⟩, e1, e⟩ := bnd e
  obtain ⟨⟨w, B2⟩, e2, e'⟩ := bnd e
  clear e
  split at e'
  · rename_i kk xs hk hx
    have hk' : u = .int kk := hk
    subst hk'
    split at e'
    · rename_i hz
      cases e'
      obtain ⟨v, ev, a, vs, rfl, g1, g2, g3, g4⟩ := R.slt j _ hx
      refine ⟨_, ev, .inl ⟨rfl, _, SqL.of g1⟩, sl, B, F, b, _, B1, R, e1, fun y H1 F1 b1 R1 S1 q1 => ?_⟩
      cases (show Rp X.K F1 y (.int kk) from q1)
      refine ⟨sl, B1, F1, b1, _, B2, R1, e2, fun y2 H2 F2 b2 R2 S2 q2 => ?_⟩
      refine ⟨a, vs, kk, y2, rfl, rfl, S2.pr a _ (S1.pr a _ g1 g4) (nb_of S1 g1 g4), by rw [g2.length]; exact hz.2.2, hz.1, hz.2.1, ?_⟩
      have g2' := Rps.mono S2.ex (Rps.mono S1.ex g2)
      exact k F2 b2 σ _ (R2.chg hx ev (Rps.append (Rps.append (Rps.take _ g2') (.one q2)) (Rps.drop _ g2'))) (S1.ex.trans S2.ex)
    · cases e'
  · cases e') (ps_expr h hs)
theorem Rps.dropLast {K : Frg} {F : Hp} {vs : List V} {ds : List PyData} (h : Rps K F vs ds) : Rps K F vs.dropLast ds.dropLast := by
  rw [List.dropLast_eq_take, List.dropLast_eq_take, h.length]
  exact Rps.take _ h
theorem s_popS (j : Nat) (h : PE X e (tBM0 X.K "list" rPop (tVar j))) (hs : swapsWith e none pos.line X.env = pure false := by rfl) :
    PS X (.Expr e pos) (liftS X.K C (dPopS j)) := imp_s (fun D σ H ⟨sl, B, F, b, o, R, e, k⟩ => by
  unfold dPopS at e
  split at e
  · rename_i xs hx
    obtain ⟨⟨y, ys⟩, e1, e⟩ := mpd e
    obtain ⟨z, e2, e1⟩ := mpd e1
    cases e1
    cases e
    obtain ⟨v, ev, a, vs, rfl, g1, g2, g3, g4⟩ := R.slt j _ hx
    obtain ⟨vy, hy1, hy2⟩ := g2.get e2
    refine ⟨_, ev, .inl ⟨rfl, _, SqL.of g1⟩, a, vs, vy, rfl, rfl, g1, by rw [g2.length]; exact hy1, ?_⟩
    exact k F b σ _ (R.chg hx ev g2.dropLast) (Ext.refl F)
  · cases e) (ps_expr h hs)
theorem s_popA (i j : Nat) {x : Str} {pos' : Pos} (hN : X.N.Nodup) (h : PE X e (tBM0 X.K "list" rPop (tVar j))) (hi : X.N[i]? = some x := by rfl) (hx : Loc X.env.scope x := by first | exact .inl rfl | exact .inr rfl) (hs : swapsWith e (some (.Name x pos')) pos.line X.env = pure false := by rfl) (hf : X.fn x = true ∨ X.env.scope.names.lookup x = some .local := by first | exact .inl rfl | exact .inr rfl) :
    PS X (.Assign [.Name x pos'] e pos) (liftS X.K C (dPopA i j)) := imp_s (fun D σ H ⟨sl, B, F, b, o, R, e, k⟩ => by
  unfold dPopA at e
  split at e
  · rename_i xs hx
    obtain ⟨⟨y, ys⟩, e1, e⟩ := mpd e
    obtain ⟨z, e2, e1⟩ := mpd e1
    cases e1
    cases e
    obtain ⟨v, ev, a, vs, rfl, g1, g2, g3, g4⟩ := R.slt j _ hx
    obtain ⟨vy, hy1, hy2⟩ := g2.get e2
    refine ⟨_, ev, .inl ⟨rfl, _, SqL.of g1⟩, a, vs, vy, rfl, rfl, g1, by rw [g2.length]; exact hy1, ?_⟩
    exact k F b _ _ ((R.chg hx ev g2.dropLast).put (s := .dat _) hy2 (fun _ z => nomatch z)) (Ext.refl F)
  · cases e) (ps_set hN hi hx h hs hf)
end
/-! ### three names at once -/
def dPar3 (i j l : Nat) (da db dc : DE) : DS := fun sl B => (da sl B).bind fun p => (db sl p.2).bind fun q => (dc sl q.2).map fun r => .nx (((sl.set i (some (.dat p.1))).set j (some (.dat q.1))).set l (some (.dat r.1))) r.2
def dPar3L (i j l : Nat) (da : DL) (db dc : DE) : DS := fun sl B => (da sl B).bind fun p => (db sl p.2).bind fun q => (dc sl q.2).map fun r => .nx (((sl.set i (some (.own p.1))).set j (some (.dat q.1))).set l (some (.dat r.1))) r.2
def dPar3R (i j l : Nat) (da db : DE) (dc : DL) : DS := fun sl B => (da sl B).bind fun p => (db sl p.2).bind fun q => (dc sl q.2).map fun r => .nx (((sl.set l (some (.own r.1))).set i (some (.dat p.1))).set j (some (.dat q.1))) r.2
section
variable {X : Cx} {C : Fx} {a b c : Expr} {da db dc : DE} {la lc : DL} {x y z : Str} {px py pz pt pos : Pos} {kt k2 : Nat} {pt2 : Pos}
theorem s_par3 (i j l : Nat) (hc : X.calm = true) (hN : X.N.Nodup) (hij : i ≠ j) (hil : i ≠ l) (hjl : j ≠ l) (ha : PE X a (liftE X.K C da)) (hb : PE X b (liftE X.K C db)) (hd : PE X c (liftE X.K C dc))
    (hi : X.N[i]? = some x := by rfl) (hj : X.N[j]? = some y := by rfl) (hl : X.N[l]? = some z := by rfl)
    (hx : X.env.scope.names.lookup x = some .local := by rfl) (hy : X.env.scope.names.lookup y = some .local := by rfl) (hz : X.env.scope.names.lookup z = some .local := by rfl)
    (hw : swappedStores [.Tuple [.Name x px, .Name y py, .Name z pz] kt pt] (.Tuple [a, b, c] k2 pt2) X.env = pure (some [x, y, z]) := by rfl)
    (hs : swapsWithSole [.Tuple [.Name x px, .Name y py, .Name z pz] kt pt] (.Tuple [a, b, c] k2 pt2) pos.line X.env = pure false := by rfl)
    (hs1 : starEach (a :: [b, c]) X.env = (false, eval a X.env) :: starEach [b, c] X.env := by rfl) (hs2 : starEach (b :: [c]) X.env = (false, eval b X.env) :: starEach [c] X.env := by rfl) (hs3 : starEach (c :: []) X.env = (false, eval c X.env) :: starEach [] X.env := by rfl) :
    PS X (.Assign [.Tuple [.Name x px, .Name y py, .Name z pz] kt pt] (.Tuple [a, b, c] k2 pt2) pos) (liftS X.K C (dPar3 i j l da db dc)) := imp_s (fun D σ H ⟨sl, B, F, b, o, R, e, k⟩ => by
  obtain ⟨⟨u, B1⟩, e1, e⟩ := bnd e
  obtain ⟨⟨w, B2⟩, e2, e⟩ := bnd e
  obtain ⟨⟨t, B3⟩, e3, e⟩ := mpd e
  cases e
  exact ⟨sl, B, F, b, _, _, R, e1, fun v1 H1 F1 b1 R1 S1 q1 => ⟨sl, B1, F1, b1, _, _, R1, e2, fun v2 H2 F2 b2 R2 S2 q2 => ⟨sl, B2, F2, b2, _, _, R2, e3, fun v3 H3 F3 b3 R3 S3 q3 => ⟨v1, v2, v3, rfl, k F3 b3 _ H3
    (((R3.put (s := .dat _) (Rp.mono S3.ex (Rp.mono S2.ex q1)) (fun _ z => nomatch z)).put (s := .dat _) (Rp.mono S3.ex q2) (fun _ z => nomatch z)).put (s := .dat _) q3 (fun _ z => nomatch z)) ((S1.ex.trans S2.ex).trans S3.ex)⟩⟩⟩⟩)
  (ps_par3 (ta := tCons (liftE X.K C da) (tCons (liftE X.K C db) (tCons (liftE X.K C dc) tNil))) hc hN hi hj hl hij hil hjl hx hy hz (pa_cons ha (pa_cons hb (pa_cons hd pa_nil hs3) hs2) hs1) hw hs)
theorem s_par3L (i j l : Nat) (hc : X.calm = true) (hN : X.N.Nodup) (hij : i ≠ j) (hil : i ≠ l) (hjl : j ≠ l) (ha : PE X a (liftL X.K C la)) (hb : PE X b (liftE X.K C db)) (hd : PE X c (liftE X.K C dc))
    (hi : X.N[i]? = some x := by rfl) (hj : X.N[j]? = some y := by rfl) (hl : X.N[l]? = some z := by rfl)
    (hx : X.env.scope.names.lookup x = some .local := by rfl) (hy : X.env.scope.names.lookup y = some .local := by rfl) (hz : X.env.scope.names.lookup z = some .local := by rfl)
    (hw : swappedStores [.Tuple [.Name x px, .Name y py, .Name z pz] kt pt] (.Tuple [a, b, c] k2 pt2) X.env = pure (some [x, y, z]) := by rfl)
    (hs : swapsWithSole [.Tuple [.Name x px, .Name y py, .Name z pz] kt pt] (.Tuple [a, b, c] k2 pt2) pos.line X.env = pure false := by rfl)
    (hs1 : starEach (a :: [b, c]) X.env = (false, eval a X.env) :: starEach [b, c] X.env := by rfl) (hs2 : starEach (b :: [c]) X.env = (false, eval b X.env) :: starEach [c] X.env := by rfl) (hs3 : starEach (c :: []) X.env = (false, eval c X.env) :: starEach [] X.env := by rfl) :
    PS X (.Assign [.Tuple [.Name x px, .Name y py, .Name z pz] kt pt] (.Tuple [a, b, c] k2 pt2) pos) (liftS X.K C (dPar3L i j l la db dc)) := imp_s (fun D σ H ⟨sl, B, F, b, o, R, e, k⟩ => by
  obtain ⟨⟨u, B1⟩, e1, e⟩ := bnd e
  obtain ⟨⟨w, B2⟩, e2, e⟩ := bnd e
  obtain ⟨⟨t, B3⟩, e3, e⟩ := mpd e
  cases e
  exact ⟨sl, B, F, b, _, _, R, e1, fun p vs H1 F1 b1 R1 S1 h0 h1 h2 h3 h4 => ⟨sl, B1, F1, b1, _, _, R1, e2, fun v2 H2 F2 b2 R2 S2 q2 => ⟨sl, B2, F2, b2, _, _, R2, e3, fun v3 H3 F3 b3 R3 S3 q3 => ⟨.ref p, v2, v3, rfl, k F3 b3 _ H3
    (((R3.putO (i := i) ((S2.trans S3).pr p _ h3 h2) (Rps.mono (S2.trans S3).ex h4) ((S2.trans S3).ko p (by rw [h3]; exact Option.some_ne_none _) h1) (nb_of (S2.trans S3) h3 h2) (R.t0 h0) (fun m ys em => R.ownT em h0)).put (s := .dat _) (Rp.mono S3.ex q2) (fun _ z => nomatch z)).put (s := .dat _) q3 (fun _ z => nomatch z)) ((S1.ex.trans S2.ex).trans S3.ex)⟩⟩⟩⟩)
  (ps_par3 (ta := tCons (liftL X.K C la) (tCons (liftE X.K C db) (tCons (liftE X.K C dc) tNil))) hc hN hi hj hl hij hil hjl hx hy hz (pa_cons ha (pa_cons hb (pa_cons hd pa_nil hs3) hs2) hs1) hw hs)
theorem s_par3R (i j l : Nat) (hc : X.calm = true) (hN : X.N.Nodup) (hij : i ≠ j) (hil : i ≠ l) (hjl : j ≠ l) (ha : PE X a (liftE X.K C da)) (hb : PE X b (liftE X.K C db)) (hd : PE X c (liftL X.K C lc))
    (hi : X.N[i]? = some x := by rfl) (hj : X.N[j]? = some y := by rfl) (hl : X.N[l]? = some z := by rfl)
    (hx : X.env.scope.names.lookup x = some .local := by rfl) (hy : X.env.scope.names.lookup y = some .local := by rfl) (hz : X.env.scope.names.lookup z = some .local := by rfl)
    (hw : swappedStores [.Tuple [.Name x px, .Name y py, .Name z pz] kt pt] (.Tuple [a, b, c] k2 pt2) X.env = pure (some [x, y, z]) := by rfl)
    (hs : swapsWithSole [.Tuple [.Name x px, .Name y py, .Name z pz] kt pt] (.Tuple [a, b, c] k2 pt2) pos.line X.env = pure false := by rfl)
    (hs1 : starEach (a :: [b, c]) X.env = (false, eval a X.env) :: starEach [b, c] X.env := by rfl) (hs2 : starEach (b :: [c]) X.env = (false, eval b X.env) :: starEach [c] X.env := by rfl) (hs3 : starEach (c :: []) X.env = (false, eval c X.env) :: starEach [] X.env := by rfl) :
    PS X (.Assign [.Tuple [.Name x px, .Name y py, .Name z pz] kt pt] (.Tuple [a, b, c] k2 pt2) pos) (liftS X.K C (dPar3R i j l da db lc)) := imp_s (fun D σ H ⟨sl, B, F, b, o, R, e, k⟩ => by
  obtain ⟨⟨u, B1⟩, e1, e⟩ := bnd e
  obtain ⟨⟨w, B2⟩, e2, e⟩ := bnd e
  obtain ⟨⟨t, B3⟩, e3, e⟩ := mpd e
  cases e
  exact ⟨sl, B, F, b, _, _, R, e1, fun v1 H1 F1 b1 R1 S1 q1 => ⟨sl, B1, F1, b1, _, _, R1, e2, fun v2 H2 F2 b2 R2 S2 q2 => ⟨sl, B2, F2, b2, _, _, R2, e3, fun p vs H3 F3 b3 R3 S3 h0 h1 h2 h3 h4 => ⟨v1, v2, .ref p, rfl, by
    rw [List.set_comm _ _ hjl, List.set_comm _ _ hil]
    exact k F3 b3 _ H3 (((R3.putO (i := l) h3 h4 h1 h2 (R2.t0 h0) (fun m ys em => R2.ownT em h0)).put (i := i) (s := .dat _) (Rp.mono S3.ex (Rp.mono S2.ex q1)) (fun _ z => nomatch z)).put (i := j) (s := .dat _) (Rp.mono S3.ex q2) (fun _ z => nomatch z)) ((S1.ex.trans S2.ex).trans S3.ex)⟩⟩⟩⟩)
  (ps_par3 (ta := tCons (liftE X.K C da) (tCons (liftE X.K C db) (tCons (liftL X.K C lc) tNil))) hc hN hi hj hl hij hil hjl hx hy hz (pa_cons ha (pa_cons hb (pa_cons hd pa_nil hs3) hs2) hs1) hw hs)
end
/-! ### the same by a tuple that is made and taken apart (not all names are plain) -/
section
variable {X : Cx} {C : Fx} {a b c : Expr} {da db dc : DE} {la lc : DL} {x y z : Str} {px py pz pt pos : Pos} {kt k2 : Nat} {pt2 : Pos}
theorem s_tup3L (i j l : Nat) (hc : X.calm = true) (hN : X.N.Nodup) (ha : PE X a (liftL X.K C la)) (hb : PE X b (liftE X.K C db)) (hd : PE X c (liftE X.K C dc))
    (hi : X.N[i]? = some x := by rfl) (hj : X.N[j]? = some y := by rfl) (hl : X.N[l]? = some z := by rfl)
    (hx : Loc X.env.scope x := by first | exact .inl rfl | exact .inr rfl) (hy : Loc X.env.scope y := by first | exact .inl rfl | exact .inr rfl) (hz : Loc X.env.scope z := by first | exact .inl rfl | exact .inr rfl)
    (fx : X.fn x = true ∨ X.env.scope.names.lookup x = some .local := by first | exact .inl rfl | exact .inr rfl) (fy : X.fn y = true ∨ X.env.scope.names.lookup y = some .local := by first | exact .inl rfl | exact .inr rfl) (fz : X.fn z = true ∨ X.env.scope.names.lookup z = some .local := by first | exact .inl rfl | exact .inr rfl)
    (hw : swappedStores [.Tuple [.Name x px, .Name y py, .Name z pz] kt pt] (.Tuple [a, b, c] k2 pt2) X.env = pure none := by rfl)
    (hs : swapsWithSole [.Tuple [.Name x px, .Name y py, .Name z pz] kt pt] (.Tuple [a, b, c] k2 pt2) pos.line X.env = pure false := by rfl)
    (hA : (assignEach [.Tuple [.Name x px, .Name y py, .Name z pz] kt pt] X.env).map (·.2) = [assign (.Tuple [.Name x px, .Name y py, .Name z pz] kt pt) X.env] := by rfl)
    (hB : (assignEach [.Name x px, .Name y py, .Name z pz] X.env).length = 3 := by rfl) (hC : (assignEach [.Name x px, .Name y py, .Name z pz] X.env).findIdx? (·.1) = none := by rfl)
    (hs1 : starEach (a :: [b, c]) X.env = (false, eval a X.env) :: starEach [b, c] X.env := by rfl) (hs2 : starEach (b :: [c]) X.env = (false, eval b X.env) :: starEach [c] X.env := by rfl) (hs3 : starEach (c :: []) X.env = (false, eval c X.env) :: starEach [] X.env := by rfl) :
    PS X (.Assign [.Tuple [.Name x px, .Name y py, .Name z pz] kt pt] (.Tuple [a, b, c] k2 pt2) pos) (liftS X.K C (dPar3L i j l la db dc)) := imp_s (fun D σ H ⟨sl, B, F, b, o, R, e, k⟩ => by
  obtain ⟨⟨u, B1⟩, e1, e⟩ := bnd e
  obtain ⟨⟨w, B2⟩, e2, e⟩ := bnd e
  obtain ⟨⟨t, B3⟩, e3, e⟩ := mpd e
  cases e
  refine ⟨sl, B, F, b, _, _, R, e1, fun p vs H1 F1 b1 R1 S1 h0 h1 h2 h3 h4 => ⟨sl, B1, F1, b1, _, _, R1, e2, fun v2 H2 F2 b2 R2 S2 q2 => ⟨sl, B2, F2, b2, _, _, R2, e3, fun v3 H3 F3 b3 R3 S3 q3 => ⟨(show 3 ≤ sizeLine from sz (by decide)), fun T hT => ?_⟩⟩⟩⟩
  refine ⟨T, [.ref p, v2, v3], rfl, SqT.of upd_same, rfl, _, _, rfl, _, _, rfl, _, _, rfl, rfl, ?_⟩
  have S4 := (S2.trans S3).trans (Stp.new (o := .tup [.ref p, v2, v3]) hT)
  have R4 := R3.new (o := .tup [.ref p, v2, v3]) hT
  exact k F3 b3 _ _ (((R4.putO (i := i) (S4.pr p _ h3 h2) (Rps.mono (S2.trans S3).ex h4) ((S2.trans S3).ko p (by rw [h3]; exact Option.some_ne_none _) h1) (nb_of S4 h3 h2) (R.t0 h0) (fun m ys em => R.ownT em h0)).put (s := .dat _) (Rp.mono S3.ex q2) (fun _ z => nomatch z)).put (s := .dat _) q3 (fun _ z => nomatch z)) ((S1.ex.trans S2.ex).trans S3.ex))
  (ps_asg (pe_tup (t := tCons (liftL X.K C la) (tCons (liftE X.K C db) (tCons (liftE X.K C dc) tNil))) (pa_cons ha (pa_cons hb (pa_cons hd pa_nil hs3) hs2) hs1)) (pg_tup hc (pgs_cons (pg_name hN hi hx fx) (pgs_cons (pg_name hN hj hy fy) (pgs_cons (pg_name hN hl hz fz) pgs_nil))) hB hC) hs hw hA)
theorem s_tupLE (i j : Nat) (hc : X.calm = true) (hN : X.N.Nodup) (ha : PE X a (liftL X.K C la)) (hb : PE X b (liftE X.K C db))
    (hi : X.N[i]? = some x := by rfl) (hj : X.N[j]? = some y := by rfl)
    (hx : Loc X.env.scope x := by first | exact .inl rfl | exact .inr rfl) (hy : Loc X.env.scope y := by first | exact .inl rfl | exact .inr rfl)
    (fx : X.fn x = true ∨ X.env.scope.names.lookup x = some .local := by first | exact .inl rfl | exact .inr rfl) (fy : X.fn y = true ∨ X.env.scope.names.lookup y = some .local := by first | exact .inl rfl | exact .inr rfl)
    (hw : swappedStores [.Tuple [.Name x px, .Name y py] kt pt] (.Tuple [a, b] k2 pt2) X.env = pure none := by rfl)
    (hs : swapsWithSole [.Tuple [.Name x px, .Name y py] kt pt] (.Tuple [a, b] k2 pt2) pos.line X.env = pure false := by rfl)
    (hA : (assignEach [.Tuple [.Name x px, .Name y py] kt pt] X.env).map (·.2) = [assign (.Tuple [.Name x px, .Name y py] kt pt) X.env] := by rfl)
    (hB : (assignEach [.Name x px, .Name y py] X.env).length = 2 := by rfl) (hC : (assignEach [.Name x px, .Name y py] X.env).findIdx? (·.1) = none := by rfl)
    (hs1 : starEach (a :: [b]) X.env = (false, eval a X.env) :: starEach [b] X.env := by rfl) (hs2 : starEach (b :: []) X.env = (false, eval b X.env) :: starEach [] X.env := by rfl) :
    PS X (.Assign [.Tuple [.Name x px, .Name y py] kt pt] (.Tuple [a, b] k2 pt2) pos) (liftS X.K C (dParLE i j la db)) := imp_s (fun D σ H ⟨sl, B, F, b, o, R, e, k⟩ => by
  obtain ⟨⟨u, B1⟩, e1, e⟩ := bnd e
  obtain ⟨⟨w, B2⟩, e2, e⟩ := mpd e
  cases e
  refine ⟨sl, B, F, b, _, _, R, e1, fun p vs H1 F1 b1 R1 S1 h0 h1 h2 h3 h4 => ⟨sl, B1, F1, b1, _, _, R1, e2, fun v2 H2 F2 b2 R2 S2 q2 => ⟨(show 2 ≤ sizeLine from sz (by decide)), fun T hT => ?_⟩⟩⟩
  refine ⟨T, [.ref p, v2], rfl, SqT.of upd_same, rfl, _, _, rfl, _, _, rfl, rfl, ?_⟩
  have S4 := S2.trans (Stp.new (o := .tup [.ref p, v2]) hT)
  have R4 := R2.new (o := .tup [.ref p, v2]) hT
  exact k F2 b2 _ _ ((R4.putO (i := i) (S4.pr p _ h3 h2) (Rps.mono S2.ex h4) (S2.ko p (by rw [h3]; exact Option.some_ne_none _) h1) (nb_of S4 h3 h2) (R.t0 h0) (fun m ys em => R.ownT em h0)).put (s := .dat _) q2 (fun _ z => nomatch z)) (S1.ex.trans S2.ex))
  (ps_asg (pe_tup (t := tCons (liftL X.K C la) (tCons (liftE X.K C db) tNil)) (pa_cons ha (pa_cons hb pa_nil hs2) hs1)) (pg_tup hc (pgs_cons (pg_name hN hi hx fx) (pgs_cons (pg_name hN hj hy fy) pgs_nil)) hB hC) hs hw hA)
theorem s_tupEL (i j : Nat) (hc : X.calm = true) (hN : X.N.Nodup) (hij : i ≠ j) (ha : PE X a (liftE X.K C da)) (hb : PE X b (liftL X.K C lc))
    (hi : X.N[i]? = some x := by rfl) (hj : X.N[j]? = some y := by rfl)
    (hx : Loc X.env.scope x := by first | exact .inl rfl | exact .inr rfl) (hy : Loc X.env.scope y := by first | exact .inl rfl | exact .inr rfl)
    (fx : X.fn x = true ∨ X.env.scope.names.lookup x = some .local := by first | exact .inl rfl | exact .inr rfl) (fy : X.fn y = true ∨ X.env.scope.names.lookup y = some .local := by first | exact .inl rfl | exact .inr rfl)
    (hw : swappedStores [.Tuple [.Name x px, .Name y py] kt pt] (.Tuple [a, b] k2 pt2) X.env = pure none := by rfl)
    (hs : swapsWithSole [.Tuple [.Name x px, .Name y py] kt pt] (.Tuple [a, b] k2 pt2) pos.line X.env = pure false := by rfl)
    (hA : (assignEach [.Tuple [.Name x px, .Name y py] kt pt] X.env).map (·.2) = [assign (.Tuple [.Name x px, .Name y py] kt pt) X.env] := by rfl)
    (hB : (assignEach [.Name x px, .Name y py] X.env).length = 2 := by rfl) (hC : (assignEach [.Name x px, .Name y py] X.env).findIdx? (·.1) = none := by rfl)
    (hs1 : starEach (a :: [b]) X.env = (false, eval a X.env) :: starEach [b] X.env := by rfl) (hs2 : starEach (b :: []) X.env = (false, eval b X.env) :: starEach [] X.env := by rfl) :
    PS X (.Assign [.Tuple [.Name x px, .Name y py] kt pt] (.Tuple [a, b] k2 pt2) pos) (liftS X.K C (dParEL i j da lc)) := imp_s (fun D σ H ⟨sl, B, F, b, o, R, e, k⟩ => by
  obtain ⟨⟨u, B1⟩, e1, e⟩ := bnd e
  obtain ⟨⟨w, B2⟩, e2, e⟩ := mpd e
  cases e
  refine ⟨sl, B, F, b, _, _, R, e1, fun v1 H1 F1 b1 R1 S1 q1 => ⟨sl, B1, F1, b1, _, _, R1, e2, fun p vs H2 F2 b2 R2 S2 h0 h1 h2 h3 h4 => ⟨(show 2 ≤ sizeLine from sz (by decide)), fun T hT => ?_⟩⟩⟩
  refine ⟨T, [v1, .ref p], rfl, SqT.of upd_same, rfl, _, _, rfl, _, _, rfl, rfl, ?_⟩
  have S4 : Stp F2 b2 H2 F2 b2 _ := Stp.new (o := .tup [v1, .ref p]) hT
  have R4 := R2.new (o := .tup [v1, .ref p]) hT
  rw [List.set_comm _ _ hij]
  exact k F2 b2 _ _ ((R4.putO (i := j) (S4.pr p _ h3 h2) h4 h1 (nb_of S4 h3 h2) (R1.t0 h0) (fun m ys em => R1.ownT em h0)).put (i := i) (s := .dat _) (Rp.mono S2.ex q1) (fun _ z => nomatch z)) (S1.ex.trans S2.ex))
  (ps_asg (pe_tup (t := tCons (liftE X.K C da) (tCons (liftL X.K C lc) tNil)) (pa_cons ha (pa_cons hb pa_nil hs2) hs1)) (pg_tup hc (pgs_cons (pg_name hN hi hx fx) (pgs_cons (pg_name hN hj hy fy) pgs_nil)) hB hC) hs hw hA)
end
/-! ### a list times a number, nobody else's -/
def dMulL (da db : DE) : DL := fun sl B => (da sl B).bind fun p => (db sl p.2).bind fun q => match p.1, q.1 with
  | .list xs, .int k => if -(2 ^ 63) ≤ k ∧ k < 2 ^ 63 ∧ xs.length * k.toNat ≤ sizeLine then some (repD xs k, q.2) else none
  | _, _ => none
theorem l_mulL {X : Cx} {C : Fx} {a c : Expr} {da db : DE} {pos : Pos} (ha : PE X a (liftO X.K C da)) (hb : PE X c (liftO X.K C db)) : PE X (.BinOp a .Mult c pos) (liftL X.K C (dMulL da db)) :=
  imp_e (fun σ H Q ⟨sl, B, F, b, rr, B', R, e, kk⟩ => by
    obtain ⟨⟨x, B1⟩, e1, e⟩ := bnd e
    obtain ⟨⟨y, B2⟩, e2, e'⟩ := bnd e
    clear e
    split at e'
    · rename_i xs k hx hy
      have hx' : x = .list xs := hx
      subst hx'
      have hy' : y = .int k := hy
      subst hy'
      split at e'
      · rename_i hc
        cases e'
        refine two_o R e1 e2 fun v u H2 F2 b2 R2 S2 qx qy => ?_
        obtain ⟨a, vs, rfl, h1, h3, h2⟩ := qx
        have hu := top_int qy
        subst hu
        refine ⟨a, k, vs, rfl, rfl, h1, hc.1, hc.2.1, by rw [h2.length]; exact hc.2.2, fun p hp => ?_⟩
        have h0 : H p = none := by
          cases z : H p with
          | none => rfl
          | some o => exact absurd hp (S2.tr p (by rw [z]; exact Option.some_ne_none _))
        exact kk p _ _ _ _ (R2.new hp) (S2.trans (Stp.new hp)) h0 (not_in_F R2.fro hp) (R2.nbx hp) upd_same (rps_rep h2 _)
      · cases e'
    · cases e') (pe_op op_rep ha hb)
end Dn

set_option Elab.async false
set_option linter.all false
set_option autoImplicit false
set_option maxRecDepth 100000
set_option maxHeartbeats 4000000
namespace Dn
open PySem PySem.Spec PyProof.Rows L2
/-! ### a module's tuple of whole numbers -/
def KTup (K : Frg) (a : Addr) (ns : List Int) : Prop := ∃ o its n, List.lookup a K = some o ∧ o.cls = .type "tuple" ∧ o.data = .seq its n ∧ its.size ≤ sizeLine ∧ Vals (ns.map V.int) its.toList
theorem rps_ofInts {K : Frg} {F : Hp} : ∀ ns : List Int, Rps K F (ns.map V.int) (ns.map PyData.int)
  | [] => .nil
  | n :: ns => .cons (.int n) (rps_ofInts ns)
theorem e_gT {X : Cx} {C : Fx} {x : Str} {ns : List Int} {pos : Pos} (h : ∃ a, X.mg x = some (.ref a) ∧ KTup X.K a ns) (hg : Gl X x := by rfl) (hd : (x == ("__debug__" : Str)) = false := by decide) : PE X (.Name x pos) (liftE X.K C (dC (.tuple (ns.map PyData.int)))) := by
  obtain ⟨a, h1, h2⟩ := h
  exact e_glob (v := .ref a) h1 (by exact rfl) (fun F => .tup (.inr h2) (rps_ofInts ns)) hg hd
/-! ### a call with no arguments -/
section
variable {X : Cx} {C : Fx} {k : Nat} {x : Str} {p pos : Pos} {fD : FD}
theorem nil_imp : ∀ σ H (Q : List V → Hp → Prop), liftA X.K C dNilA σ H Q → Q [] H := fun σ H Q ⟨sl, B, F, b, rr, B', R, e, k⟩ => by
  cases e
  exact k [] H F b R Stp.refl .nil
theorem e_fn0 (D : Def X.prog X.w X.K X.mg X.base k x fD) (hr : Room k X.A) (hg : Gl X x := by rfl) (hdb : (x == ("__debug__" : Str)) = false := by decide) :
    PE X (.Call (.Name x p) [] [] pos) (liftE X.K C (dFn fD dNilA)) := by
  obtain ⟨f, fd, ps, h1, h2, h3, h4⟩ := D.ex
  exact imp_e (fun σ H Q h => nil_imp (X := X) (C := C) σ H _ (fn_imp (X := X) σ H Q h)) (pe_call0 h1 hr hg h2 h3 h4 .nil pass0 hdb)
theorem v_fn0 (D : Def X.prog X.w X.K X.mg X.base k x fD) (hr : Room k X.A) (hg : Gl X x := by rfl) (hdb : (x == ("__debug__" : Str)) = false := by decide) :
    PE X (.Call (.Name x p) [] [] pos) (liftV X.K C (dFnV fD dNilA)) := by
  obtain ⟨f, fd, ps, h1, h2, h3, h4⟩ := D.ex
  exact imp_e (fun σ H Q h => nil_imp (X := X) (C := C) σ H _ (fnV_imp (X := X) σ H Q h)) (pe_call0 h1 hr hg h2 h3 h4 .nil pass0 hdb)
end
end Dn

set_option Elab.async false
set_option linter.all false
set_option autoImplicit false
set_option maxRecDepth 100000
set_option maxHeartbeats 4000000
namespace Dn
open PySem PySem.Spec PyProof.Rows L2
/-! ### one's own dicts, their keys ints -/
def putZ (kvs : List (Int × PyData)) (k : Int) (v : PyData) : List (Int × PyData) :=
  if (kvs.any fun p => decide (p.1 = k)) = true then kvs.map (fun p => if p.1 = k then (p.1, v) else p) else kvs ++ [(k, v)]
def getZ (kvs : List (Int × PyData)) (k : Int) : Option PyData := (kvs.find? fun p => decide (p.1 = k)).map (·.2)
section
variable {K : Frg} {F : Hp}
theorem KvR.length {ks : List (Key × V)} {kvs : List (Int × PyData)} (h : KvR K F ks kvs) : ks.length = kvs.length := Paired.length h
theorem KvR.any {k : Int} : ∀ {ks : List (Key × V)} {kvs : List (Int × PyData)}, KvR K F ks kvs → (ks.any fun p => decide (p.1 = (.inl k : Key))) = kvs.any fun p => decide (p.1 = k)
  | [], [], _ => rfl
  | p :: ks, q :: kvs, .cons h t => by
    rw [List.any_cons, List.any_cons, KvR.any t]
    congr 1
    rw [h.1]
    exact decide_eq_decide.mpr ⟨fun z => Sum.inl.inj z, fun z => by rw [z]⟩
theorem KvR.get {k : Int} : ∀ {ks : List (Key × V)} {kvs : List (Int × PyData)}, KvR K F ks kvs → (∀ v, getZ kvs k = some v → ∃ y, valV ks (.inl k) = some y ∧ Rp K F y v) ∧ (getZ kvs k = none → valV ks (.inl k) = none)
  | [], [], _ => by
    refine ⟨fun v z => ?_, fun _ => rfl⟩
    cases z
  | p :: ks, q :: kvs, .cons h t => by
    obtain ⟨h1, h2⟩ := KvR.get (k := k) t
    by_cases z : q.1 = k
    · have e1 : getZ (q :: kvs) k = some q.2 := by unfold getZ; rw [List.find?_cons, decide_eq_true z]; rfl
      have e2 : valV (p :: ks) (.inl k) = some p.2 := valV_pos (by rw [h.1, z])
      exact ⟨fun v e => ⟨p.2, e2, by rw [e1] at e; cases e; exact h.2⟩, fun e => by rw [e1] at e; cases e⟩
    · have e1 : getZ (q :: kvs) k = getZ kvs k := by unfold getZ; rw [List.find?_cons, decide_eq_false z]
      have e2 : valV (p :: ks) (.inl k) = valV ks (.inl k) := valV_neg (by rw [h.1]; exact fun w => z (Sum.inl.inj w))
      rw [e1, e2]
      exact ⟨h1, h2⟩
theorem KvR.repl {k : Int} {y : V} {v : PyData} (r : Rp K F y v) : ∀ {ks : List (Key × V)} {kvs : List (Int × PyData)}, KvR K F ks kvs → KvR K F (ks.map fun kv => if kv.1 = (.inl k : Key) then (kv.1, y) else kv) (kvs.map fun p => if p.1 = k then (p.1, v) else p)
  | [], [], _ => .nil
  | p :: ks, q :: kvs, .cons h t => by
    refine .cons ?_ (KvR.repl r t)
    by_cases z : q.1 = k
    · simp only [if_pos (show p.1 = (.inl k : Key) by rw [h.1, z]), if_pos z]
      exact ⟨h.1, r⟩
    · simp only [if_neg (show ¬ p.1 = (.inl k : Key) by rw [h.1]; exact fun w => z (Sum.inl.inj w)), if_neg z]
      exact h
theorem KvR.put {k : Int} {y : V} {v : PyData} {ks : List (Key × V)} {kvs : List (Int × PyData)} (h : KvR K F ks kvs) (r : Rp K F y v) : KvR K F (putK ks (.inl k) y) (putZ kvs k v) := by
  unfold putK putZ
  rw [h.any]
  split
  · exact KvR.repl r h
  · exact Paired.snoc h ⟨rfl, r⟩
end
section
variable {K : Frg} {C : Fx} {sl : Sl} {B B' : Bx} {F F' H H' : Hp} {b b' : Bad} {σ : L2.St} {v : V} {i : Nat} {s : Sv}
/-- a new dict for the slot -/
theorem Rel.putD {a : Addr} {ks : List (Key × V)} {kvs : List (Int × PyData)} (r : Rel K C sl B F b σ H) (h1 : H a = some (.dK ks)) (h2 : KvR K F ks kvs) (h3 : F a = none) (h4 : ¬ inb b a) (h5 : C.H0 a = none)
    (h6 : ∀ (j : Nat) (ys : List (Int × PyData)), sl[j]? = some (some (.dic ys)) → σ[j]? ≠ some (some (.ref a))) : Rel K C (sl.set i (some (.dic kvs))) B F b (σ.set i (some (.ref a))) H where
  fro := r.fro
  len := by rw [List.length_set, List.length_set]; exact r.len
  slt := fun j t e => by
    by_cases z : i = j
    · subst z
      by_cases hl : i < sl.length
      · rw [List.getElem?_set_self hl] at e
        cases e
        exact ⟨_, List.getElem?_set_self (by rw [← r.len]; exact hl), a, ks, rfl, h1, h2, h3, h4⟩
      · rw [List.getElem?_eq_none (by simpa using hl)] at e; cases e
    · rw [List.getElem?_set_ne z] at e
      obtain ⟨u, h1, h2⟩ := r.slt j t e
      exact ⟨u, by rw [List.getElem?_set_ne z]; exact h1, h2⟩
  dis2 := fun j l ys zs c e1 e2 e3 e4 => by
    by_cases z1 : i = j
    · by_cases z2 : i = l
      · rw [← z1, ← z2]
      · exfalso
        subst z1
        rw [List.getElem?_set_ne z2] at e2 e4
        by_cases hl : i < σ.length
        · rw [List.getElem?_set_self hl] at e3
          cases e3
          exact h6 l zs e2 e4
        · rw [List.getElem?_eq_none (by simpa using hl)] at e3; cases e3
    · rw [List.getElem?_set_ne z1] at e1 e3
      by_cases z2 : i = l
      · exfalso
        subst z2
        by_cases hl : i < σ.length
        · rw [List.getElem?_set_self hl] at e4
          cases e4
          exact h6 j ys e1 e3
        · rw [List.getElem?_eq_none (by simpa using hl)] at e4; cases e4
      · rw [List.getElem?_set_ne z2] at e2 e4
        exact r.dis2 j l ys zs c e1 e2 e3 e4
  own2 := fun j ys c e1 e3 => by
    by_cases z1 : i = j
    · subst z1
      by_cases hl : i < σ.length
      · rw [List.getElem?_set_self hl] at e3
        cases e3
        exact h5
      · rw [List.getElem?_eq_none (by simpa using hl)] at e3; cases e3
    · rw [List.getElem?_set_ne z1] at e1 e3
      exact r.own2 j ys c e1 e3
  dis := fun j l xs ys a e1 e2 e3 e4 => by
    have z1 : i ≠ j := fun z => by
      subst z
      by_cases hl : i < sl.length
      · rw [List.getElem?_set_self hl] at e1; cases e1
      · rw [List.getElem?_eq_none (by simpa using hl)] at e1; cases e1
    have z2 : i ≠ l := fun z => by
      subst z
      by_cases hl : i < sl.length
      · rw [List.getElem?_set_self hl] at e2; cases e2
      · rw [List.getElem?_eq_none (by simpa using hl)] at e2; cases e2
    rw [List.getElem?_set_ne z1] at e1 e3
    rw [List.getElem?_set_ne z2] at e2 e4
    exact r.dis j l xs ys a e1 e2 e3 e4
  own0 := fun j xs a e1 e3 => by
    have z1 : i ≠ j := fun z => by
      subst z
      by_cases hl : i < sl.length
      · rw [List.getElem?_set_self hl] at e1; cases e1
      · rw [List.getElem?_eq_none (by simpa using hl)] at e1; cases e1
    rw [List.getElem?_set_ne z1] at e1 e3
    exact r.own0 j xs a e1 e3
  bx := r.bx
  e1 := r.e1
  e2 := r.e2
  e3 := r.e3
  e4 := r.e4
  e5 := r.e5
/-- an own dict is changed -/
theorem Rel.chgD {a : Addr} {ks : List (Key × V)} {xs ys : List (Int × PyData)} (r : Rel K C sl B F b σ H) (e : sl[i]? = some (some (.dic xs))) (ea : σ[i]? = some (some (.ref a))) (h2 : KvR K F ks ys) : Rel K C (sl.set i (some (.dic ys))) B F b σ (upd H a (.dK ks)) := by
  obtain ⟨v, ev, a', us, e1, g1, g2, g3, g4⟩ := r.slt i _ e
  rw [ea] at ev
  cases ev
  cases e1
  have hl : i < sl.length := by
    rcases Nat.lt_or_ge i sl.length with z | z
    · exact z
    · rw [List.getElem?_eq_none z] at e; cases e
  have h0 := r.own2 i xs a e ea
  refine ⟨fun c o hc => ?_, by rw [List.length_set]; exact r.len, fun j t e' => ?_, fun j l ys zs c e1 e2 e3 e4 => ?_, fun j ys c e1 e3 => ?_, ⟨fun p hp => ?_, r.bx.liv⟩, r.e1, r.e2, fun c o hc hn => ?_, r.e4, r.e5, fun j l ys zs c e1 e2 e3 e4 => ?_, fun j ys c e1 e3 => ?_⟩
  · rw [upd_ne (fun z => by subst z; rw [g3] at hc; cases hc)]
    exact r.fro c o hc
  · by_cases z : i = j
    · subst z
      rw [List.getElem?_set_self hl] at e'
      cases e'
      exact ⟨_, ea, a, ks, rfl, upd_same, h2, g3, g4⟩
    · rw [List.getElem?_set_ne z] at e'
      obtain ⟨u, k1, k2⟩ := r.slt j t e'
      refine ⟨u, k1, ?_⟩
      cases t with
      | dat d => exact k2
      | own ws =>
        obtain ⟨c, w, q1, q2, q3, q4, q5⟩ := k2
        have ne : c ≠ a := fun z' => by
          subst z'
          rw [q2] at g1; cases g1
        exact ⟨c, w, q1, by rw [upd_ne ne]; exact q2, q3, q4, q5⟩
      | box => exact k2
      | cells => exact k2
      | scr ns => exact k2
      | dic ws =>
        obtain ⟨c, w, q1, q2, q3, q4, q5⟩ := k2
        have ne : c ≠ a := fun z' => by
          subst z' q1
          exact z (r.dis2 i j _ _ _ e e' ea k1)
        exact ⟨c, w, q1, by rw [upd_ne ne]; exact q2, q3, q4, q5⟩
      | fdc ws => exact k2
  · have z1 : i ≠ j := fun z => by
      subst z
      rw [List.getElem?_set_self hl] at e1; cases e1
    have z2 : i ≠ l := fun z => by
      subst z
      rw [List.getElem?_set_self hl] at e2; cases e2
    rw [List.getElem?_set_ne z1] at e1
    rw [List.getElem?_set_ne z2] at e2
    exact r.dis j l _ _ c e1 e2 e3 e4
  · have z1 : i ≠ j := fun z => by
      subst z
      rw [List.getElem?_set_self hl] at e1; cases e1
    rw [List.getElem?_set_ne z1] at e1
    exact r.own0 j _ c e1 e3
  · obtain ⟨k1, k2, k3, k4, k5⟩ := r.bx.at_ p hp
    exact ⟨by rw [upd_ne (fun z => g4 ⟨p, hp, .inl z.symm⟩)]; exact k1, by rw [upd_ne (fun z => g4 ⟨p, hp, .inr z.symm⟩)]; exact k2, k3, k4, k5⟩
  · rw [upd_ne (fun z => by subst z; rw [h0] at hc; cases hc)]
    exact r.e3 c o hc hn
  · have f1 : ∃ w, sl[j]? = some (some (.dic w)) := by
      by_cases z : i = j
      · subst z; exact ⟨_, e⟩
      · rw [List.getElem?_set_ne z] at e1; exact ⟨_, e1⟩
    have f2 : ∃ w, sl[l]? = some (some (.dic w)) := by
      by_cases z : i = l
      · subst z; exact ⟨_, e⟩
      · rw [List.getElem?_set_ne z] at e2; exact ⟨_, e2⟩
    obtain ⟨_, f1⟩ := f1
    obtain ⟨_, f2⟩ := f2
    exact r.dis2 j l _ _ c f1 f2 e3 e4
  · have f1 : ∃ w, sl[j]? = some (some (.dic w)) := by
      by_cases z : i = j
      · subst z; exact ⟨_, e⟩
      · rw [List.getElem?_set_ne z] at e1; exact ⟨_, e1⟩
    obtain ⟨_, f1⟩ := f1
    exact r.own2 j _ c f1 e3
end
end Dn

set_option Elab.async false
set_option linter.all false
set_option autoImplicit false
set_option maxRecDepth 100000
set_option maxHeartbeats 4000000
namespace Dn
open PySem PySem.Spec PyProof.Rows L2
/-! ### set(xs) of a list of ints -/
section
variable {P : Program} {w : World} {A : Around} {E : Value → Shared → Prop} {s : Shared}
set_option maxHeartbeats 3200000 in
theorem call_set_lstI {l : Addr} {items : Array Value} (ns : List Int) {Q : Value → Shared → Prop} (hh : A.handled = none) (hl : s.heap.IsList l items) (hit : IntsAre items.toList ns) (hb : ns.length + 1 < scanBound)
    (h : ∀ (h' : Heap) (tk c : Nat), SetR w h' s.heap.objs.size (fun j => decide (j ∈ ns)) c → c ≤ ns.length → (∀ b o, s.heap.get? b = some o → h'.get? b = some o) → Q (.ref s.heap.objs.size) { s with heap := h', toks := tk }) :
    wpAny (model P w) A (call (.type "set") [.ref l]) Q E s := by
  have hisz : items.size = ns.length := by
    have q := IntsAre.length hit
    rw [Array.length_toList] at q
    exact q
  obtain ⟨c, tl, hmro⟩ := F.called_set.mro
  have hmade := F.called_set.made
  have hsub := F.called_set.sub
  refine wpAny_call (codeAny_of_tree ?_)
  show wpAny _ _ (callAny (.type "set") _) _ _ _
  refine wpAny_pure ⟨Code.quiet_builtin _ (by decide +kernel), codeAny_builtin F.entry_type_call ?_⟩
  rw [Around.under_plain (weight_type_call_type "set" [.ref l] []) rfl]
  have h1 := F.called_set.notType
  have h2 := F.called_set.canCreate
  have hct := F.typeCall_set_1 (.ref l)
  repeat (any_goals (first | assumption | wp_step))

  refine codeAny_mono (code_set_led1 (.ref l) (E := E) (Q₁ := fun obj s₁ => obj = .ref s.heap.objs.size ∧ s₁ = { s with heap := s.heap.push { cls := .type "set", dict := none, data := .set #[] 0 (.fresh 0 0 (!w.params.followText "set-order")) } }) ⟨rfl, rfl⟩) fun r s₁ hr => ?_
  cases r with
  | error e => exact hr
  | ok fl =>
    cases fl with
    | ret obj =>
      obtain ⟨rfl, rfl⟩ := hr
      have hS : (s.heap.push { cls := .type "set", dict := none, data := .set #[] 0 (.fresh 0 0 (!w.params.followText "set-order")) }).get? s.heap.objs.size = some { cls := .type "set", dict := none, data := .set #[] 0 (.fresh 0 0 (!w.params.followText "set-order")) } := Heap.get?_push_size _ rfl
      have hT : Shared.TypeIs { s with heap := s.heap.push { cls := .type "set", dict := none, data := .set #[] 0 (.fresh 0 0 (!w.params.followText "set-order")) } } (.ref s.heap.objs.size) "set" := ⟨_, hS, rfl⟩
      have hli := F.called_set.init.lookup
      have hbi := F.called_set.init.bind (.ref s.heap.objs.size)
      repeat (any_goals (first | assumption | wp_step))

      refine codeAny_mono (codeAny_call_builtin (R := wants (fun r s₂ => r = .none ∧ ∃ h' tk c, s₂ = { s with heap := h', toks := tk } ∧ SetR w h' s.heap.objs.size (fun j => decide (j ∈ ns)) c ∧ c ≤ ns.length ∧
          (∀ b o, s.heap.get? b = some o → h'.get? b = some o)) E) F.called_set.init.plain F.entry_set_init (check_set_init_1 hT ?_)) fun r₂ s₂ hr₂ => ?_
      · obtain ⟨ol, hol, hcl, nl, hdl⟩ := hl
        obtain ⟨ocls, odict, odata, oslots⟩ := ol
        simp only at hcl hdl
        subst hcl; subst hdl
        have hol' : (s.heap.push { cls := .type "set", dict := none, data := .set #[] 0 (.fresh 0 0 (!w.params.followText "set-order")) }).get? l = some { cls := .type "list", dict := odict, data := .seq items nl, slots := oslots } := Heap.get?_push_of_some _ hol
        have hsls := F.sub_list_set
        have hslf := F.sub_list_frozenset
        have hne : (Value.type "list" == Value.type "dict") = false := by decide
        have hl1 : (s.heap.push { cls := .type "set", dict := none, data := .set #[] 0 (.fresh 0 0 (!w.params.followText "set-order")) }).IsList l items := ⟨_, hol', rfl, nl, rfl⟩
        unfold Builtin.«set.__init__» noKeywords Builtin.Frozenset.updateFrom
        generalize hPI : pyIter = PI
        wp_walk
        subst hPI

        refine wpAny_pyIter_list hl1 ?_
        refine wpAny_bind (wpAny_runValue ?_)
        have hlS : l < s.heap.objs.size := Heap.lt_size hol
        have hh3 : A.in1.in1.in1.handled = none := by simp [hh]
        have hz1 : (s.heap.push { cls := .type "set", dict := none, data := .set #[] 0 (.fresh 0 0 (!w.params.followText "set-order")) }).objs.size = s.heap.objs.size + 1 := Heap.size_push ..
        have hneI : l ≠ (s.heap.push { cls := .type "set", dict := none, data := .set #[] 0 (.fresh 0 0 (!w.params.followText "set-order")) }).objs.size := by
          rw [Heap.size_push]; exact Nat.ne_of_lt (Nat.lt_succ_of_lt hlS)
        have hSf : s.heap.objs.size ∉ [(s.heap.push { cls := .type "set", dict := none, data := .set #[] 0 (.fresh 0 0 (!w.params.followText "set-order")) }).objs.size, l] := by
          rw [Heap.size_push]; simp only [List.mem_cons, List.mem_singleton, List.not_mem_nil, or_false, not_or]
          exact ⟨Nat.ne_of_lt (Nat.lt_succ_self _), Nat.ne_of_gt hlS⟩
        have hval : ∀ (i : Nat) (v : Value), items[i]? = some v → ∃ k t, ns[i]? = some k ∧ v = .int k t := fun i v hv => by
          have hi : i < ns.length := by rw [← hisz]; exact (Array.getElem?_eq_some_iff.mp hv).1
          obtain ⟨t, e⟩ := PyProof.Rows.IntsAre.int_at hit i v (by rw [Array.getElem?_toList]; exact hv)
          refine ⟨ns[i], t, List.getElem?_eq_getElem hi, ?_⟩
          rw [e, List.getD_eq_getElem?_getD, List.getElem?_eq_getElem hi] <;> rfl
        refine set_update_ints ((Walks.list hh3 _ l hneI items).toS) s.heap.objs.size
          hSf ns hisz hb hval (items.size - 0) 0 _ (by omega) (Nat.zero_le _)
          ⟨⟨_, Heap.get?_push_size _ rfl, rfl, rfl⟩, (hl1.push _)⟩ ?hS0 ?hR
        case hS0 =>
          have hget : ((s.heap.push { cls := .type "set", dict := none, data := .set #[] 0 (.fresh 0 0 (!w.params.followText "set-order")) }).push { cls := .type "list_iterator", data := .fields #[.ref l, .int 0 0] }).get? s.heap.objs.size
              = some { cls := .type "set", dict := none, data := .set #[] 0 (.fresh 0 0 (!w.params.followText "set-order")) } := Heap.get?_push_of_some _ hS
          exact ⟨0, Nat.le_refl 0, setR_new_at hget⟩
        case hR =>
          intro s' c' hm hc' hS'
          obtain ⟨h', g2, d', tk', os'⟩ := s'
          have eg : g2 = s.gens := hm.gens
          have ed : d' = s.drawn := hm.drawn
          have eo : os' = s.os := hm.os
          subst eg; subst ed; subst eo
          show wpAny _ _ _ _ _ _
          refine wpAny_pure ?_
          show wpAny _ _ (ret Value.none) _ _ _
          rw [hisz] at hc'
          refine wpAny_pure ⟨rfl, h', tk', c', rfl, hS', hc', fun b o e => ?_⟩
          have hb0 : b < s.heap.objs.size := Heap.lt_size e
          have hb1 : b ≠ s.heap.objs.size := Nat.ne_of_lt hb0
          have hb2 : b ≠ (s.heap.push { cls := .type "set", dict := none, data := .set #[] 0 (.fresh 0 0 (!w.params.followText "set-order")) }).objs.size := by
            rw [Heap.size_push]; exact Nat.ne_of_lt (Nat.lt_succ_of_lt hb0)
          exact hm.heap b o (by simp only [List.mem_cons, List.mem_singleton, List.not_mem_nil, or_false, not_or]; exact ⟨hb1, hb2⟩) (Heap.get?_push_of_some _ (Heap.get?_push_of_some _ e))

      · cases r₂ with
        | error e => exact hr₂
        | ok fl₂ =>
          cases fl₂ with
          | ret r =>
            obtain ⟨rfl, h', tk, c', rfl, hS', hc', hk'⟩ := hr₂
            repeat (any_goals (first | assumption | wp_step))
            exact h _ _ _ hS' hc' hk'
          | _ => exact hr₂.elim
    | _ => exact hr.elim

end
end Dn

set_option Elab.async false
set_option linter.all false
set_option autoImplicit false
set_option maxRecDepth 100000
set_option maxHeartbeats 4000000
namespace Dn
open PySem PySem.Spec PyProof.Rows L2
/-! ### x = {}, x[k] = v -/
def dNewD (i : Nat) : DS := fun sl B => some (.nx (sl.set i (some (.dic []))) B)
def dPutD (j : Nat) (di dv : DE) : DS := fun sl B => (dv sl B).bind fun p => (di sl p.2).bind fun q => match q.1, sl[j]? with
  | .int k, some (some (.dic kvs)) => if kvs.length < sizeLine then some (.nx (sl.set j (some (.dic (putZ kvs k p.1)))) q.2) else none
  | _, _ => none
section
variable {X : Cx} {C : Fx} {i e : Expr} {di dv : DE} {x : Str} {px tp pos : Pos}
theorem s_newD (j : Nat) {pd : Pos} (hN : X.N.Nodup) (hi : X.N[j]? = some x := by rfl) (hx : Loc X.env.scope x := by first | exact .inl rfl | exact .inr rfl) (hs : swapsWith (.Dict [] [] pd) (some (.Name x px)) pos.line X.env = pure false := by rfl) (hf : X.fn x = true ∨ X.env.scope.names.lookup x = some .local := by first | exact .inl rfl | exact .inr rfl) :
    PS X (.Assign [.Name x px] (.Dict [] [] pd) pos) (liftS X.K C (dNewD j)) := imp_s (fun D σ H ⟨sl, B, F, b, o, R, e, k⟩ => by
  cases e
  exact fun p hp => k F b _ _ ((R.new hp).putD upd_same .nil (not_in_F R.fro hp) (R.nbx hp) (R.t0 hp) (fun j ys ej => R.dicT ej fun ks z => by rw [hp] at z; cases z)) (Ext.refl _)) (ps_set hN hi hx pe_dnewK hs hf)
theorem s_dput (j : Nat) (hu : X.A.units + 65 < cLine) (hv : PE X (.Name x px) (tVar j)) (hi : PE X i (liftE X.K C di)) (he : PE X e (liftE X.K C dv)) (hs : swapsWith e (some (.Subscript (.Name x px) i tp)) pos.line X.env = pure false := by rfl) :
    PS X (.Assign [.Subscript (.Name x px) i tp] e pos) (liftS X.K C (dPutD j di dv)) := imp_s (fun D σ H ⟨sl, B, F, b, o, R, e, k⟩ => by
  obtain ⟨⟨u, B1⟩, e1, e⟩ := bnd e
  obtain ⟨⟨w, B2⟩, e2, e⟩ := bnd e
  split at e
  · rename_i kk kvs hk hx
    have hk' : w = .int kk := hk
    subst hk'
    split at e
    · rename_i hz
      cases e
      refine ⟨sl, B, F, b, u, B1, R, e1, fun v H1 F1 b1 R1 S1 q1 => ?_⟩
      obtain ⟨v0, ev, a, ks, rfl, g1, g2, g3, g4⟩ := R1.slt j _ hx
      refine ⟨_, ev, sl, B1, F1, b1, _, B2, R1, e2, fun y H2 F2 b2 R2 S2 q2 => ?_⟩
      cases (show Rp X.K F2 y (.int kk) from q2)
      have g5 := S2.pr a _ g1 g4
      exact ⟨a, _, rfl, DPut.k (k := .inl kk) g5 (by rw [g2.length]; exact hz), k F2 b2 σ _ (R2.chgD hx ev (KvR.put (KvR.mono S2.ex g2) (Rp.mono S2.ex q1))) (S1.ex.trans S2.ex)⟩
    · cases e
  · cases e) (ps_dput (by omega) hv hi he hs)
end
/-! ### sorted(d): the keys of a dict -/
/-- ints, ascending -/
def srI (ns : List Int) : List Int := ns.mergeSort fun a b => decide (a ≤ b)
theorem srI_le (ns : List Int) : (srI ns).Pairwise (· ≤ ·) := by
  have h1 : (srI ns).Pairwise fun a b => decide (a ≤ b) = true := List.pairwise_mergeSort (le := fun a b : Int => decide (a ≤ b)) (fun a b c h1 h2 => by
    have := of_decide_eq_true h1
    have := of_decide_eq_true h2
    exact decide_eq_true (by omega)) (fun a b => by
    rw [Bool.or_eq_true, decide_eq_true_eq, decide_eq_true_eq]; omega) _
  exact h1.imp fun h => of_decide_eq_true h
theorem le_uniq {a b : List Int} (hp : a.Perm b) (h1 : a.Pairwise (· ≤ ·)) (h2 : b.Pairwise (· ≤ ·)) : a = b := hp.eq_of_pairwise (fun x y _ _ p q => Int.le_antisymm p q) h1 h2
def rSortDic : List V → Hp → VK → Prop := fun vs H Q => ∃ (a : Addr) (ks : List (Key × V)) (ns : List Int), vs = [V.ref a] ∧ H a = some (.dK ks) ∧ ks.map (·.1) = ns.map Sum.inl ∧
  ∀ (ns' : List Int) (p : Addr), ns'.Perm ns → ns'.Pairwise (· ≤ ·) → H p = none → Q (.ref p) (upd H p (.lst (ns'.map V.int)))
theorem kv_at {ks : List (Key × V)} {vs : List (Key × Value)} (r : KV ks vs) : vs.map (·.1) = ks.map (·.1) := r.keys.symm
theorem ints_by : ∀ {vs : List Value} {ns : List Int}, vs.length = ns.length → (∀ (j : Nat) (v : Value), vs[j]? = some v → ∃ n t, ns[j]? = some n ∧ v = Value.int n t) → PyProof.Rows.IntsAre vs ns
  | [], [], _, _ => .nil
  | v :: vs, n :: ns, hl, h => by
    obtain ⟨m, t, e1, rfl⟩ := h 0 v rfl
    cases e1
    exact .cons _ t (ints_by (by simpa using hl) fun j v hv => h (j + 1) v hv)
  | [], _ :: _, hl, _ => by cases hl
  | _ :: _, [], hl, _ => by cases hl
/-- what a walk gives, gathered into a list that stands behind all there was -/
theorem coll_src {prog : Program} {w : World} {A : Around} {E : Value → Shared → Prop} {s : Shared} {T : String} {r d : Addr} {n : Nat} {P : Nat → Value → Prop} {OK : Heap → Prop} {R : List Value → Shared → Prop} (K : PySem.W.KdlSrc prog w T r d n P OK) (hh : A.handled = none) (hok : OK s.heap) (hn : n ≤ sizeLine)
    (h : ∀ (h' : Heap) (tk : Nat) (acc : Array Value), (∀ b o, s.heap.get? b = some o → h'.get? b = some o) → s.heap.objs.size < h'.objs.size → ItemsOf P acc n → R acc.toList { s with heap := h', toks := tk }) :
    wpAny (model prog w) A (collect (.ref r)) R E s := by
  have hlt := K.there _ hok
  unfold collect
  refine wpAny_bind (wpAny_runValue (codeAny_builtin entry_proto_collect' ?_))
  rw [Around.under_plainId PySem.F.plain_proto_collect _]
  refine wpAny_bind (wpAny_newObj_type ?_)
  refine wpAny_pure ⟨plainId_quiet PySem.F.plain_list_iadd _, codeAny_builtin entry_list_iadd' ?_⟩
  rw [Around.under_plainId PySem.F.plain_list_iadd _]
  refine wpAny_mono (PySem.W.kdl_extend (A := A) (s := { s with heap := s.heap.push { cls := .type "list", data := .seq ([] : List Value).toArray } })
    (R := fun (q : Result) (s' : Shared) => ∃ (h' : Heap) (tk : Nat) (acc' : Array Value) (c' : Nat), q = .ok (.ret (.ref s.heap.objs.size)) ∧ s' = { s with heap := h', toks := tk } ∧
      (∀ b o, s.heap.get? b = some o → h'.get? b = some o) ∧ h'.get? s.heap.objs.size = some { cls := .type "list", dict := none, data := .seq acc' c', slots := #[] } ∧ ItemsOf P acc' n)
    K hh (K.keep _ _ hok fun b _ o e => Heap.get?_push_of_some _ e) s.heap.objs.size (Nat.ne_of_gt hlt.1) (Nat.ne_of_gt hlt.2) (.ref s.heap.objs.size) 0 (Heap.get?_push_size _ rfl)
    (fun h' tk acc' c' hk hS' hacc => ⟨h', tk, acc', c', rfl, rfl, fun b o e => hk b o (Nat.ne_of_lt (Heap.lt_size e)) (Heap.get?_push_of_some _ e), hS', hacc⟩) hn) (fun fin s' x => ?_) fun e s' x => ?_
  · cases fin with
    | done f =>
      obtain ⟨h', tk, acc', c', e, rfl, hk, hS', hacc⟩ := x
      cases e
      exact wpAny_bind (wpAny_load hS' (wpAny_pure (h h' tk acc' hk (Heap.lt_size hS') hacc)))
    | again c₁ =>
      refine ⟨x.1, codeAny_mono x.2 fun q s₂ y => ?_⟩
      obtain ⟨h', tk, acc', c', rfl, rfl, hk, hS', hacc⟩ := y
      exact wpAny_bind (wpAny_load hS' (wpAny_pure (h h' tk acc' hk (Heap.lt_size hS') hacc)))
  · obtain ⟨_, _, _, _, e', _⟩ := x
    cases e'
theorem cr_sortDic {X : Cx} (hc : X.calm = true) : CallR X (.builtin "sorted") rSortDic := by
  intro pins s σ H vs us Q I r h
  obtain ⟨a, ks, ns, rfl, ha, hk, q⟩ := h
  rw [Vals.ref1 r]
  obtain ⟨hz, hs, kv0, rel, dd⟩ := dk_of I.hok ha
  obtain ⟨ep, hat⟩ := dd.dictAt
  have hkeys := kv_at rel
  have hlen : kv0.length = ks.length := by
    have := congrArg List.length hkeys
    rw [List.length_map, List.length_map] at this
    exact this
  have hln : ks.length = ns.length := by
    have := congrArg List.length hk
    rw [List.length_map, List.length_map] at this
    exact this
  refine Calls.call_function_entry kind_sorted plain_sorted entry_sorted (args_sorted1 _) ?_
  unfold Builtin.«sorted»
  refine wpAny_bind (m := checkCount "sorted" 1 1 _) (wpAny_pure ?_)
  refine wpAny_bind (coll_src (A := X.A.in1) (PySem.W.kdl_dict (knd := mixKind X.prog X.w) (kvs := kv0) (ep := ep) hs) (I.ok.hd hc) hat (by rw [hlen]; exact hz) fun h' tk acc hkp hlt0 hacc => ?_)
  have hl : acc.toList.length = ns.length := by rw [Array.length_toList, hacc.1, hlen, hln]
  have hI : PyProof.Rows.IntsAre acc.toList ns := ints_by hl fun j v hv => by
    obtain ⟨kk, y, e1, e2⟩ := hacc.2 j v (by rw [← Array.getElem?_toList]; exact hv)
    have e3 : (kv0.map (·.1))[j]? = some kk := by rw [List.getElem?_map, e1]; rfl
    rw [hkeys, hk, List.getElem?_map] at e3
    obtain ⟨n, e4, e5⟩ := mpd e3
    subst e5
    obtain ⟨t, e6⟩ := Value.isInt_shape (k := n) (v := v) e2
    exact ⟨n, t, e4, e6⟩
  have hzl : acc.toList.length ≤ sizeLine := by rw [hl, ← hln]; exact hz
  refine wpAny_bind (wpAny_newList ?_ hzl)
  have hoL : (h'.push (seqObj "list" acc.toList.toArray 0)).get? h'.objs.size = some (seqObj "list" acc.toList.toArray 0) := Heap.get?_push_size _ rfl
  refine wpAny_bind (wpAny_holding (wpAny_call_entry slot_list_sort ⟨_, hoL, rfl⟩ entry_list_sort (SrtO.list_sort_ord SrtO.swo_int hoL hzl (fun h2 => SrtO.ints_sortable hI h2) fun out h1 h2 => ⟨_, rfl, ?_⟩) (args_list_sort _)))
  obtain ⟨k1, k2, k3⟩ := SrtO.ints_out hI h1 h2
  obtain ⟨c, hc'⟩ := sortedHeap_at (vs := acc.toList) (out := out.toArray) hoL
  have hge : s.heap.objs.size ≤ h'.objs.size := Nat.le_of_lt hlt0
  have hlen2 : ((out.map SrtO.iv).map V.int).length ≤ sizeLine := by
    rw [List.length_map, k2.length_eq, ← hln]; exact hz
  refine wpAny_pure ⟨_, rfl, .ref _, upd H h'.objs.size (.lst ((out.map SrtO.iv).map V.int)), I.laid (t' := tk) (fun b o e => ?_) hge ⟨hlen2, out, c, vals_of_ints k1, hc'⟩, rfl, q _ _ k2 k3 (I.hok.fresh hge)⟩
  have qe := hkp b o e
  have hlt := Heap.lt_size qe
  show (sortedHeap (h'.push (seqObj "list" acc.toList.toArray 0)) h'.objs.size acc.toList out.toArray).get? b = some o
  rw [sortedHeap_old (Nat.ne_of_lt hlt) (by rw [size_push']; exact Nat.lt_succ_of_lt hlt)]
  exact Heap.get?_push_of_some _ qe
end Dn

set_option Elab.async false
set_option linter.all false
set_option autoImplicit false
set_option maxRecDepth 100000
set_option maxHeartbeats 4000000
namespace Dn
open PySem PySem.Spec PyProof.Rows L2
/-! ### sorted(d) of one's own dict -/
def dSrtDic (j : Nat) : DL := fun sl B => match sl[j]? with
  | some (some (.dic kvs)) => some ((srI (kvs.map (·.1))).map PyData.int, B)
  | _ => none
theorem KvR.keys {K : Frg} {F : Hp} : ∀ {ks : List (Key × V)} {kvs : List (Int × PyData)}, KvR K F ks kvs → ks.map (·.1) = (kvs.map (·.1)).map Sum.inl
  | [], [], _ => rfl
  | p :: ks, q :: kvs, .cons h t => by
    rw [List.map_cons, List.map_cons, List.map_cons, KvR.keys t, h.1]
section
variable {X : Cx} {C : Fx} {x : Str} {p px pos : Pos}
theorem l_srtDic (j : Nat) (hm : X.mg "sorted" = none) (hv : PE X (.Name x px) (tVar j)) (hc : X.calm = true := by rfl) (hg : Gl X "sorted" := by rfl)
    (he : starEach [.Name x px] X.env = (false, eval (.Name x px) X.env) :: starEach [] X.env := by rfl) (hpl : (backTo pos (starEach [] X.env)).any (·.1) = false := by rfl) :
    PE X (.Call (.Name "sorted" p) [.Name x px] [] pos) (liftL X.K C (dSrtDic j)) :=
  imp_e (fun σ H Q ⟨sl, B, F, b, rr, B', R, e, kk⟩ => by
    unfold dSrtDic at e
    split at e
    · rename_i kvs hx
      cases e
      obtain ⟨v0, ev, a, ks, rfl, g1, g2, g3, g4⟩ := R.slt j _ hx
      refine ⟨_, ev, a, ks, kvs.map (·.1), rfl, g1, g2.keys, fun ns' l h1 h2 hl => ?_⟩
      have en : ns' = srI (kvs.map (·.1)) := le_uniq (h1.trans (List.mergeSort_perm _ _).symm) h2 (srI_le _)
      subst en
      exact kk l _ _ _ _ (R.new hl) (Stp.new hl) hl (not_in_F R.fro hl) (R.nbx hl) upd_same (rps_ints _)
    · cases e)
    (pe_callB (cr_sortDic hc) hg hm PyProof.Rows.boot_sorted (pa_cons hv pa_nil (hs := he)) (by decide) (by decide) he hpl)
end
end Dn

set_option Elab.async false
set_option linter.all false
set_option autoImplicit false
set_option maxRecDepth 100000
set_option maxHeartbeats 4000000
namespace Dn
open PySem PySem.Spec PyProof.Rows L2
/-! ### sorted(set(xs)), xs a list or a tuple of ints, many of them -/
section
variable {P : Program} {w : World} {A : Around} {E : Value → Shared → Prop} {s : Shared} {a : Addr}
theorem sorted_setA {S : Int → Bool} {n : Nat} {Q : Value → Shared → Prop} (R : SetR w s.heap a S n) (hh : A.handled = none) (hz : n ≤ sizeLine)
    (hQ : ∀ s' p (out : Array Value) (c : Nat) (ns : List Int), (∀ b o, s.heap.get? b = some o → s'.heap.get? b = some o) → s'.gens = s.gens → s'.os = s.os → s.heap.objs.size ≤ p →
      s'.heap.get? p = some (seqObj "list" out c) → IntsAre out.toList ns → ns.Pairwise (· < ·) → (∀ k, k ∈ ns ↔ S k = true) → ns.length = n → Q (.ref p) s') :
    wpAny (model P w) A (call (.builtin "sorted") [.ref a]) Q E s := by
  obtain ⟨o, es, ep, t, ho, hex, hd, g, nd, hm, hb, hf, hn, hr, hl⟩ := R
  refine Calls.call_function_entry kind_sorted plain_sorted entry_sorted (args_sorted1 _) ?_
  unfold Builtin.«sorted»
  refine wpAny_bind (m := checkCount "sorted" 1 1 _) (wpAny_pure ?_)
  refine wpAny_bind (collect_set (A := A.in1) hh ⟨o, ho, hex.1, hd⟩ hf hb hr hl fun s1 vs k1 hz1 g1 o1 pm => ?_)
  have hvl : vs.length = n := by rw [pm.length_eq, List.length_map, Array.length_toList]; exact hn
  have hI : IntsAre vs (vs.map Builtin.Re.reRawOf) := ints_of vs fun v hv => by
    obtain ⟨e, he, q⟩ := List.mem_map.mp (pm.mem_iff.mp hv)
    obtain ⟨k, tk, h1, _⟩ := g e he
    exact ⟨k, tk, by rw [← q]; exact h1⟩
  have pk : (vs.map Builtin.Re.reRawOf).Perm (es.toList.map keyOf) := by
    have q := pm.map Builtin.Re.reRawOf
    rw [List.map_map] at q
    exact q
  have hzl : vs.length ≤ sizeLine := by rw [hvl]; exact hz
  refine wpAny_bind (wpAny_newList ?_ hzl)
  have hoL : (s1.heap.push (seqObj "list" vs.toArray 0)).get? s1.heap.objs.size = some (seqObj "list" vs.toArray 0) := Heap.get?_push_size _ rfl
  refine wpAny_bind (wpAny_holding (wpAny_call_entry slot_list_sort ⟨_, hoL, rfl⟩ entry_list_sort (SrtO.list_sort_ord SrtO.swo_int hoL hzl (fun h2 => SrtO.ints_sortable hI h2) fun out h1 h2 => ⟨_, rfl, ?_⟩) (args_list_sort _)))
  obtain ⟨k4, k2, k3⟩ := SrtO.ints_out hI h1 h2
  obtain ⟨c, hc⟩ := sortedHeap_at (vs := vs) (out := out.toArray) hoL
  have pn := k2.trans pk
  refine wpAny_pure ⟨_, rfl, hQ _ s1.heap.objs.size out.toArray c _ (fun b u e => ?_) g1 o1 hz1 hc k4 (lt_of_le_nodup _ k3 (pn.nodup_iff.mpr nd)) (fun k => by rw [pn.mem_iff, ← hm k]) ?_⟩
  · have q := k1 b u e
    have hlt := Heap.lt_size q
    show (sortedHeap (s1.heap.push (seqObj "list" vs.toArray 0)) s1.heap.objs.size vs out.toArray).get? b = some u
    rw [sortedHeap_old (Nat.ne_of_lt hlt) (by rw [size_push']; exact Nat.lt_succ_of_lt hlt)]
    exact Heap.get?_push_of_some _ q
  · rw [pn.length_eq, List.length_map, Array.length_toList]; exact hn
end
def rSortSetA (w : World) : List V → Hp → VK → Prop := fun vs H Q => ∃ (a : Addr) (S : Int → Bool) (n : Nat), vs = [V.ref a] ∧ H a = some (SetO w a S n) ∧ n ≤ sizeLine ∧
  ∀ (ns : List Int) (p : Addr), ns.Pairwise (· < ·) → (∀ k : Int, k ∈ ns ↔ S k = true) → H p = none → Q (.ref p) (upd H p (.lst (ns.map V.int)))
theorem cr_sortSetA {X : Cx} (hc : X.calm = true) : CallR X (.builtin "sorted") (rSortSetA X.w) := by
  intro pins s σ H vs us Q I r h
  obtain ⟨a, S, n, rfl, ha, hn, q⟩ := h
  rw [Vals.ref1 r]
  refine sorted_setA (setO_get I ha) (I.ok.hd hc) hn fun s' p out c ns k g o hp hg hi hs hm hl => ?_
  have hlen : (ns.map V.int).length ≤ sizeLine := by rw [List.length_map, hl]; exact hn
  have hn0 : H p = none := I.hok.fresh hp
  have J : Inv X pins σ (upd H p (.lst (ns.map V.int))) { s with heap := s'.heap, gens := s'.gens, drawn := s'.drawn, toks := s'.toks } :=
    I.call (ch := []) (Un.laid k hp hn0) (I.hok.laid k hp ⟨hlen, out.toList, c, vals_of_ints hi, hg⟩) (by rw [g]; exact I.bare) (fun _ z => nomatch z)
  have e : s' = { s with heap := s'.heap, gens := s'.gens, drawn := s'.drawn, toks := s'.toks } := by
    cases s'
    cases s
    cases o
    rfl
  rw [e]
  exact ⟨.ref p, _, J, rfl, q ns p hs hm hn0⟩
def rSetA (K : Frg) (w : World) : List V → Hp → VK → Prop := fun vs H Q => ∃ (a : Addr) (ns : List Int), vs = [V.ref a] ∧ (SqT K H a (ns.map V.int) ∨ SqL K H a (ns.map V.int)) ∧ ns.length ≤ 4000 ∧
  ∀ (p : Addr) (c : Nat), H p = none → c ≤ ns.length → Q (.ref p) (upd H p (SetO w p (fun j => decide (j ∈ ns)) c))
theorem cr_setA {X : Cx} (hc : X.calm = true) : CallR X (.type "set") (rSetA X.K X.w) := by
  intro pins s σ H vs us Q I r h
  obtain ⟨a, ns, rfl, hs, hl, q⟩ := h
  rw [Vals.ref1 r]
  rcases hs with hs | hs
  · obtain ⟨its, rv, pt, hz⟩ := I.tuple hs
    have hi : PyProof.Rows.IntsAre its.toArray.toList ns := ints_of_vals rv
    refine call_set_tupI ns (I.ok.hd hc) (show s.heap.IsTuple a its.toArray from pt) hi (by unfold scanBound; omega) fun h' tk c R1 hcn k => ?_
    exact ⟨.ref _, upd H s.heap.objs.size (SetO X.w s.heap.objs.size (fun j => decide (j ∈ ns)) c), I.laid (t' := tk) k (Nat.le_refl _) (setO_new R1), rfl, q _ c (I.hok.fresh (Nat.le_refl _)) hcn⟩
  · obtain ⟨its, rv, hl', hz⟩ := I.list hs
    have hi : PyProof.Rows.IntsAre its.toArray.toList ns := ints_of_vals rv
    refine call_set_lstI ns (I.ok.hd hc) hl'.isList hi (by unfold scanBound; omega) fun h' tk c R1 hcn k => ?_
    exact ⟨.ref _, upd H s.heap.objs.size (SetO X.w s.heap.objs.size (fun j => decide (j ∈ ns)) c), I.laid (t' := tk) k (Nat.le_refl _) (setO_new R1), rfl, q _ c (I.hok.fresh (Nat.le_refl _)) hcn⟩
end Dn

set_option Elab.async false
set_option linter.all false
set_option autoImplicit false
set_option maxRecDepth 100000
set_option maxHeartbeats 4000000
namespace Dn
open PySem PySem.Spec PyProof.Rows L2
/-! ### sorted(set(e)) -/
def seqI : PyData → Option (List Int)
  | .tuple xs => intsOf xs
  | .list xs => intsOf xs
  | _ => none
def dSrtSetA (da : DE) : DL := fun sl B => (da sl B).bind fun p => (seqI p.1).bind fun ns => if ns.length ≤ 4000 then some ((sdI ns).map PyData.int, p.2) else none
section
variable {X : Cx} {C : Fx} {a : Expr} {da : DE} {p q p2 pos : Pos}
theorem top_ints {K : Frg} {F H : Hp} {b : Bad} {v : V} {x : PyData} {ns : List Int} (fr : Ext F H) (e : seqI x = some ns) (h : TopR K F H b v x) : ∃ c, v = .ref c ∧ (SqT K H c (ns.map V.int) ∨ SqL K H c (ns.map V.int)) := by
  unfold seqI at e
  split at e
  · rename_i xs
    have e2 := intsOf_eq e
    subst e2
    obtain ⟨c, us, rfl, h1, h2⟩ := top_tup fr h
    have e3 := h2.ints
    subst e3
    exact ⟨c, rfl, .inl h1⟩
  · rename_i xs
    have e2 := intsOf_eq e
    subst e2
    obtain ⟨c, us, rfl, h1, h2, h3⟩ := (show ∃ a vs, v = .ref a ∧ H a = some (.lst vs) ∧ ¬ inb b a ∧ Rps K F vs (ns.map PyData.int) from h)
    have e3 := h3.ints
    subst e3
    exact ⟨c, rfl, .inr (SqL.of h1)⟩
  · cases e
theorem l_srtSetA (hm : X.mg "sorted" = none) (hm2 : X.mg "set" = none) (ha : PE X a (liftO X.K C da)) (hc : X.calm = true := by rfl) (hg : Gl X "sorted" := by rfl) (hg2 : Gl X "set" := by rfl)
    (he : starEach [.Call (.Name "set" q) [a] [] p2] X.env = (false, eval (.Call (.Name "set" q) [a] [] p2) X.env) :: starEach [] X.env := by rfl) (hpl : (backTo pos (starEach [] X.env)).any (·.1) = false := by rfl)
    (he2 : starEach [a] X.env = (false, eval a X.env) :: starEach [] X.env := by rfl) (hpl2 : (backTo p2 (starEach [] X.env)).any (·.1) = false := by rfl) :
    PE X (.Call (.Name "sorted" p) [.Call (.Name "set" q) [a] [] p2] [] pos) (liftL X.K C (dSrtSetA da)) :=
  imp_e (fun σ H Q ⟨sl, B, F, b, rr, B', R, e, kk⟩ => by
    obtain ⟨⟨x, B1⟩, e1, e⟩ := bnd e
    obtain ⟨ns, e2, e⟩ := bnd e
    split at e
    · rename_i hn
      cases e
      refine ⟨sl, B, F, b, _, _, R, e1, fun v H1 F1 b1 R1 S1 q1 => ?_⟩
      obtain ⟨p', rfl, h1⟩ := top_ints R1.fro e2 q1
      refine ⟨p', ns, rfl, h1, hn, fun t c ht hc2 => ?_⟩
      refine ⟨t, _, c, rfl, upd_same, by rw [sizeLine_eq]; omega, fun ns' l h3 h4 hl => ?_⟩
      have en : ns' = sdI ns := asc_ext h3 (sdI_asc ns) fun k => by rw [h4, sdI_mem, decide_eq_true_eq]
      subst en
      have R2 := R1.new (o := SetO X.w t (fun j => decide (j ∈ ns)) c) ht
      have S2 := S1.trans (Stp.new (o := SetO X.w t (fun j => decide (j ∈ ns)) c) ht)
      have h0 : H l = none := by
        cases z : H l with
        | none => rfl
        | some o => exact absurd hl (S2.tr l (by rw [z]; exact Option.some_ne_none _))
      exact kk l _ _ _ _ (R2.new hl) (S2.trans (Stp.new hl)) h0 (not_in_F R2.fro hl) (R2.nbx hl) upd_same (rps_ints _)
    · cases e)
    (pe_callB (cr_sortSetA hc) hg hm PyProof.Rows.boot_sorted (pa_cons (pe_callTy (cr_setA hc) hg2 hm2 PyProof.Rows.boot_set (pa_cons (hs := he2) ha pa_nil) (by decide) (by decide) he2 hpl2) pa_nil (hs := he)) (by decide) (by decide) he hpl)
end
end Dn

set_option Elab.async false
set_option linter.all false
set_option autoImplicit false
set_option maxRecDepth 100000
set_option maxHeartbeats 4000000
namespace Dn
open PySem PySem.Spec PyProof.Rows L2
/-! ### list(enumerate(x)) -/
/-- an enumerate object whose last tuple is held elsewhere -/
def EnHeld (h : Heap) (e it : Addr) (c : Int) (item : Value) (a : Addr) (f : Bool) : Prop :=
  h.get? e = some { cls := .type "enumerate", dict := none, data := .fields #[rawInt a, .bool f, .ref it, rawInt c, .none, item], slots := #[] }
section
variable {prog : Program} {w : World} {A : Around} {E : Value → Shared → Prop} {s : Shared}
theorem enum_next_held {e it a : Addr} {f : Bool} {oa : Obj} {fp : List Addr} {n i : Nat} {c : Int} {P : Nat → Value → Prop} {St : Nat → Heap → Prop} {item : Value} {Q : Value → Shared → Prop}
    (D : Draws prog w A it fp n P St) (he : EnHeld s.heap e it c item a f) (ha : s.heap.get? a = some oa) (hae : a ≠ e) (hai : a ≠ it) (hst : St i s.heap) (hlt : i < n) (hne : e ≠ it) (hef : e ∉ fp)
    (hQ : ∀ x h' tk, P i x → EnHeld h' e it (c + 1) item a true → St (i + 1) h' →
      h'.get? s.heap.objs.size = some { cls := .type "tuple", data := .seq #[.int c tk, x] } → h'.objs.size = s.heap.objs.size + 1 →
      (∀ b o, b ≠ e → b ≠ it → s.heap.get? b = some o → h'.get? b = some o) → Q (.ref s.heap.objs.size) { s with heap := h', toks := tk + 1 }) :
    wpAny (model prog w) A (Builtin.«enumerate.__next__» ⟨[.ref e], []⟩) (fun fin s' => ∃ v, fin = .done (.ret v) ∧ Q v s') E s := by
  obtain ⟨hp, g, d, tk₀, os⟩ := s
  replace he : hp.get? e = some { cls := .type "enumerate", dict := none, data := .fields #[rawInt a, .bool f, .ref it, rawInt c, .none, item], slots := #[] } := he
  show wpAny _ _ (field (.ref e) 2 >>= _) _ _ _
  refine wpAny_bind (wpAny_field he rfl (x := .ref it) rfl ?_)
  refine wpAny_bind (D.item i _ _ _ hlt hst fun x h₁ tk hPx hit₁ hs₁ => ?_)
  replace hs₁ : Heap.SameBut it hp h₁ := hs₁
  have he₁ : h₁.get? e = some { cls := .type "enumerate", dict := none, data := .fields #[rawInt a, .bool f, .ref it, rawInt c, .none, item], slots := #[] } := (hs₁.2 e hne).trans he
  show wpAny _ _ (field (.ref e) 3 >>= _) _ _ ⟨h₁, g, d, tk, os⟩
  refine wpAny_bind (wpAny_field he₁ rfl (x := rawInt c) rfl ?_)
  show wpAny _ _ (field (.ref e) 4 >>= _) _ _ ⟨h₁, g, d, tk, os⟩
  refine wpAny_bind (wpAny_field he₁ rfl (x := .none) rfl ?_)
  show wpAny _ _ (mkInt c >>= _) _ _ ⟨h₁, g, d, tk, os⟩
  refine wpAny_bind (wpAny_mkInt ?_)
  show wpAny _ _ (setField (.ref e) 3 (rawInt (c + 1)) >>= _) _ _ ⟨h₁, g, d, tk + 1, os⟩
  refine wpAny_bind (wpAny_setField_rec he₁ (by simp) fun h₂ he₂ hs₂ => ?_)
  replace hs₂ : Heap.SameBut e h₁ h₂ := hs₂
  replace he₂ : h₂.get? e = some { cls := .type "enumerate", dict := none, data := .fields #[rawInt a, .bool f, .ref it, rawInt (c + 1), .none, item], slots := #[] } := he₂
  show wpAny _ _ (setField (.ref e) 4 .none >>= _) _ _ ⟨h₂, g, d, tk + 1, os⟩
  refine wpAny_bind (wpAny_setField_rec he₂ (by simp) fun h₃ he₃ hs₃ => ?_)
  replace hs₃ : Heap.SameBut e h₂ h₃ := hs₃
  replace he₃ : h₃.get? e = some { cls := .type "enumerate", dict := none, data := .fields #[rawInt a, .bool f, .ref it, rawInt (c + 1), .none, item], slots := #[] } := he₃
  show wpAny _ _ (newTuple [.int c tk, x] >>= _) _ _ ⟨h₃, g, d, tk + 1, os⟩
  refine wpAny_bind (wpAny_newTuple ?_)
  have he₄ : (h₃.push { cls := .type "tuple", data := .seq #[.int c tk, x] }).get? e = some { cls := .type "enumerate", dict := none, data := .fields #[rawInt a, .bool f, .ref it, rawInt (c + 1), .none, item], slots := #[] } := Heap.get?_push_of_some _ he₃
  generalize hh₄ : h₃.push { cls := .type "tuple", data := .seq #[.int c tk, x] } = h₄ at he₄
  have hsz : h₃.objs.size = hp.objs.size := by rw [hs₃.1, hs₂.1, hs₁.1]
  have hel : e < hp.objs.size := Heap.lt_size he
  have ht₄ : h₄.get? hp.objs.size = some { cls := .type "tuple", data := .seq #[.int c tk, x] } := by rw [← hh₄, ← hsz]; exact Heap.get?_push_size _ rfl
  have hz₄ : h₄.objs.size = hp.objs.size + 1 := by rw [← hh₄, Heap.size_push, hsz]
  have hk₄ : ∀ b o, b ≠ e → b ≠ it → hp.get? b = some o → h₄.get? b = some o := fun b o hbe hbi hb => by
    rw [← hh₄]; exact Heap.get?_push_of_some _ (hs₃.extBut b o hbe (hs₂.extBut b o hbe (hs₁.extBut b o hbi hb)))
  have hit₄ : St (i + 1) h₄ := D.frame _ _ _ hit₁ fun b hb o y => by
    have hbe : b ≠ e := fun q => hef (q ▸ hb)
    rw [← hh₄]; exact Heap.get?_push_of_some _ (hs₃.extBut b o hbe (hs₂.extBut b o hbe y))
  have ha₄ : h₄.get? a = some oa := hk₄ a oa hae hai ha
  show wpAny _ _ (Builtin.SmallTypes.ownedTupleIsFree (.ref e) >>= _) _ _ ⟨h₄, g, d, tk + 1, os⟩
  rw [hsz]
  clear hh₄ he₃ hs₃ he₂ hs₂ he₁ hs₁ hit₁ hsz h₃ h₂ h₁
  refine wpAny_bind ?_
  unfold Builtin.SmallTypes.ownedTupleIsFree
  refine wpAny_bind (wpAny_field he₄ rfl (x := rawInt a) rfl ?_)
  show wpAny _ _ (loadIfAlive ((a : Int).toNat) >>= _) _ _ _
  rw [Int.toNat_natCast]
  refine wpAny_bind (PySem.W.kdx_alive ha₄ ?_)
  simp only [Option.isNone_some, Bool.false_eq_true, if_false]
  refine wpAny_bind (wpAny_field he₄ rfl (x := .bool f) rfl ?_)
  have fin : ∀ h₅ : Heap, EnHeld h₅ e it (c + 1) item a true → Heap.SameBut e h₄ h₅ → Q (.ref hp.objs.size) ⟨h₅, g, d, tk + 1, os⟩ := fun h₅ he₅ hs₅ =>
    hQ x h₅ tk hPx he₅ (D.frame _ _ _ hit₄ fun b hb o y => hs₅.extBut b o (fun q => hef (q ▸ hb)) y) (hs₅.extBut _ _ (Nat.ne_of_gt hel) ht₄) (by show h₅.objs.size = hp.objs.size + 1; rw [hs₅.1, hz₄]) fun b o hbe hbi hb => hs₅.extBut b o hbe (hk₄ b o hbe hbi hb)
  cases f with
  | true =>
    rw [if_neg (show ¬ ((Value.bool true != Value.bool true) = true) from Bool.false_ne_true)]
    refine wpAny_pure ?_
    simp only [Bool.false_eq_true, if_false]
    exact wpAny_pure ⟨_, rfl, fin h₄ he₄ (Heap.SameBut.refl _ _)⟩
  | false =>
    rw [if_pos (show (Value.bool false != Value.bool true) = true from rfl)]
    refine wpAny_bind (wpAny_setField_rec he₄ (by simp) fun h₅ he₅ hs₅ => ?_)
    replace hs₅ : Heap.SameBut e h₄ h₅ := hs₅
    refine wpAny_pure ?_
    simp only [Bool.false_eq_true, if_false]
    exact wpAny_pure ⟨_, rfl, fin h₅ he₅ hs₅⟩
theorem pyNext_en_held {e it a : Addr} {f : Bool} {oa : Obj} {fp : List Addr} {n i : Nat} {c : Int} {P : Nat → Value → Prop} {St : Nat → Heap → Prop} {item : Value} {Q : Option Value → Shared → Prop}
    (D : Draws prog w A.in1 it fp n P St) (he : EnHeld s.heap e it c item a f) (ha : s.heap.get? a = some oa) (hae : a ≠ e) (hai : a ≠ it) (hst : St i s.heap) (hlt : i < n) (hne : e ≠ it) (hef : e ∉ fp)
    (hQ : ∀ x h' tk, P i x → EnHeld h' e it (c + 1) item a true → St (i + 1) h' →
      h'.get? s.heap.objs.size = some { cls := .type "tuple", data := .seq #[.int c tk, x] } → h'.objs.size = s.heap.objs.size + 1 →
      (∀ b o, b ≠ e → b ≠ it → s.heap.get? b = some o → h'.get? b = some o) → Q (some (.ref s.heap.objs.size)) { s with heap := h', toks := tk + 1 }) :
    wpAny (model prog w) A (pyNext (.ref e)) Q E s := by
  have hT : s.TypeIs (.ref e) "enumerate" := ⟨_, he, rfl⟩
  unfold pyNext
  exact wpAny_bind (wpAny_attempt (wpAny_callSpecial?_slot (name := Str.ofString "__next__") hT F.slot_enumerate_next
    (wpAny_call_entry F.slot_enumerate_next hT F.entry_enumerate_next
      (enum_next_held D he ha hae hai hst hlt hne hef fun x h' tk a b c d k q => wpAny_pure (hQ x h' tk a b c d k q)) (F.args_enumerate_next_1 _))))
theorem pyNext_en_end {e it a : Addr} {f : Bool} {fp : List Addr} {n : Nat} {P : Nat → Value → Prop} {St : Nat → Heap → Prop} {c : Int} {item : Value} {Q : Option Value → Shared → Prop}
    (D : Draws prog w A.in1 it fp n P St) (he : EnHeld s.heap e it c item a f) (hst : St n s.heap)
    (hQ : ∀ h', Heap.ExtBut it s.heap h' → Q none { s with heap := h' }) : wpAny (model prog w) A (pyNext (.ref e)) Q E s := by
  have hT : s.TypeIs (.ref e) "enumerate" := ⟨_, he, rfl⟩
  unfold pyNext
  refine wpAny_bind (wpAny_attempt (wpAny_callSpecial?_slot (name := Str.ofString "__next__") hT F.slot_enumerate_next
    (wpAny_call_entry F.slot_enumerate_next hT F.entry_enumerate_next ?_ (F.args_enumerate_next_1 _))))
  show wpAny _ _ (field (.ref e) 2 >>= _) _ _ _
  refine wpAny_bind (wpAny_field (show s.heap.get? e = some _ from he) rfl (x := .ref it) rfl ?_)
  refine wpAny_bind (D.done _ _ _ hst fun h' x he' hx' => ?_)
  obtain ⟨o, ho, hc⟩ := hx'
  refine wpAny_bind (wpAny_isInstance (T := "StopIteration") (b := true) ⟨o, ho, hc⟩ isSubtype_stop ?_)
  exact wpAny_pure (hQ _ he')
end
/-- the walk's state: S is the list that is filled -/
def EnSt (h : Heap) (e it S : Addr) (i : Nat) : Prop :=
  (i = 0 ∧ ∃ old, IsEnum h e it 0 old) ∨ ∃ item a f oa, EnHeld h e it (i : Int) item a f ∧ h.get? a = some oa ∧ a ≠ e ∧ a ≠ it ∧ a ≠ S
theorem EnSt.keep {h h' : Heap} {e it S : Addr} {i : Nat} (x : EnSt h e it S i) (hk : ∀ b o, b ≠ S → h.get? b = some o → h'.get? b = some o) (hI : e ≠ S) : EnSt h' e it S i := by
  rcases x with ⟨e0, old, he⟩ | ⟨item, a, f, oa, he, ha, h1, h2, h3⟩
  · exact .inl ⟨e0, old, hk _ _ hI he⟩
  · exact .inr ⟨item, a, f, oa, hk _ _ hI he, hk _ _ h3 ha, h1, h2, h3⟩
structure EnG (items : Array Value) (lo : Addr) (h : Heap) (as : List Addr) : Prop where
  rise : as.Pairwise (· < ·)
  above : ∀ a ∈ as, lo < a
  pairs : ∀ (j : Nat) (a : Addr), as[j]? = some a → ∃ (tk : Tok) (x : Value), items[j]? = some x ∧ h.get? a = some { cls := .type "tuple", data := .seq #[.int (j : Nat) tk, x] }
theorem EnG.there {items : Array Value} {lo : Addr} {h : Heap} {as : List Addr} (g : EnG items lo h as) {a : Addr} (ha : a ∈ as) : a < h.objs.size := by
  obtain ⟨j, hj⟩ := List.mem_iff_getElem?.mp ha
  obtain ⟨_, _, _, e⟩ := g.pairs j a hj
  exact Heap.lt_size e
section
variable {prog : Program} {w : World} {A : Around} {E : Value → Shared → Prop} {s : Shared} {items : Array Value} {St : Nat → Heap → Prop} {fp : List Addr} {e it : Addr}
theorem en_item {S : Addr} {i : Nat} {Q : Option Value → Shared → Prop} (D : Draws prog w A.in1 it fp items.size (fun i v => items[i]? = some v) St) (hst : EnSt s.heap e it S i) (hSt : St i s.heap) (hS : S < s.heap.objs.size) (hlt : i < items.size) (hne : e ≠ it) (hef : e ∉ fp)
    (hQ : ∀ x h' tk, items[i]? = some x → EnSt h' e it S (i + 1) → St (i + 1) h' → h'.get? s.heap.objs.size = some { cls := .type "tuple", data := .seq #[.int (i : Nat) tk, x] } → h'.objs.size = s.heap.objs.size + 1 →
      (∀ b o, b ≠ e → b ≠ it → s.heap.get? b = some o → h'.get? b = some o) → Q (some (.ref s.heap.objs.size)) { s with heap := h', toks := tk + 1 }) :
    wpAny (model prog w) A (pyNext (.ref e)) Q E s := by
  rcases hst with ⟨rfl, old, he⟩ | ⟨item, a, f, oa, he, ha, h1, h2, h3⟩
  · have hel := Heap.lt_size he
    have hil : it < s.heap.objs.size := by obtain ⟨_, y⟩ := D.live _ _ hSt; exact Heap.lt_size y
    refine wpAny_pyNext_enum_itemC D he hSt hlt hne hef fun x h' tk hP ho hs' hT hsz hk => hQ x h' tk hP (.inr ⟨x, s.heap.objs.size, false, _, ?_, hT, Nat.ne_of_gt hel, Nat.ne_of_gt hil, Nat.ne_of_gt hS⟩) hs' hT hsz hk
    exact ho
  · exact pyNext_en_held D he ha h1 h2 hSt hlt hne hef fun x h' tk hP ho hs' hT hsz hk => hQ x h' tk hP (.inr ⟨item, a, true, oa, by rw [show (((i + 1 : Nat) : Int)) = (i : Int) + 1 from rfl]; exact ho, hk a oa h1 h2 ha, h1, h2, h3⟩) hs' hT hsz hk
theorem en_done {S : Addr} {i : Nat} {Q : Option Value → Shared → Prop} (D : Draws prog w A.in1 it fp items.size (fun i v => items[i]? = some v) St) (hst : EnSt s.heap e it S i) (hSt : St items.size s.heap)
    (hQ : ∀ h', Heap.ExtBut it s.heap h' → Q none { s with heap := h' }) : wpAny (model prog w) A (pyNext (.ref e)) Q E s := by
  rcases hst with ⟨_, old, he⟩ | ⟨item, a, f, oa, he, _⟩
  · exact wpAny_pyNext_enum_endD D he hSt hQ
  · exact pyNext_en_end D he hSt hQ
end
section
variable {prog : Program} {w : World} {A : Around} {s : Shared} {R : Result → Shared → Prop} {items : Array Value} {St : Nat → Heap → Prop} {fp : List Addr} {e it : Addr}
theorem en_loop {S : Addr} (D : Draws prog w A.in1.in1 it fp items.size (fun i v => items[i]? = some v) St) (heS : e < S) (hiS : it < S) (hne : e ≠ it) (hef : e ∉ fp) (hfS : S ∉ fp) (hn : items.size ≤ sizeLine) (res : Value) {h₁ : Heap}
    (hR : ∀ h' tk acc c as, (∀ b o, b ≠ S → b ≠ e → b ≠ it → h₁.get? b = some o → h'.get? b = some o) → h'.get? S = some { cls := .type "list", dict := none, data := .seq acc c, slots := #[] } → as.length = items.size → EnG items S h' as →
      acc.toList = as.map Value.ref → R (.ok (.ret res)) { s with heap := h', toks := tk }) :
    ∀ (k i : Nat) (h : Heap) (tk c : Nat) (acc : Array Value) (as : List Addr), items.size - i = k → i ≤ items.size → EnSt h e it S i → St i h → (∀ b o, b ≠ S → b ≠ e → b ≠ it → h₁.get? b = some o → h.get? b = some o) →
      h.get? S = some { cls := .type "list", dict := none, data := .seq acc c, slots := #[] } → acc.toList = as.map Value.ref → as.length = i → EnG items S h as →
      codeAny (model prog w) A (.builtin "list.extend.loop" ⟨[.ref S, .ref e, res], []⟩) R { s with heap := h, toks := tk } := by
  have hSe : S ≠ e := Nat.ne_of_gt heS
  have hSi : S ≠ it := Nat.ne_of_gt hiS
  intro k
  induction k with
  | zero =>
    intro i h tk c acc as hk hi hst hSt hkeep hS hacc hal hG
    have hin : i = items.size := by omega
    refine codeAny_builtin PySem.F.entry_extend_loop ?_
    rw [Around.under_plainId PySem.F.plain_extend_loop _]
    show wpAny _ A.in1 (pyNext (.ref e) >>= _) _ _ _
    refine wpAny_bind (en_done (s := { s with heap := h, toks := tk }) (A := A.in1) D hst (by rw [← hin]; exact hSt) fun h' he => ?_)
    refine wpAny_pure (hR h' tk acc c as (fun b o h1 h2 h3 q => he b o h3 (hkeep b o h1 h2 h3 q)) (he S _ hSi hS) (by omega) ⟨hG.rise, hG.above, fun j a hj => ?_⟩ hacc)
    obtain ⟨tk', x, e2, e3⟩ := hG.pairs j a hj
    exact ⟨tk', x, e2, he a _ (Nat.ne_of_gt (Nat.lt_trans hiS (hG.above a (List.mem_of_getElem? hj)))) e3⟩
  | succ k ih =>
    intro i h tk c acc as hk hi hst hSt hkeep hS hacc hal hG
    have hlt : i < items.size := by omega
    have hsz : acc.size = i := by rw [← Array.length_toList, hacc, List.length_map, hal]
    refine codeAny_builtin PySem.F.entry_extend_loop ?_
    rw [Around.under_plainId PySem.F.plain_extend_loop _]
    show wpAny _ A.in1 (pyNext (.ref e) >>= _) _ _ _
    refine wpAny_bind (en_item (s := { s with heap := h, toks := tk }) (S := S) (A := A.in1) D hst hSt (Heap.lt_size hS) hlt hne hef fun x h' tk' hx hst' hSt' ht hz hkp => ?_)
    dsimp only at ht hz hkp ⊢
    have hS' := hkp S _ hSe hSi hS
    have up : ∀ b o, b ≠ S → h'.get? b = some o → (h'.update S (Obj.mapSeq (·.push (Value.ref h.objs.size)))).get? b = some o := fun b o hb q => (Heap.get?_update_other _ _ (Ne.symm hb)).trans q
    have hSl : S < h.objs.size := Heap.lt_size hS
    show wpAny _ A.in1 (updateSeq S (·.push (Value.ref h.objs.size)) >>= _) _ _ _
    refine wpAny_bind ?_
    refine wpAny_updateSeq hS' rfl (wpAny_pure ⟨plainId_quiet PySem.F.plain_extend_loop _, ih (i + 1) _ (tk' + 1) _ (acc.push (Value.ref h.objs.size)) (as ++ [h.objs.size]) (by omega) hlt (hst'.keep up (Ne.symm hSe)) (D.frame _ _ _ hSt' fun b hb o q => up b o (fun z => hfS (z ▸ hb)) q)
      (fun b o h1 h2 h3 q => up b o h1 (hkp b o h2 h3 (hkeep b o h1 h2 h3 q))) (Heap.get?_update_self _ hS' rfl) (by rw [Array.toList_push, hacc, List.map_append]; rfl) (by rw [List.length_append, hal]; rfl) ⟨?_, ?_, ?_⟩⟩) (by rw [hsz]; omega) (by show (acc.push (Value.ref h.objs.size)).size ≤ sizeLine + 1; rw [Array.size_push, hsz]; omega)
    · refine List.pairwise_append.mpr ⟨hG.rise, List.pairwise_singleton _ _, fun a ha b hb => ?_⟩
      rw [List.mem_singleton.mp hb]
      exact hG.there ha
    · intro a ha
      rcases List.mem_append.mp ha with ha | ha
      · exact hG.above a ha
      · rw [List.mem_singleton.mp ha]; exact hSl
    · intro j b hj
      rcases Nat.lt_trichotomy j as.length with h1 | h1 | h1
      · rw [List.getElem?_append_left h1] at hj
        obtain ⟨tk2, x2, e2, e3⟩ := hG.pairs j b hj
        have hb := hG.above b (List.mem_of_getElem? hj)
        exact ⟨tk2, x2, e2, up b _ (Nat.ne_of_gt hb) (hkp b _ (Nat.ne_of_gt (Nat.lt_trans heS hb)) (Nat.ne_of_gt (Nat.lt_trans hiS hb)) e3)⟩
      · subst h1
        have hb : h.objs.size = b := by simpa using hj
        subst hb
        subst hal
        exact ⟨tk', x, hx, up _ _ (Nat.ne_of_gt hSl) ht⟩
      · have hnone : (as ++ [h.objs.size])[j]? = none := List.getElem?_eq_none (by rw [List.length_append, List.length_singleton]; omega)
        rw [hnone] at hj; cases hj
end
theorem nolen_en : typeLookup (.type "enumerate") "__len__" = pure none := by rw [typeLookup_type, builtinLookup_eq_fast]; kernel_rfl
theorem nohint_en : typeLookup (.type "enumerate") "__length_hint__" = pure none := by rw [typeLookup_type, builtinLookup_eq_fast]; kernel_rfl
section
variable {prog : Program} {w : World} {A : Around} {s : Shared} {R : Result → Shared → Prop} {items : Array Value} {St : Nat → Heap → Prop} {fp : List Addr} {e it : Addr}
theorem en_extend {S : Addr} (D : Draws prog w A.in1.in1 it fp items.size (fun i v => items[i]? = some v) St) (heS : e < S) (hiS : it < S) (hne : e ≠ it) (hef : e ∉ fp) (hfS : S ∉ fp) (hn : items.size ≤ sizeLine) (res : Value) (c₀ : Nat)
    (he : IsEnum s.heap e it 0 .none) (hst : St 0 s.heap) (hS : s.heap.get? S = some { cls := .type "list", data := .seq #[] c₀ })
    (hR : ∀ h' tk acc c as, (∀ b o, b ≠ S → b ≠ e → b ≠ it → s.heap.get? b = some o → h'.get? b = some o) → h'.get? S = some { cls := .type "list", dict := none, data := .seq acc c, slots := #[] } → as.length = items.size → EnG items S h' as →
      acc.toList = as.map Value.ref → R (.ok (.ret res)) { s with heap := h', toks := tk }) :
    wpAny (model prog w) A.in1 (Builtin.List.listExtendWith (.ref S) (.ref e) res)
      (fun fin s' => match fin with | .done f => R (.ok f) s' | .again c' => c'.quiet = true ∧ codeAny (model prog w) A c' R s') (fun e s' => R (.error e) s') s := by
  have hSe : S ≠ e := Nat.ne_of_gt heS
  have hT : s.TypeIs (.ref e) "enumerate" := ⟨_, he, rfl⟩
  unfold Builtin.List.listExtendWith
  refine wpAny_bind (wpAny_typeOf hT ?_)
  have h1 : Builtin.List.listSameRef (.ref S) (.ref e) = false := by simp [Builtin.List.listSameRef, hSe]
  have h2 : (Value.type "enumerate" == Value.type "list") = false := by decide
  have h3 : (Value.type "enumerate" == Value.type "tuple") = false := by decide
  simp only [h1, h2, h3, Bool.or_false, Bool.false_eq_true, if_false]
  refine wpAny_bind (wpAny_pyIter_enum he ?_)
  refine wpAny_bind (wpAny_holding ?_)
  unfold Builtin.List.listLengthHint
  refine wpAny_bind (wpAny_specialOf hT nolen_en ?_)
  show wpAny _ A.in1 (specialOf (Value.ref e) (Str.ofString "__length_hint__") >>= _) _ _ _
  refine wpAny_bind (wpAny_specialOf hT nohint_en ?_)
  refine wpAny_pure ?_
  show wpAny _ A.in1 (rule "list.extend.makes-room" >>= fun _ => Builtin.List.listTouch (.ref S) >>= fun _ =>
    again (.builtin "list.extend.loop" ⟨[.ref S, .ref e, res], []⟩)) _ _ _
  refine wpAny_bind (wpAny_rule ?_)
  refine wpAny_bind ?_
  show wpAny _ A.in1 (updateSeq S (·.push .none) >>= fun _ => updateSeq S (·.pop)) _ _ _
  refine wpAny_bind (wpAny_updateSeq hS rfl ?_)
  have hS₂ := Heap.get?_update_self (Obj.mapSeq (·.push Value.none)) hS rfl
  refine wpAny_updateSeq (hz := by seq_fits) hS₂ rfl ?_
  have hS₃ := Heap.get?_update_self (Obj.mapSeq (·.pop)) hS₂ rfl
  have oth : ∀ b o, b ≠ S → s.heap.get? b = some o → ((s.heap.update S (Obj.mapSeq (·.push Value.none))).update S (Obj.mapSeq (·.pop))).get? b = some o :=
    fun b o hb e => (Heap.get?_update_other _ _ (Ne.symm hb)).trans ((Heap.get?_update_other _ _ (Ne.symm hb)).trans e)
  refine wpAny_pure ⟨plainId_quiet F.plain_extend_loop _, ?_⟩
  exact en_loop (s := s) (h₁ := s.heap) D heS hiS hne hef hfS hn res (fun h' tk acc c as hk hS' hl hG ha => hR h' tk acc c as hk hS' hl hG ha) items.size 0 _ s.toks _ #[] [] (Nat.sub_zero _) (Nat.zero_le _) (.inl ⟨rfl, .none, oth _ _ (Ne.symm hSe) he⟩)
    (D.frame _ _ _ hst fun b hb o q => oth b o (fun z => hfS (z ▸ hb)) q) (fun b o h1 _ _ q => oth b o h1 q) hS₃ rfl rfl ⟨List.Pairwise.nil, (fun _ ha => nomatch ha), (fun j a hj => by simp at hj)⟩
theorem en_init {S : Addr} (D : Draws prog w A.in1.in1 it fp items.size (fun i v => items[i]? = some v) St) (heS : e < S) (hiS : it < S) (hne : e ≠ it) (hef : e ∉ fp) (hfS : S ∉ fp) (hn : items.size ≤ sizeLine)
    (he : IsEnum s.heap e it 0 .none) (hst : St 0 s.heap) (hS : s.heap.get? S = some { cls := .type "list", data := .seq #[] })
    (hR : ∀ h' tk acc c as, (∀ b o, b ≠ S → b ≠ e → b ≠ it → s.heap.get? b = some o → h'.get? b = some o) → h'.get? S = some { cls := .type "list", dict := none, data := .seq acc c, slots := #[] } → as.length = items.size → EnG items S h' as →
      acc.toList = as.map Value.ref → R (.ok (.ret .none)) { s with heap := h', toks := tk }) :
    wpAny (model prog w) A.in1 (Builtin.«list.__init__» ⟨[.ref S, .ref e], []⟩)
      (fun fin s' => match fin with | .done f => R (.ok f) s' | .again c' => c'.quiet = true ∧ codeAny (model prog w) A c' R s') (fun e s' => R (.error e) s') s := by
  show wpAny _ _ (do let old ← Builtin.List.listItems (.ref S); Builtin.List.listUpdate (.ref S) (fun _ => #[]); letGo old.toList.reverse; Builtin.List.listExtendWith (.ref S) (.ref e) .none) _ _ s
  refine wpAny_bind ?_
  unfold Builtin.List.listItems
  refine wpAny_bind (wpAny_seqItems hS rfl (wpAny_pure ?_))
  show wpAny _ _ (updateSeq S (fun _ => #[]) >>= fun _ => letGo (#[] : Array Value).toList.reverse >>= fun _ => Builtin.List.listExtendWith (.ref S) (.ref e) .none) _ _ s
  refine wpAny_bind (wpAny_updateSeq hS rfl ?_)
  have hS₂ := Heap.get?_update_self (Obj.mapSeq (fun _ => (#[] : Array Value))) hS rfl
  have oth : ∀ b o, b ≠ S → s.heap.get? b = some o → (s.heap.update S (Obj.mapSeq (fun _ => (#[] : Array Value)))).get? b = some o :=
    fun b o hb e => (Heap.get?_update_other _ _ (Ne.symm hb)).trans e
  refine wpAny_bind (wpAny_letGo ?_)
  exact en_extend (s := { s with heap := s.heap.update S (Obj.mapSeq (fun _ => (#[] : Array Value))) }) D heS hiS hne hef hfS hn .none _ (oth _ _ (Nat.ne_of_lt heS) he) (D.frame _ _ _ hst fun b hb o q => oth b o (fun z => hfS (z ▸ hb)) q) hS₂
    fun h' tk acc c as hk hS' hl hG hacc => hR h' tk acc c as (fun b o h1 h2 h3 q => hk b o h1 h2 h3 (oth b o h1 q)) hS' hl hG hacc
end
section
variable {prog : Program} {w : World} {A : Around} {E : Value → Shared → Prop} {s : Shared} {items : Array Value} {St : Nat → Heap → Prop} {fp : List Addr} {e it : Addr}
/-- list(e), e an enumerate object that has given nothing yet -/
theorem en_call {Q : Value → Shared → Prop} (D : Draws prog w A.in1.in1.in1 it fp items.size (fun i v => items[i]? = some v) St) (hne : e ≠ it) (hef : e ∉ fp) (hfp : ∀ b ∈ fp, b < s.heap.objs.size) (hn : items.size ≤ sizeLine)
    (he : IsEnum s.heap e it 0 .none) (hst : St 0 s.heap)
    (hQ : ∀ h' tk acc c as, (∀ b o, b ≠ e → b ≠ it → s.heap.get? b = some o → h'.get? b = some o) → h'.get? s.heap.objs.size = some { cls := .type "list", dict := none, data := .seq acc c, slots := #[] } → as.length = items.size → EnG items s.heap.objs.size h' as →
      acc.toList = as.map Value.ref → Q (.ref s.heap.objs.size) { s with heap := h', toks := tk }) :
    wpAny (model prog w) A (call (.type "list") [.ref e]) Q E s := by
  have hSf : s.heap.objs.size ∉ fp := fun hm => Nat.lt_irrefl _ (hfp _ hm)
  have hel := Heap.lt_size he
  have hil : it < s.heap.objs.size := by obtain ⟨_, y⟩ := D.live _ _ hst; exact Heap.lt_size y
  refine callType_codes (Q₁ := fun obj s₁ => obj = .ref s.heap.objs.size ∧ s₁ = { s with heap := s.heap.push { cls := .type "list", data := .seq #[] } }) F.called_list (F.typeCall_list_1 _) F.entry_list_init
    (code_list_new _ ⟨rfl, rfl⟩) fun obj s₁ h₁ => ?_
  obtain ⟨rfl, rfl⟩ := h₁
  have hS : (s.heap.push { cls := .type "list", data := .seq #[] }).get? s.heap.objs.size = some { cls := .type "list", data := .seq #[] } := Heap.get?_push_size _ rfl
  refine ⟨⟨_, hS, rfl⟩, F.args_list_init_2 _ _, en_init (s := { s with heap := s.heap.push { cls := .type "list", data := .seq #[] } }) (A := A.in1) D hel hil hne hef hSf hn (Heap.get?_push_of_some _ he) (D.frame _ _ _ hst fun b _ o q => Heap.get?_push_of_some _ q) hS fun h' tk acc c as hk hS' hl hG hacc => ?_⟩
  exact ⟨rfl, hQ h' tk acc c as (fun b o h1 h2 q => hk b o (Nat.ne_of_lt (Heap.lt_size q)) h1 h2 (Heap.get?_push_of_some _ q)) hS' hl hG hacc⟩
end
end Dn

set_option Elab.async false
set_option linter.all false
set_option autoImplicit false
set_option maxRecDepth 100000
set_option maxHeartbeats 4000000
namespace Dn
open PySem PySem.Spec PyProof.Rows L2 RT
/-! ### new tuples, tracked -/
def putL : Hp → List Addr → List (List V) → Hp
  | H, a :: as, t :: ts => putL (upd H a (.tup t)) as ts
  | H, _, _ => H
theorem putL_off {b : Addr} : ∀ (as : List Addr) (ts : List (List V)) (H : Hp), b ∉ as → putL H as ts b = H b
  | [], _, _, _ => rfl
  | _ :: _, [], _, _ => rfl
  | a :: as, p :: ts, H, h => by
    show putL (upd H a (.tup p)) as ts b = H b
    rw [putL_off as ts _ (fun z => h (List.mem_cons_of_mem _ z)), upd_ne (fun z => h (by rw [z]; exact List.mem_cons_self))]
theorem putL_at : ∀ (as : List Addr) (ts : List (List V)) (H : Hp), as.length = ts.length → as.Nodup → Paired (fun (a : Addr) (t : List V) => putL H as ts a = some (.tup t)) as ts
  | [], [], _, _, _ => .nil
  | [], _ :: _, _, h, _ => by cases h
  | _ :: _, [], _, h, _ => by cases h
  | a :: as, p :: ts, H, h, hn => by
    have hn' := List.nodup_cons.mp hn
    have ih := putL_at as ts (upd H a (.tup p)) (Nat.succ.inj h) hn'.2
    refine .cons ?_ ih
    show putL (upd H a (.tup p)) as ts a = some (.tup p)
    rw [putL_off as ts _ hn'.1, upd_same]
theorem putL_al {F' H' : Hp} : ∀ (as : List Addr) (ts : List (List V)) (F H : Hp), (∀ a ∈ as, H a = none) → as.Nodup → Al (putL F as ts) (putL H as ts) F' H' → Al F H F' H'
  | [], [], _, _, _, _, x => x
  | [], _ :: _, _, _, _, _, x => x
  | _ :: _, [], _, _, _, _, x => x
  | a :: as, p :: ts, F, H, h, hn, x => by
    have hn' := List.nodup_cons.mp hn
    refine .fz (h a List.mem_cons_self) (putL_al as ts (upd F a (.tup p)) (upd H a (.tup p)) (fun b hb => ?_) hn'.2 x)
    rw [upd_ne (fun z => hn'.1 (by rw [← z]; exact hb))]
    exact h b (List.mem_cons_of_mem _ hb)
theorem putL_ext {F : Hp} (as : List Addr) (ts : List (List V)) (h : ∀ a ∈ as, F a = none) (b : Addr) (o : HO) (e : F b = some o) : putL F as ts b = some o := by
  rw [putL_off as ts F (fun z => by rw [h b z] at e; cases e)]
  exact e
section
variable {X : Cx}
theorem tups_laid {pins : List (Addr × Obj)} {σ : L2.St} {H : Hp} {s : Shared} {h' : Heap} {tk : Nat} {as : List Addr} {ts : List (List V)} (I : Inv X pins σ H s) (hk : ∀ b o, s.heap.get? b = some o → h'.get? b = some o)
    (lo : ∀ a ∈ as, s.heap.objs.size ≤ a) (nd : as.Nodup) (hl : as.length = ts.length) (hT : ∀ (j : Nat) (a : Addr) (t : List V), as[j]? = some a → ts[j]? = some t → t.length ≤ sizeLine ∧ ∃ its : List Value, Vals t its ∧ IsTup h' a its.toArray) :
    Inv X pins σ (putL H as ts) { s with heap := h', toks := tk } := by
  have new : ∀ t ∈ as, H t = none := fun t ht => I.hok.fresh (lo t ht)
  have atP := putL_at as ts H hl nd
  have low : ∀ b o, s.heap.get? b = some o → b ∉ as := fun b o e z => absurd (Heap.lt_size e) (Nat.not_lt.mpr (lo b z))
  have kp : ∀ b u, H b = some u → (putL H as ts) b = some u := fun b u e => putL_ext as ts new b u e
  refine I.call' (ch := []) rfl ⟨fun b o q _ _ _ => hk b o q, fun b o q _ _ _ => ⟨o.slots, hk b o q⟩, fun b o q n _ => ?_, fun b o q _ => ⟨o, hk b o q⟩, fun b xs q => kp b _ q, fun b o u q => kp b _ q, fun b ps q => ⟨#[], by rw [kp b _ q]; simp⟩⟩ (fun b u q => ?_) I.bare fun b z => by simp at z
  · rw [putL_off as ts H (low b o q)]
    exact n
  · by_cases hb : b ∈ as
    · obtain ⟨j, pk, e1, e2, e3⟩ := LiI.paired_ix atP hb
      rw [e3] at q
      cases q
      exact hT j b pk e1 e2
    · rw [putL_off as ts H hb] at q
      exact (I.hok b u q).stay (fun d v _ y => hk d v y) (fun d y => kp d _ y) fun d xs y => kp d _ y
/-- and a list of them -/
theorem tups_list {pins : List (Addr × Obj)} {σ : L2.St} {H : Hp} {s : Shared} {h' : Heap} {tk : Nat} {as : List Addr} {ts : List (List V)} {S : Addr} {acc : Array Value} {c : Nat} (I : Inv X pins σ H s) (hk : ∀ b o, s.heap.get? b = some o → h'.get? b = some o)
    (lo : ∀ a ∈ as, s.heap.objs.size ≤ a) (nd : as.Nodup) (hl : as.length = ts.length) (hT : ∀ (j : Nat) (a : Addr) (t : List V), as[j]? = some a → ts[j]? = some t → t.length ≤ sizeLine ∧ ∃ its : List Value, Vals t its ∧ IsTup h' a its.toArray)
    (hS : s.heap.objs.size ≤ S) (hSn : S ∉ as) (hz : as.length ≤ sizeLine) (hSg : h'.get? S = some { cls := .type "list", dict := none, data := .seq acc c, slots := #[] }) (hacc : acc.toList = as.map Value.ref) :
    Inv X pins σ (upd (putL H as ts) S (.lst (as.map V.ref))) { s with heap := h', toks := tk } := by
  have new : ∀ t ∈ as, H t = none := fun t ht => I.hok.fresh (lo t ht)
  have newS : H S = none := I.hok.fresh hS
  have newS2 : putL H as ts S = none := by rw [putL_off as ts H hSn]; exact newS
  have atP := putL_at as ts H hl nd
  have low : ∀ b o, s.heap.get? b = some o → b ∉ as := fun b o e z => absurd (Heap.lt_size e) (Nat.not_lt.mpr (lo b z))
  have lowS : ∀ b o, s.heap.get? b = some o → b ≠ S := fun b o e z => absurd (Heap.lt_size e) (Nat.not_lt.mpr (by rw [z]; exact hS))
  have kp : ∀ b u, H b = some u → (upd (putL H as ts) S (.lst (as.map V.ref))) b = some u := fun b u e => by
    rw [upd_ne (fun z => by rw [z, newS] at e; cases e)]
    exact putL_ext as ts new b u e
  have kp2 : ∀ b u, putL H as ts b = some u → (upd (putL H as ts) S (.lst (as.map V.ref))) b = some u := fun b u e => by
    rw [upd_ne (fun z => by rw [z, newS2] at e; cases e)]
    exact e
  refine I.call' (ch := []) rfl ⟨fun b o q _ _ _ => hk b o q, fun b o q _ _ _ => ⟨o.slots, hk b o q⟩, fun b o q n _ => ?_, fun b o q _ => ⟨o, hk b o q⟩, fun b xs q => kp b _ q, fun b o u q => kp b _ q, fun b ps q => ⟨#[], by rw [kp b _ q]; simp⟩⟩ (fun b u q => ?_) I.bare fun b z => by simp at z
  · rw [upd_ne (lowS b o q), putL_off as ts H (low b o q)]
    exact n
  · by_cases hb : b = S
    · subst hb
      rw [upd_same] at q
      cases q
      refine ⟨by rw [List.length_map]; exact hz, acc.toList, c, by rw [hacc]; exact LiI.vals_refs as, ?_⟩
      rw [Array.toArray_toList]
      exact hSg
    · rw [upd_ne hb] at q
      by_cases hb2 : b ∈ as
      · obtain ⟨j, pk, e1, e2, e3⟩ := LiI.paired_ix atP hb2
        rw [e3] at q
        cases q
        exact hT j b pk e1 e2
      · rw [putL_off as ts H hb2] at q
        exact (I.hok b u q).stay (fun d v _ y => hk d v y) (fun d y => kp d _ y) fun d xs y => kp d _ y
end
theorem getP {α β : Type} {G : α → β → Prop} {l₁ : List α} {l₂ : List β} (h : Paired G l₁ l₂) {i : Nat} {a : α} (e : l₁[i]? = some a) : ∃ b, l₂[i]? = some b ∧ G a b := LiI.paired_get h e
/-- the tuples as data -/
theorem putL_rps {K : Frg} {F : Hp} : ∀ {as : List Addr} {ts : List (List V)} {ds : List (List PyData)}, Paired (fun (a : Addr) (t : List V) => F a = some (.tup t)) as ts → Paired (fun t d => Rps K F t d) ts ds → Rps K F (as.map V.ref) (ds.map PyData.tuple)
  | [], [], [], _, _ => .nil
  | a :: as, t :: ts, d :: ds, .cons h1 h2, .cons g1 g2 => .cons (.tup (SqT.of h1) g1) (putL_rps h2 g2)
  | [], [], _ :: _, _, g => by cases g
  | _ :: _, _ :: _, [], _, g => by cases g
/-! ### list(enumerate(x)) -/
def enV : Nat → List V → List (List V)
  | _, [] => []
  | k, v :: r => [.int (k : Nat), v] :: enV (k + 1) r
theorem enV_len : ∀ (vs : List V) (k : Nat), (enV k vs).length = vs.length
  | [], _ => rfl
  | _ :: r, k => by rw [enV, List.length_cons, List.length_cons, enV_len r]
theorem enV_get : ∀ (vs : List V) (k i : Nat) (t : List V), (enV k vs)[i]? = some t → ∃ v, vs[i]? = some v ∧ t = [.int ((k + i : Nat) : Int), v]
  | [], _, _, _, h => by cases h
  | v :: r, k, 0, t, h => by
    cases h
    exact ⟨v, rfl, rfl⟩
  | v :: r, k, i + 1, t, h => by
    obtain ⟨z, e1, e2⟩ := enV_get r (k + 1) i t h
    refine ⟨z, e1, ?_⟩
    rw [e2, Nat.add_right_comm k 1 i]
    rfl
theorem enV_rps {K : Frg} {F : Hp} : ∀ {vs : List V} {xs : List PyData} (k : Nat), Rps K F vs xs → ∃ ds, Paired (fun t d => Rps K F t d) (enV k vs) ds ∧ ds.map PyData.tuple = enumD k xs
  | [], [], _, _ => ⟨[], .nil, rfl⟩
  | v :: vs, x :: xs, k, h => by
    cases h with
    | cons h1 h2 =>
      obtain ⟨ds, g1, g2⟩ := enV_rps (k + 1) h2
      exact ⟨[.int (k : Nat), x] :: ds, .cons (.cons (.int _) (.one h1)) g1, by rw [List.map_cons, g2]; rfl⟩
  | [], _ :: _, _, h => by cases h
  | _ :: _, [], _, h => by cases h
def dLstEn (d : DE) : DL := fun sl B => (dSeq' d sl B).bind fun p => if p.1.length ≤ sizeLine then some (enumD 0 p.1, p.2) else none
section
variable {X : Cx} {C : Fx} {l : Expr} {d : DE} {p p2 pos pos2 : Pos}
theorem srcI_keep {h h' : Heap} {z : Src} {items : Array Value} (x : SrcI h z items) (k : ∀ b o, h.get? b = some o → h'.get? b = some o) : SrcI h' z items := by
  obtain ⟨t, a, vs⟩ := z
  cases t with
  | true =>
    have y : h.IsTuple a items := x
    exact (show h'.IsTuple a items from y.at fun o e => k a o e)
  | false =>
    have y : h.IsList a items := x
    exact (show h'.IsList a items from y.at fun o e => k a o e)
theorem valsGet {vs : List V} {us : List Value} (h : Vals vs us) : ∀ {i : Nat} {v : V}, vs[i]? = some v → ∃ u, us[i]? = some u ∧ RelV v u := fun {i v} e => getP h e
theorem l_lstEnum (hm : X.mg "list" = none) (hm2 : X.mg "enumerate" = none) (h : PE X l (liftE X.K C d)) (hc : X.calm = true := by rfl) (hg : Gl X "list" := by rfl) (hg2 : Gl X "enumerate" := by rfl)
    (hs : starEach [l] X.env = (false, eval l X.env) :: starEach [] X.env := by rfl)
    (hs2 : starEach [.Call (.Name "enumerate" p2) [l] [] pos2] X.env = (false, eval (.Call (.Name "enumerate" p2) [l] [] pos2) X.env) :: starEach [] X.env := by rfl) :
    PE X (.Call (.Name "list" p) [.Call (.Name "enumerate" p2) [l] [] pos2] [] pos) (liftL X.K C (dLstEn d)) := by
  refine ⟨fun pins s σ H Q I ⟨sl, B, F, b, xs, B', R, e, k⟩ => ?_⟩
  obtain ⟨⟨ys, B1⟩, e1, e⟩ := bnd e
  split at e
  · rename_i hz
    cases e
    obtain ⟨x, e2, e3⟩ := dSeq_inv e1
    refine Call_ (ld_blt I hg hm PyProof.Rows.boot_list (PyProof.Rows.callWith_type1 (args_cons (Call_ (ld_blt I hg2 hm2 boot_enumerate (PyProof.Rows.callWith_type1 (args_cons (thn (h.run pins s σ H (fun v H' => ∃ F' b', Rel X.K C sl B1 F' b' σ H' ∧ Stp F b H F' b' H' ∧ Rp X.K F' v x) I ⟨sl, B, F, b, x, B1, R, e2, fun v H' F' b' R' S' q => ⟨F', b', R', S', q⟩⟩) fun u s1 ⟨v, H1, I1, r1, q1⟩ => args_nil ?_) hs) hs rfl))) hs2) hs2 rfl))
    obtain ⟨F1, b1, R1, S1, q1⟩ := q1
    obtain ⟨z, ev, hz1, rz, kz⟩ := src_ofE R1.fro q1 e3
    subst ev
    obtain rfl : u = Value.ref z.a := r1
    obtain ⟨its, rv, hI, hlt⟩ := src_items I1 hz1
    refine enum1_begins (src_begins z its.toArray) hI fun h1 he hit hk => args_nil ?_
    have I2 : Inv X pins σ H1 { s1 with heap := h1 } := I1.kept (t' := s1.toks) hk
    have hne : z.a ≠ s1.heap.objs.size := Nat.ne_of_lt hlt
    have D := src_draws (prog := X.prog) (w := X.w) (A := X.A.in1.in1.in1) (show X.A.in1.in1.in1.handled = none from I1.ok.hd hc) s1.heap.objs.size z hne its.toArray
    have hel := Heap.lt_size he
    have hiz : its.toArray.size ≤ sizeLine := by rw [List.size_toArray, ← rv.length, rz.length]; exact hz
    refine en_call (s := { s1 with heap := h1 }) D (Nat.succ_ne_self _) (fun hm => ?_) (fun c hc' => ?_) hiz he ⟨src_at hit, srcI_keep hI hk⟩ fun h' tk acc c as hk' hS hl hG hacc => ?_
    · rcases (by simpa using hm : s1.heap.objs.size + 1 = s1.heap.objs.size ∨ s1.heap.objs.size + 1 = z.a) with q | q
      · exact absurd q (Nat.succ_ne_self _)
      · exact absurd q (Nat.ne_of_gt (Nat.lt_succ_of_lt hlt))
    · rcases (by simpa using hc' : c = s1.heap.objs.size ∨ c = z.a) with q | q
      · rw [q]; exact Nat.lt_of_succ_lt hel
      · rw [q]; exact Nat.lt_trans hlt (Nat.lt_of_succ_lt hel)
    have hsz : s1.heap.objs.size + 1 < h1.objs.size := hel
    have hlo : ∀ a ∈ as, h1.objs.size < a := hG.above
    have hal : as.length = (enV 0 z.vs).length := by rw [hl, enV_len, List.size_toArray, rv.length]
    have nd : as.Nodup := List.Pairwise.imp (fun {a b} (h : a < b) => Nat.ne_of_lt h) hG.rise
    have keep : ∀ b o, s1.heap.get? b = some o → h'.get? b = some o := fun b o q => by
      have := Heap.lt_size q
      exact hk' b o (Nat.ne_of_lt (Nat.lt_succ_of_lt this)) (Nat.ne_of_lt this) (hk b o q)
    have I3 := tups_list (tk := tk) (h' := h') (as := as) (ts := enV 0 z.vs) (S := h1.objs.size) I1 keep (fun a ha => by have := hlo a ha; omega) nd hal (fun j a t ha ht => by
      obtain ⟨v, hv, rfl⟩ := enV_get z.vs 0 j t ht
      obtain ⟨tk', x', hx', hg'⟩ := hG.pairs j a ha
      obtain ⟨u, hu, ru⟩ := valsGet rv hv
      have : x' = u := by
        rw [List.getElem?_toArray, hu] at hx'
        exact (Option.some.inj hx').symm
      subst this
      exact ⟨by show 2 ≤ sizeLine; decide, [.int (j : Nat) tk', x'], .cons (by rw [Nat.zero_add]; exact ⟨tk', rfl⟩) (.cons ru .nil), ⟨_, hg', rfl, _, rfl⟩⟩) (by omega) (fun z => Nat.lt_irrefl _ (hlo _ z)) (by rw [hl]; exact hiz) hS hacc
    have newA : ∀ a ∈ as, H1 a = none := fun a ha => I1.hok.fresh (by have := hlo a ha; omega)
    have newS : putL H1 as (enV 0 z.vs) h1.objs.size = none := by
      rw [putL_off as _ H1 (fun z => Nat.lt_irrefl _ (hlo _ z))]
      exact I1.hok.fresh (by omega)
    have hS0 : H1 h1.objs.size = none := I1.hok.fresh (by omega)
    obtain ⟨R2, S2⟩ := (putL_al as (enV 0 z.vs) F1 H1 newA nd .refl).rel R1
    have fA : ∀ a ∈ as, F1 a = none := fun a ha => not_in_F R1.fro (newA a ha)
    obtain ⟨ds, g1, g2⟩ := enV_rps 0 rz
    have g1' : Paired (fun t d => Rps X.K (putL F1 as (enV 0 z.vs)) t d) (enV 0 z.vs) ds := Paired.mapP g1 fun _ _ q => Rps.mono (fun b o e => putL_ext as _ fA b o e) q
    have r3 := putL_rps (putL_at as (enV 0 z.vs) F1 hal nd) g1'
    rw [g2] at r3
    have hH : H h1.objs.size = none := by
      cases z' : H h1.objs.size with
      | none => rfl
      | some o => exact absurd hS0 (S1.tr _ (by rw [z']; exact Option.some_ne_none _))
    exact ⟨.ref _, _, I3, rfl, k h1.objs.size (as.map V.ref) _ _ _ (R2.new newS) ((S1.trans S2).trans (Stp.new newS)) hH (not_in_F R2.fro newS) (R2.nbx newS) upd_same r3⟩
  · cases e
/-! ### for .. in reversed(x) -/
def dRevI (d : DE) : DL := fun sl B => (dSeq' d sl B).map fun p => (p.1.reverse, p.2)
theorem rev_get {α : Type} {xs : List α} {i : Nat} {x : α} (h : xs.reverse[i]? = some x) : i < xs.length ∧ xs[xs.length - 1 - i]? = some x := by
  have hl : i < xs.length := by
    rcases Nat.lt_or_ge i xs.length with q | q
    · exact q
    · rw [List.getElem?_eq_none (by rw [List.length_reverse]; exact q)] at h; cases h
  rw [List.getElem?_reverse hl] at h
  exact ⟨hl, h⟩
theorem wk_revL {K : Frg} {F : Hp} {a : Addr} {vs : List V} {xs : List PyData} {P : Hp → Prop} (hp : ∀ F' H', Ext F F' → Ext F' H' → P H' → SqL K H' a vs) (r : Rps K F vs xs) : Wk K F P (Itv K a vs.length) xs.reverse := fun i F' H' h1 h2 h3 => by
  have hs := hp F' H' h1 h2 h3
  refine ⟨fun x hx => ?_, fun hx => by rw [hx, List.length_reverse, r.length]; exact Nat.le_refl _⟩
  obtain ⟨hl, hx'⟩ := rev_get hx
  obtain ⟨v, e1, e2⟩ := r.get hx'
  rw [← r.length] at e1 hl
  refine ⟨⟨hl, vs, v, hs, e1⟩, fun u H2 ⟨y1, y2⟩ => ?_⟩
  subst y1
  have := y2 vs hs
  rw [e1] at this
  cases this
  exact ⟨F', .refl, Rp.mono h1 e2⟩
theorem wk_revT {K : Frg} {F : Hp} {a : Addr} {vs : List V} {xs : List PyData} {P : Hp → Prop} (hp : ∀ F' H', Ext F F' → Ext F' H' → P H' → SqT K H' a vs) (r : Rps K F vs xs) : Wk K F P (ItvT K a vs.length) xs.reverse := fun i F' H' h1 h2 h3 => by
  have hs := hp F' H' h1 h2 h3
  refine ⟨fun x hx => ?_, fun hx => by rw [hx, List.length_reverse, r.length]; exact Nat.le_refl _⟩
  obtain ⟨hl, hx'⟩ := rev_get hx
  obtain ⟨v, e1, e2⟩ := r.get hx'
  rw [← r.length] at e1 hl
  refine ⟨⟨hl, vs, v, hs, e1⟩, fun u H2 ⟨y1, y2⟩ => ?_⟩
  subst y1
  have := y2 vs hs
  rw [e1] at this
  cases this
  exact ⟨F', .refl, Rp.mono h1 e2⟩
theorem i_rev {tg : Expr} (hm : X.mg "reversed" = none) (h : PE X l (liftE X.K C d)) (hg : Gl X "reversed" := by rfl) (hs : starEach [l] X.env = (false, eval l X.env) :: starEach [] X.env := by rfl) :
    PI X tg (.Call (.Name "reversed" p) [l] [] pos) (liftI X.K C (dRevI d)) := ⟨fun pins s σ H Rr I ⟨sl, B, F, b, xs, B', R, e, k⟩ => by
  obtain ⟨⟨ys, B1⟩, e1, e⟩ := mpd e
  cases e
  obtain ⟨x, e2, e3⟩ := dSeq_inv e1
  refine (pi_revA hg hm h hs).run pins s σ H Rr I ⟨sl, B, F, b, _, _, R, e2, fun v H' F' b' R' S' q => ?_⟩
  rcases e3 with e3 | e3
  · subst e3
    cases q with
    | lst h1 h2 => exact ⟨_, _, rfl, .inl ⟨SqL.of (R'.fro _ _ h1), k _ H' F' b' R' S' (wk_revL (fun F2 H2 g1 g2 _ => SqL.of (g2 _ _ (g1 _ _ h1))) h2)⟩⟩
  · subst e3
    cases q with
    | tup h1 h2 => exact ⟨_, _, rfl, .inr ⟨R'.fro.sqT h1, k _ H' F' b' R' S' (wk_revT (fun F2 H2 g1 g2 _ => g2.sqT (g1.sqT h1)) h2)⟩⟩⟩
/-! ### tuple(reversed(x)), x a list -/
def dTupRev (d : DE) : DE := fun sl B => (d sl B).bind fun p => match p.1 with
  | .list xs => some (.tuple xs.reverse, p.2)
  | _ => none
theorem e_tupRev (hm : X.mg "tuple" = none) (hm2 : X.mg "reversed" = none) (h : PE X l (liftO X.K C d)) (hc : X.calm = true := by rfl) (hg : Gl X "tuple" := by rfl) (hg2 : Gl X "reversed" := by rfl)
    (hs : starEach [l] X.env = (false, eval l X.env) :: starEach [] X.env := by rfl)
    (hs2 : starEach [.Call (.Name "reversed" p2) [l] [] pos2] X.env = (false, eval (.Call (.Name "reversed" p2) [l] [] pos2) X.env) :: starEach [] X.env := by rfl) :
    PE X (.Call (.Name "tuple" p) [.Call (.Name "reversed" p2) [l] [] pos2] [] pos) (liftE X.K C (dTupRev d)) :=
  imp_e (fun σ H Q ⟨sl, B, F, b, rr, B', R, e, kk⟩ => by
    obtain ⟨⟨x, B1⟩, e1, e⟩ := bnd e
    split at e
    · rename_i xs hx
      cases e
      have hx' : x = .list xs := hx
      subst hx'
      refine ⟨sl, B, F, b, _, _, R, e1, fun v H1 F1 b1 R1 S1 q => ?_⟩
      obtain ⟨a, vs, rfl, h1, h2, h3⟩ := q
      refine ⟨a, vs, rfl, SqL.of h1, fun q hq => ?_⟩
      obtain ⟨R2, S2⟩ := (Al.one (o := .tup vs.reverse) hq).rel R1
      exact kk _ _ _ _ R2 (S1.trans S2) (.tup (SqT.of upd_same) (Rps.mono (Ext.new (not_in_F R1.fro hq)) h3.reverse))
    · cases e) (pe_tupRev hc hg hm hg2 hm2 h hs hs2)
/-! ### a list and a list, nobody else's -/
def dAddL (da db : DE) : DL := fun sl B => (da sl B).bind fun p => (db sl p.2).bind fun q => match p.1, q.1 with
  | .list xs, .list ys => if xs.length + ys.length ≤ sizeLine then some (xs ++ ys, q.2) else none
  | _, _ => none
theorem l_addL {a c : Expr} {da db : DE} (ha : PE X a (liftO X.K C da)) (hb : PE X c (liftO X.K C db)) : PE X (.BinOp a .Add c pos) (liftL X.K C (dAddL da db)) :=
  imp_e (fun σ H Q ⟨sl, B, F, b, rr, B', R, e, kk⟩ => by
    obtain ⟨⟨x, B1⟩, e1, e⟩ := bnd e
    obtain ⟨⟨y, B2⟩, e2, e'⟩ := bnd e
    clear e
    split at e'
    · rename_i xs ys hx hy
      have hx' : x = .list xs := hx
      subst hx'
      have hy' : y = .list ys := hy
      subst hy'
      split at e'
      · rename_i hc
        cases e'
        refine two_o R e1 e2 fun v u H2 F2 b2 R2 S2 qx qy => ?_
        obtain ⟨a, vs, rfl, h1, h3, h2⟩ := qx
        obtain ⟨a2, us, rfl, g1, g3, g2⟩ := qy
        refine ⟨a, a2, vs, us, rfl, rfl, h1, g1, by rw [h2.length, g2.length]; exact hc, fun p hp => ?_⟩
        have h0 : H p = none := by
          cases z : H p with
          | none => rfl
          | some o => exact absurd hp (S2.tr p (by rw [z]; exact Option.some_ne_none _))
        exact kk p _ _ _ _ (R2.new hp) (S2.trans (Stp.new hp)) h0 (not_in_F R2.fro hp) (R2.nbx hp) upd_same (Rps.append h2 g2)
      · cases e'
    · cases e') (pe_op op_cat ha hb)
end
end Dn

set_option Elab.async false
set_option linter.all false
set_option autoImplicit false
set_option maxRecDepth 100000
set_option maxHeartbeats 4000000
namespace Dn
open PySem PySem.Spec PyProof.Rows L2
/-! ### sorted(d.items()), d one's own dict -/
def itD (kvs : List (Int × PyData)) : List PyData := kvs.map fun p => PyData.tuple [.int p.1, p.2]
def dSrtItems (j : Nat) : DL := fun sl B => match sl[j]? with
  | some (some (.dic kvs)) => if sortOk (itD kvs) = true ∨ (itD kvs).length ≤ 1 then some (sortD (itD kvs), B) else none
  | _ => none
theorem kvr_rps {K : Frg} {F : Hp} : ∀ {ks : List (Key × V)} {kvs : List (Int × PyData)}, KvR K F ks kvs → Paired (fun t d => Rps K F t d) (ks.map fun p => [L2.kV p.1, p.2]) (kvs.map fun p => [PyData.int p.1, p.2])
  | [], [], _ => .nil
  | p :: ks, q :: kvs, .cons h t => .cons (.cons (by rw [h.1]; exact .int _) (.one h.2)) (kvr_rps t)
theorem itD_eq (kvs : List (Int × PyData)) : (kvs.map fun p => [PyData.int p.1, p.2]).map PyData.tuple = itD kvs := by
  unfold itD
  rw [List.map_map]
  rfl
section
variable {X : Cx} {C : Fx} {x : Str} {p px apos cpos pos : Pos}
theorem l_srtItems (j : Nat) (hu : X.A.units + 65 < cLine) (hm : X.mg "sorted" = none) (he : PE X (.Name x px) (tVar j)) (hc : X.calm = true := by rfl) (hg : Gl X "sorted" := by rfl)
    (hbase : attributeBase (.Name x px) "items" X.env (eval (.Name x px) X.env) = eval (.Name x px) X.env := by rfl) (hline : (apos.endLine == cpos.line) = true := by rfl)
    (hs : starEach [.Call (.Attribute (.Name x px) "items" apos) [] [] cpos] X.env = (false, eval (.Call (.Attribute (.Name x px) "items" apos) [] [] cpos) X.env) :: starEach [] X.env := by rfl) :
    PE X (.Call (.Name "sorted" p) [.Call (.Attribute (.Name x px) "items" apos) [] [] cpos] [] pos) (liftL X.K C (dSrtItems j)) := by
  refine ⟨fun pins s σ H Q I ⟨sl, B, F, b, rr, B', R, e, kk⟩ => ?_⟩
  unfold dSrtItems at e
  split at e
  · rename_i kvs hx
    split at e
    · rename_i hk
      cases e
      obtain ⟨v0, ev, a, ks, rfl, g1, g2, g3, g4⟩ := R.slt j _ hx
      refine wpAny_Call_Name_kw (ld_blt I hg hm PyProof.Rows.boot_sorted ?_)
      refine PyProof.Rows.callWith_builtin1 ?_ hs rfl
      rw [hs]
      show wpAny _ _ (spliced ((false, eval (.Call (.Attribute (.Name x px) "items" apos) [] [] cpos) X.env) :: backTo pos (starEach [] X.env))) _ _ s
      refine Calls.spliced_cons ?_
      refine wpAny_Call_method (T := "dict") (id := "dict.items") hbase rfl hline PySem.F.plainAttrs_dict PySem.F.slot_dict_items PySem.F.type_dict_items (thn (he.run pins s σ H (fun v H1 => v = .ref a ∧ H1 = H) I ⟨_, ev, rfl, rfl⟩) fun u s1 ⟨v, H1, I1, r1, q1⟩ => ?_)
      obtain ⟨ev1, eH⟩ := q1
      subst ev1 eH
      obtain rfl : u = Value.ref a := r1
      obtain ⟨hz, hs0, vs, kv, hdo⟩ := I1.hok a _ g1
      obtain ⟨ep, hat⟩ := hdo.dictAt
      have lk : ks.length = vs.length := Paired.length kv
      have I2 : Inv X pins σ H1 { s1 with heap := s1.heap.push { cls := .type "dict_items", data := .fields #[.ref a] } } := I1.kept (t' := s1.toks) fun b ob q => Heap.get?_push_of_some _ q
      refine ⟨hdo.typeIs, hdo.mapOf.noDict, ?_⟩
      show wpAny _ _ (callWith cpos (.builtin "dict.items") [.ref a] [] []) _ X.xe s1
      refine method_meetsIn PySem.F.slot_dict_items PySem.F.entry_dict_items rfl (PySem.evalArgs_none ⟨rfl, hdo.typeIs, PySem.F.args_dict_items_1 _, _, meets_dict_items (mixKind X.prog X.w) a hs0, ⟨vs, hdo⟩, ?_⟩)
      refine Calls.spliced_nil ?_
      refine Calls.call_function_entry kind_sorted plain_sorted entry_sorted (args_sorted1 _) ?_
      unfold Builtin.«sorted»
      refine wpAny_bind (m := checkCount "sorted" 1 1 _) (wpAny_pure ?_)
      refine wpAny_bind (PySem.W.kdx_collect (A := X.A.in1) (knd := mixKind X.prog X.w) (kvs := vs) (ep := ep) (I1.ok.hd hc) ⟨_, Heap.get?_push_size _ rfl, rfl, rfl⟩ (hat.push _) (by omega) fun h' tk as hkp hl hG => ?_)
      have hlo : ∀ t ∈ as, s1.heap.objs.size ≤ t := fun t ht => by
        have q : (s1.heap.push { cls := .type "dict_items", data := .fields #[.ref a] }).objs.size = s1.heap.objs.size + 1 := Heap.size_push ..
        have h9 : (s1.heap.push { cls := .type "dict_items", data := .fields #[.ref a] }).objs.size < t := hG.above t ht
        rw [q] at h9
        omega
      have hlo2 : ∀ t ∈ as, (s1.heap.push { cls := .type "dict_items", data := .fields #[.ref a] }).objs.size ≤ t := fun t ht => Nat.le_of_lt (hG.above t ht)
      have nd : as.Nodup := List.Pairwise.imp (fun {a b} (h : a < b) => Nat.ne_of_lt h) hG.rise
      have hal : as.length = (ks.map fun p => [L2.kV p.1, p.2]).length := by rw [List.length_map]; omega
      have I3 := tups_laid (tk := tk) (h' := h') (as := as) (ts := ks.map fun p => [L2.kV p.1, p.2]) I2 hkp hlo2 nd hal fun i t u hi ht => by
        rw [List.getElem?_map] at ht
        obtain ⟨pk, e2, e3⟩ := mpd ht
        subst e3
        obtain ⟨key, k, y, f1, f2, f3⟩ := hG.pairs i t hi
        obtain ⟨qv, h1, h2, h3⟩ := getP kv e2
        rw [f1] at h1
        cases h1
        have rk : RelV (L2.kV pk.1) key := by
          rw [h2]
          exact relV_key (show keyIs k key = true from f2)
        exact ⟨by show 2 ≤ sizeLine; decide, [key, y], .cons rk (.cons h3 .nil), ⟨_, f3, rfl, _, rfl⟩⟩
      have newA : ∀ t ∈ as, H1 t = none := fun t ht => I1.hok.fresh (hlo t ht)
      obtain ⟨R2, S2⟩ := (putL_al as (ks.map fun p => [L2.kV p.1, p.2]) F H1 newA nd .refl).rel R
      have fA : ∀ t ∈ as, F t = none := fun t ht => not_in_F R.fro (newA t ht)
      have r3 := putL_rps (putL_at as (ks.map fun p => [L2.kV p.1, p.2]) F hal nd) (Paired.mapP (kvr_rps g2) fun _ _ q => Rps.mono (fun b o e => putL_ext as _ fA b o e) q)
      rw [itD_eq] at r3
      have hd := (Rps.mono R2.fro r3).dp
      have rv := LiI.vals_refs as
      have hz2 : (as.map V.ref).length ≤ sizeLine := by rw [List.length_map]; omega
      have hlen := rv.length
      generalize putL H1 as (ks.map fun p => [L2.kV p.1, p.2]) = H2 at I3 R2 S2 hd
      generalize putL F as (ks.map fun p => [L2.kV p.1, p.2]) = F2 at R2 S2 r3
      generalize as.map V.ref = xs at rv hz2 hd r3 hlen
      generalize as.map Value.ref = its at rv hlen
      generalize itD kvs = ds at hk kk r3 hd
      refine wpAny_bind (wpAny_newList ?_ (by omega))
      have hoL : (h'.push (seqObj "list" its.toArray 0)).get? h'.objs.size = some (seqObj "list" its.toArray 0) := Heap.get?_push_size _ rfl
      have keep : ∀ b u, h'.get? b = some u → (h'.push (seqObj "list" its.toArray 0)).get? b = some u := fun b u q => Heap.get?_push_of_some _ q
      have fin : ∀ (out : List Value) (ys : List V), ys.length ≤ sizeLine → Vals ys out → (∀ p, H2 p = none → Q (.ref p) (upd H2 p (.lst ys))) → EP X pins σ Q (.ref h'.objs.size) { s1 with heap := sortedHeap (h'.push (seqObj "list" its.toArray 0)) h'.objs.size its out.toArray, toks := tk } := fun out ys hy hv q => by
        obtain ⟨ep, he⟩ := sortedHeap_at (vs := its) (out := out.toArray) hoL
        refine ⟨.ref _, upd H2 h'.objs.size (.lst ys), I3.laid (t' := tk) (fun b u q => ?_) (Nat.le_refl _) ⟨hy, out, ep, hv, he⟩, rfl, q _ (I3.hok.fresh (Nat.le_refl _))⟩
        have hlt := Heap.lt_size q
        rw [sortedHeap_old (Nat.ne_of_lt hlt) (by rw [size_push']; exact Nat.lt_succ_of_lt hlt)]
        exact keep b u q
      have q' : ∀ (ys : List V) (p : Addr), Rps X.K F2 ys (sortD ds) → H2 p = none → Q (.ref p) (upd H2 p (.lst ys)) := fun ys p hr hp => by
        have hp0 : H1 p = none := by
          cases z : H1 p with
          | none => rfl
          | some o => exact absurd hp (S2.tr p (by rw [z]; exact Option.some_ne_none _))
        exact kk p ys _ _ _ (R2.new hp) (S2.trans (Stp.new hp)) hp0 (not_in_F R2.fro hp) (R2.nbx hp) upd_same hr
      by_cases hso : sortOk ds = true
      · obtain ⟨as', ra⟩ := Dp.readsAll I3 _ _ _ hd rv
        obtain ⟨g1, g2, g3⟩ := sortOk_is hso
        have el := dpAll_len hd
        have ez := zip_snd el
        have er' : PySem.W.EachIs (fun (v : Value) (b : V × PyData) => ∃ as, Reads (h'.push (seqObj "list" its.toArray 0)) v b.2 as ∧ h'.objs.size ∉ as) its (xs.zip ds) := (each_rds el rv ra).mono fun v b hx => by
          obtain ⟨as', r'⟩ := hx
          exact ⟨as', PyProof.Rows.Reads.keeps keep r', fun hm => absurd (reads_lt _ _ _ r' _ hm) (Nat.lt_irrefl _)⟩
        have hu' : ∀ b, b ∈ xs.zip ds → X.A.in1.units + 1 + b.2.depth < cLine := fun b hb => by
          have := g3 b.2 (List.of_mem_zip hb).2
          have e1 : X.A.in1.units = X.A.units + 1 := rfl
          omega
        refine wpAny_bind (wpAny_holding (PySem.W.list_sort_data (s := { s1 with heap := h'.push (seqObj "list" its.toArray 0), toks := tk }) (vs := its) (n := 0) (enc := Prod.snd) (bs := xs.zip ds) hoL (each_zip el rv) er' (by rw [ez]; exact g1) (by rw [ez]; exact g2) (by rw [List.length_zip, el, Nat.min_self, ← el]; exact hz2) hu' fun out ho' hr => ?_))
        refine wpAny_pure ⟨_, rfl, ?_⟩
        have hp : (List.mergeSort (xs.zip ds) (PySem.W.dataLe false Prod.snd)).Perm (xs.zip ds) := List.mergeSort_perm _ _
        have hsd : (List.mergeSort (xs.zip ds) (PySem.W.dataLe false Prod.snd)).map Prod.snd = sortD ds := by
          unfold sortD
          have e := List.map_mergeSort (r := PySem.W.dataLe false Prod.snd) (s := PySem.W.dataLe false id) (f := Prod.snd) (l := xs.zip ds) fun _ _ _ _ => rfl
          rw [e, ez]
        refine fin out _ ?_ (each_vals hr) fun p hH => q' _ p ?_ hH
        · rw [List.length_map, hp.length_eq, List.length_zip, el, Nat.min_self, ← el]; exact hz2
        · have := rps_of (K := X.K) (F := F2) (List.mergeSort (xs.zip ds) (PySem.W.dataLe false Prod.snd)) fun b hb => rps_zip r3 b (hp.subset hb)
          rw [hsd] at this
          exact this
      · have h1e : ds.length ≤ 1 := by rcases hk with z | z; exact absurd z hso; exact z
        have hx1 : xs.length ≤ 1 := by rw [r3.length]; exact h1e
        rw [sortD_one h1e] at q'
        refine wpAny_bind (wpAny_holding (wpAny_call_entry slot_list_sort ⟨_, hoL, rfl⟩ entry_list_sort (SrtO.list_sort_ord (s := { s1 with heap := h'.push (seqObj "list" its.toArray 0), toks := tk }) swo0 hoL (by omega) (fun h2 => absurd h2 (by omega)) fun out _ hb => ⟨_, rfl, ?_⟩) (args_list_sort _)))
        have e : out = its := perm_one hb.perm (by omega)
        subst e
        exact wpAny_pure ⟨_, rfl, fin out xs hz2 rv fun p hH => q' xs p r3 hH⟩
    · cases e
  · cases e
end
end Dn

set_option Elab.async false
set_option linter.all false
set_option autoImplicit false
set_option maxRecDepth 100000
set_option maxHeartbeats 1000000
/-! The second layer: what the denotations do, without slots. -/
namespace Dn
open PySem PySem.Spec PyProof.Rows L2

abbrev M (α : Type) := Bx → Option (α × Bx)
section
variable {α β γ : Type}
def ret (x : α) : M α := fun B => some (x, B)
def bn (m : M α) (k : α → Bx → Option β) : Bx → Option β := fun B => (m B).bind fun p => k p.1 p.2
def lf (o : Option α) : M α := fun B => o.map fun x => (x, B)
def fl : Bx → Option β := fun _ => none
theorem bn_ret {x : α} {k : α → Bx → Option β} : bn (ret x) k = k x := id rfl
theorem bn_bn {m : M α} {f : α → M β} {k : β → Bx → Option γ} : bn (bn m f) k = bn m fun x => bn (f x) k := by
  funext B
  unfold bn
  rw [Option.bind_assoc]
theorem bn_fl {k : α → Bx → Option β} : bn fl k = fl := id rfl
theorem lf_some {x : α} : lf (some x) = ret x := id rfl
theorem lf_none : lf (none : Option α) = fl := id rfl
theorem bn_id {m : M α} : bn m ret = m := by
  funext B
  unfold bn ret
  cases m B <;> rfl
theorem bn_run {m : M α} {k : α → Bx → Option β} {B B' : Bx} {x : α} (h : m B = some (x, B')) : bn m k B = k x B' := by
  unfold bn
  rw [h]
  rfl
theorem ret_run {x : α} {B : Bx} : ret x B = some (x, B) := id rfl
def mIte (c : M Bool) (a b : Bx → Option β) : Bx → Option β := bn c fun t => if t = true then a else b
def mIteV (c : M Bool) (a b : M α) : M α := bn c fun t => if t = true then a else b
theorem mIte_t {a b : Bx → Option β} : mIte (ret true) a b = a := id rfl
theorem mIte_f {a b : Bx → Option β} : mIte (ret false) a b = b := id rfl
theorem mIte_fl {a b : Bx → Option β} : mIte fl a b = fl := id rfl
theorem mIteV_t {a b : M α} : mIteV (ret true) a b = a := id rfl
theorem mIteV_f {a b : M α} : mIteV (ret false) a b = b := id rfl
theorem mIte_d {p : Prop} [Decidable p] {a b : Bx → Option β} : mIte (ret (decide p)) a b = if p then a else b := by
  by_cases h : p
  · rw [decide_eq_true h, mIte_t, if_pos h]
  · rw [decide_eq_false h, mIte_f, if_neg h]
theorem mIteV_d {p : Prop} [Decidable p] {a b : M α} : mIteV (ret (decide p)) a b = if p then a else b := mIte_d
theorem bn_mIte {c : M Bool} {a b : M α} {k : α → Bx → Option β} : bn (mIte c a b) k = mIte c (bn a k) (bn b k) := by
  funext B
  unfold bn mIte bn
  cases c B with
  | none => rfl
  | some p =>
    obtain ⟨t, B1⟩ := p
    cases t <;> rfl
def mAnd (a b : M Bool) : M Bool := bn a fun t => if t = true then b else ret false
def mOr (a b : M Bool) : M Bool := bn a fun t => if t = true then ret true else b
def mNot (a : M Bool) : M Bool := bn a fun t => ret (!t)
theorem mAnd_t {b : M Bool} : mAnd (ret true) b = b := id rfl
theorem mAnd_f {b : M Bool} : mAnd (ret false) b = ret false := id rfl
theorem mOr_t {b : M Bool} : mOr (ret true) b = ret true := id rfl
theorem mOr_f {b : M Bool} : mOr (ret false) b = b := id rfl
theorem mNot_r {b : Bool} : mNot (ret b) = ret (!b) := id rfl
def vAnd (a b : M PyData) : M PyData := bn a fun x => match x with
  | .bool k => if k = true then b else ret (.bool false)
  | _ => fl
def vOr (a b : M PyData) : M PyData := bn a fun x => match x with
  | .bool k => if k = true then ret (.bool true) else b
  | _ => fl
theorem vAnd_t {b : M PyData} : vAnd (ret (.bool true)) b = b := id rfl
theorem vAnd_f {b : M PyData} : vAnd (ret (.bool false)) b = ret (.bool false) := id rfl
theorem vOr_t {b : M PyData} : vOr (ret (.bool true)) b = ret (.bool true) := id rfl
theorem vOr_f {b : M PyData} : vOr (ret (.bool false)) b = b := id rfl
def un2 (x : PyData) (k : PyData → PyData → Bx → Option β) : Bx → Option β := match x with
  | .tuple [a, b] => k a b
  | _ => fl
def un3 (x : PyData) (k : PyData → PyData → PyData → Bx → Option β) : Bx → Option β := match x with
  | .tuple [a, b, c] => k a b c
  | _ => fl
def un4 (x : PyData) (k : PyData → PyData → PyData → PyData → Bx → Option β) : Bx → Option β := match x with
  | .tuple [a, b, c, d] => k a b c d
  | _ => fl
theorem un2_t {a b : PyData} {k : PyData → PyData → Bx → Option β} : un2 (.tuple [a, b]) k = k a b := id rfl
theorem un3_t {a b c : PyData} {k : PyData → PyData → PyData → Bx → Option β} : un3 (.tuple [a, b, c]) k = k a b c := id rfl
theorem un4_t {a b c d : PyData} {k : PyData → PyData → PyData → PyData → Bx → Option β} : un4 (.tuple [a, b, c, d]) k = k a b c d := id rfl
theorem bn_un2 {x : PyData} {g : PyData → PyData → M α} {k : α → Bx → Option β} : bn (un2 x g) k = un2 x fun a b => bn (g a b) k := by
  unfold un2
  split <;> rfl
theorem bn_un3 {x : PyData} {g : PyData → PyData → PyData → M α} {k : α → Bx → Option β} : bn (un3 x g) k = un3 x fun a b c => bn (g a b c) k := by
  unfold un3
  split <;> rfl
theorem bn_un4 {x : PyData} {g : PyData → PyData → PyData → PyData → M α} {k : α → Bx → Option β} : bn (un4 x g) k = un4 x fun a b c d => bn (g a b c d) k := by
  unfold un4
  split <;> rfl
/-! lists gone through -/
def mapP (f : α → M β) : List α → M (List β)
  | [] => ret []
  | x :: xs => bn (f x) fun y => bn (mapP f xs) fun ys => ret (y :: ys)
def filP (f : α → M (Option β)) : List α → M (List β)
  | [] => ret []
  | x :: xs => bn (f x) fun y => bn (filP f xs) fun ys => ret (match y with | some z => z :: ys | none => ys)
def catP (f : α → M (List β)) : List α → M (List β)
  | [] => ret []
  | x :: xs => bn (f x) fun y => bn (catP f xs) fun ys => ret (y ++ ys)
def mFil (t : M Bool) (e : M α) : M (Option α) := mIteV t (bn e fun y => ret (some y)) (ret none)
def cmpP (f : PyData → M PyData) (xs : List PyData) : M (List PyData) := if xs.length < sizeLine then mapP f xs else fl
def cmpF (f : PyData → M (Option PyData)) (xs : List PyData) : M (List PyData) := if xs.length < sizeLine then filP f xs else fl
def forP (f : PyData → α → M α) : List PyData → α → M α
  | [], s => ret s
  | x :: xs, s => bn (f x s) fun s => forP f xs s
inductive Lo (S : Type) where
  | nx (s : S) | ct (s : S) | bk (s : S) | rt (r : PyData)
inductive Lr (S : Type) where
  | nx (s : S) | rt (r : PyData)
def forL (f : PyData → α → M (Lo α)) : List PyData → α → M (Lr α)
  | [], s => ret (.nx s)
  | x :: xs, s => bn (f x s) fun o => match o with
    | .nx s => forL f xs s
    | .ct s => forL f xs s
    | .bk s => ret (.nx s)
    | .rt r => ret (.rt r)
def bR (m : M (Lr α)) (k : α → Bx → Option β) (e : PyData → Bx → Option β) : Bx → Option β := bn m fun o => match o with
  | .nx s => k s
  | .rt r => e r
theorem bR_nx {s : α} {k : α → Bx → Option β} {e : PyData → Bx → Option β} : bR (ret (.nx s)) k e = k s := id rfl
theorem bR_rt {r : PyData} {k : α → Bx → Option β} {e : PyData → Bx → Option β} : bR (ret (.rt r)) k e = e r := id rfl
theorem bR_run {m : M (Lr α)} {k : α → Bx → Option β} {e : PyData → Bx → Option β} {B B' : Bx} {s : α} (h : m B = some (.nx s, B')) : bR m k e B = k s B' := by
  unfold bR
  rw [bn_run h]
theorem bn_bR {m : M (Lr α)} {k : α → M β} {e : PyData → M β} {f : β → Bx → Option γ} : bn (bR m k e) f = bR m (fun s => bn (k s) f) fun r => bn (e r) f := by
  unfold bR
  rw [bn_bn]
  congr 1
  funext o
  cases o <;> rfl
def whF (T : α → M Bool) (f : α → M (Lo α)) : Nat → α → M (Lr α)
  | 0, _ => fl
  | n + 1, s => bn (T s) fun t => if t = true then bn (f s) fun o => match o with
    | .nx s => whF T f n s
    | .ct s => whF T f n s
    | .bk s => ret (.nx s)
    | .rt r => ret (.rt r)
    else ret (.nx s)
open Classical in
noncomputable def whP (T : α → M Bool) (f : α → M (Lo α)) (s : α) : M (Lr α) := fun B => if h : ∃ o n, whF T f n s B = some o then some (Classical.choose h) else none
end

/-! ### equations of the denotations -/
def retD (r : PyData) : Bx → Option Out := fun B => some (.rt (.dat r) B)
def nxD (sl : Sl) : Bx → Option Out := fun B => some (.nx sl B)
def bkD (sl : Sl) : Bx → Option Out := fun B => some (.bk sl B)
def ctD (sl : Sl) : Bx → Option Out := fun B => some (.ct sl B)
def loD {S : Type} (enc : S → Sl) : Lo S → Bx → Option Out
  | .nx s => nxD (enc s)
  | .ct s => ctD (enc s)
  | .bk s => bkD (enc s)
  | .rt r => retD r
theorem loD_nx {S : Type} {enc : S → Sl} {s : S} : loD enc (.nx s) = nxD (enc s) := id rfl
theorem loD_ct {S : Type} {enc : S → Sl} {s : S} : loD enc (.ct s) = ctD (enc s) := id rfl
theorem loD_bk {S : Type} {enc : S → Sl} {s : S} : loD enc (.bk s) = bkD (enc s) := id rfl
theorem loD_rt {S : Type} {enc : S → Sl} {r : PyData} : loD enc (.rt r) = retD r := id rfl
def sqD (F : Bx → Option Out) (D : DS) : Bx → Option Out := fun B => (F B).bind fun o => match o with
  | .nx s B2 => D s B2
  | o => some o
section
variable {α β : Type} {D : DS} {sl : Sl}
theorem sq_bn {m : M α} {k : α → Bx → Option Out} : sqD (bn m k) D = bn m fun x => sqD (k x) D := by
  funext B
  unfold sqD bn
  rw [Option.bind_assoc]
theorem sq_nx : sqD (nxD sl) D = D sl := id rfl
theorem sq_bk : sqD (bkD sl) D = bkD sl := id rfl
theorem sq_ct : sqD (ctD sl) D = ctD sl := id rfl
theorem sq_ret {r : PyData} : sqD (retD r) D = retD r := id rfl
theorem sq_fl : sqD fl D = fl := id rfl
theorem sq_ite {c : M Bool} {a b : Bx → Option Out} : sqD (mIte c a b) D = mIte c (sqD a D) (sqD b D) := by
  unfold mIte
  rw [sq_bn]
  congr 1
  funext t
  cases t <;> rfl
theorem sq_un2 {x : PyData} {k : PyData → PyData → Bx → Option Out} : sqD (un2 x k) D = un2 x fun a b => sqD (k a b) D := by
  unfold un2
  split <;> rfl
theorem sq_un3 {x : PyData} {k : PyData → PyData → PyData → Bx → Option Out} : sqD (un3 x k) D = un3 x fun a b c => sqD (k a b c) D := by
  unfold un3
  split <;> rfl
theorem sq_un4 {x : PyData} {k : PyData → PyData → PyData → PyData → Bx → Option Out} : sqD (un4 x k) D = un4 x fun a b c d => sqD (k a b c d) D := by
  unfold un4
  split <;> rfl
theorem sq_bR {m : M (Lr α)} {k : α → Bx → Option Out} {e : PyData → Bx → Option Out} : sqD (bR m k e) D = bR m (fun s => sqD (k s) D) fun r => sqD (e r) D := by
  unfold bR
  rw [sq_bn]
  congr 1
  funext o
  cases o <;> rfl
end
def fnO (F : Bx → Option Out) : M PyData := fun B => (F B).bind fun o => match o with
  | .rt (.dat r) B => some (r, B)
  | .nx _ B => some (.none, B)
  | _ => none
section
variable {α β : Type} {sl : Sl}
theorem fn_bn {m : M α} {k : α → Bx → Option Out} : fnO (bn m k) = bn m fun x => fnO (k x) := by
  funext B
  unfold fnO bn
  rw [Option.bind_assoc]
theorem fn_nx : fnO (nxD sl) = ret .none := id rfl
theorem fn_ret {r : PyData} : fnO (retD r) = ret r := id rfl
theorem fn_fl : fnO fl = fl := id rfl
theorem fn_ite {c : M Bool} {a b : Bx → Option Out} : fnO (mIte c a b) = mIte c (fnO a) (fnO b) := by
  unfold mIte
  rw [fn_bn]
  congr 1
  funext t
  cases t <;> rfl
theorem fn_un2 {x : PyData} {k : PyData → PyData → Bx → Option Out} : fnO (un2 x k) = un2 x fun a b => fnO (k a b) := by
  unfold un2
  split <;> rfl
theorem fn_un3 {x : PyData} {k : PyData → PyData → PyData → Bx → Option Out} : fnO (un3 x k) = un3 x fun a b c => fnO (k a b c) := by
  unfold un3
  split <;> rfl
theorem fn_un4 {x : PyData} {k : PyData → PyData → PyData → PyData → Bx → Option Out} : fnO (un4 x k) = un4 x fun a b c d => fnO (k a b c d) := by
  unfold un4
  split <;> rfl
theorem fn_bR {m : M (Lr α)} {k : α → Bx → Option Out} {e : PyData → Bx → Option Out} : fnO (bR m k e) = bR m (fun s => fnO (k s)) fun r => fnO (e r) := by
  unfold bR
  rw [fn_bn]
  congr 1
  funext o
  cases o <;> rfl
end
def callM (f : FD) (ss : List Sv) : M PyData := fun B => (f ss B).bind fun q => match q.1 with
  | .dat z => some (z, q.2)
  | _ => none
theorem callM_fun {n m : Nat} {body : DS} {ss : List Sv} (h : ss.length = n ∧ ss.all nown = true) : callM (dFun n m body) ss = fnO (body (ss.map some ++ List.replicate m none)) := by
  funext B
  unfold callM dFun fnO
  rw [if_pos h, Option.bind_assoc]
  cases body (ss.map some ++ List.replicate m none) B with
  | none => rfl
  | some o =>
    cases o with
    | rt r B2 => cases r <;> rfl
    | nx s B2 => rfl
    | bk s B2 => rfl
    | ct s B2 => rfl
theorem callM_none {ss : List Sv} : callM (fun _ _ => none) ss = fl := id rfl
def tgB {β : Type} (tg : DG) (body : Sl → Bx → Option β) (x : PyData) (sl : Sl) : Bx → Option β := fun B => (tg x sl).bind fun s => body s B
section
variable {β : Type} {body : Sl → Bx → Option β} {x : PyData} {sl : Sl}
theorem tg_N {i : Nat} : tgB (gN i) body x sl = body (sl.set i (some (.dat x))) := id rfl
theorem tg_2 {g h : DG} : tgB (gT (gCons' g (gCons' h gNil'))) body x sl = un2 x fun a b => tgB g (tgB h body b) a sl := by
  funext B
  unfold tgB gT un2
  cases x with
  | tuple xs =>
    match xs with
    | [] => rfl
    | [a] =>
      show ((g a sl).bind fun s1 => none).bind _ = none
      cases g a sl <;> rfl
    | [a, b] =>
      show ((g a sl).bind fun s1 => (h b s1).bind fun s2 => some s2).bind _ = (g a sl).bind _
      rw [Option.bind_assoc]
      congr 1
      funext s
      cases h b s <;> rfl
    | a :: b :: c :: r =>
      show ((g a sl).bind fun s1 => (h b s1).bind fun s2 => none).bind _ = none
      cases g a sl with
      | none => rfl
      | some s => show ((h b s).bind fun s2 => none).bind _ = none; cases h b s <;> rfl
  | _ => rfl
theorem tg_3 {g h k : DG} : tgB (gT (gCons' g (gCons' h (gCons' k gNil')))) body x sl = un3 x fun a b c => tgB g (tgB h (tgB k body c) b) a sl := by
  funext B
  unfold tgB gT un3
  cases x with
  | tuple xs =>
    match xs with
    | [] => rfl
    | [a] =>
      show ((g a sl).bind fun s1 => none).bind _ = none
      cases g a sl <;> rfl
    | [a, b] =>
      show ((g a sl).bind fun s1 => (h b s1).bind fun s2 => none).bind _ = none
      cases g a sl with
      | none => rfl
      | some s => show ((h b s).bind fun s2 => none).bind _ = none; cases h b s <;> rfl
    | [a, b, c] =>
      show ((g a sl).bind fun s1 => (h b s1).bind fun s2 => (k c s2).bind fun s3 => some s3).bind _ = (g a sl).bind _
      cases g a sl with
      | none => rfl
      | some s =>
        show ((h b s).bind fun s2 => (k c s2).bind fun s3 => some s3).bind _ = (h b s).bind _
        cases h b s with
        | none => rfl
        | some t => show ((k c t).bind fun s3 => some s3).bind _ = (k c t).bind _; cases k c t <;> rfl
    | a :: b :: c :: d :: r =>
      show ((g a sl).bind fun s1 => (h b s1).bind fun s2 => (k c s2).bind fun s3 => none).bind _ = none
      cases g a sl with
      | none => rfl
      | some s =>
        show ((h b s).bind fun s2 => (k c s2).bind fun s3 => none).bind _ = none
        cases h b s with
        | none => rfl
        | some t => show ((k c t).bind fun s3 => none).bind _ = none; cases k c t <;> rfl
  | _ => rfl
theorem tg_4 {g h k l : DG} : tgB (gT (gCons' g (gCons' h (gCons' k (gCons' l gNil'))))) body x sl = un4 x fun a b c d => tgB g (tgB h (tgB k (tgB l body d) c) b) a sl := by
  funext B
  unfold tgB gT un4
  cases x with
  | tuple xs =>
    match xs with
    | [] => rfl
    | [a] =>
      show ((g a sl).bind fun s1 => none).bind _ = none
      cases g a sl <;> rfl
    | [a, b] =>
      show ((g a sl).bind fun s1 => (h b s1).bind fun s2 => none).bind _ = none
      cases g a sl with
      | none => rfl
      | some s => show ((h b s).bind fun s2 => none).bind _ = none; cases h b s <;> rfl
    | [a, b, c] =>
      show ((g a sl).bind fun s1 => (h b s1).bind fun s2 => (k c s2).bind fun s3 => none).bind _ = none
      cases g a sl with
      | none => rfl
      | some s =>
        show ((h b s).bind fun s2 => (k c s2).bind fun s3 => none).bind _ = none
        cases h b s with
        | none => rfl
        | some t => show ((k c t).bind fun s3 => none).bind _ = none; cases k c t <;> rfl
    | [a, b, c, d] =>
      show ((g a sl).bind fun s1 => (h b s1).bind fun s2 => (k c s2).bind fun s3 => (l d s3).bind fun s4 => some s4).bind _ = (g a sl).bind _
      cases g a sl with
      | none => rfl
      | some s =>
        show ((h b s).bind fun s2 => (k c s2).bind fun s3 => (l d s3).bind fun s4 => some s4).bind _ = (h b s).bind _
        cases h b s with
        | none => rfl
        | some t =>
          show ((k c t).bind fun s3 => (l d s3).bind fun s4 => some s4).bind _ = (k c t).bind _
          cases k c t with
          | none => rfl
          | some u => show ((l d u).bind fun s4 => some s4).bind _ = (l d u).bind _; cases l d u <;> rfl
    | a :: b :: c :: d :: e :: r =>
      show ((g a sl).bind fun s1 => (h b s1).bind fun s2 => (k c s2).bind fun s3 => (l d s3).bind fun s4 => none).bind _ = none
      cases g a sl with
      | none => rfl
      | some s =>
        show ((h b s).bind fun s2 => (k c s2).bind fun s3 => (l d s3).bind fun s4 => none).bind _ = none
        cases h b s with
        | none => rfl
        | some t =>
          show ((k c t).bind fun s3 => (l d s3).bind fun s4 => none).bind _ = none
          cases k c t with
          | none => rfl
          | some u => show ((l d u).bind fun s4 => none).bind _ = none; cases l d u <;> rfl
  | _ => rfl
end
section
variable {da db dc : DE} {sl : Sl} {dl : DL} {x y z : PyData} {B : Bx}
theorem q_dC : dC x sl = ret x := id rfl
theorem q_op {f : PyData → PyData → Option PyData} : dOp f da db sl = bn (da sl) fun x => bn (db sl) fun y => lf (f x y) := id rfl
theorem q_tst {f : PyData → PyData → Option Bool} : dTst f da db sl = bn (da sl) fun x => bn (db sl) fun y => lf (f x y) := id rfl
theorem q_opB {f : PyData → PyData → Option Bool} : dOpB f da db sl = bn (da sl) fun x => bn (db sl) fun y => bn (lf (f x y)) fun t => ret (.bool t) := by
  funext B
  simp only [dOpB, bn, ret, lf, Option.map_eq_bind, Option.bind_assoc, Option.bind_some, Function.comp_def]
def negO : PyData → Option PyData
  | .int i => some (.int (-i))
  | _ => none
theorem negO_i {i : Int} : negO (.int i) = some (.int (-i)) := id rfl
theorem q_neg : dNeg da sl = bn (da sl) fun x => lf (negO x) := by
  funext B
  unfold dNeg bn lf negO
  congr 1; funext p
  obtain ⟨x, B1⟩ := p
  cases x <;> rfl
theorem q_andT {t u : DT} : dAndT t u sl = mAnd (t sl) (u sl) := by
  funext B
  unfold dAndT mAnd bn
  congr 1; funext p
  obtain ⟨x, B1⟩ := p
  cases x <;> rfl
theorem q_orT {t u : DT} : dOrT t u sl = mOr (t sl) (u sl) := by
  funext B
  unfold dOrT mOr bn
  congr 1; funext p
  obtain ⟨x, B1⟩ := p
  cases x <;> rfl
theorem q_notT {t : DT} : dNotT t sl = mNot (t sl) := by
  funext B
  unfold dNotT mNot bn ret
  cases t sl B <;> rfl
theorem q_tru : dTru da sl = bn (da sl) fun x => lf (truD x) := id rfl
theorem q_andV : dAndV da db sl = vAnd (da sl) (db sl) := by
  funext B
  unfold dAndV vAnd bn ret fl
  congr 1; funext p
  obtain ⟨x, B1⟩ := p
  cases x with
  | bool k => cases k <;> rfl
  | _ => rfl
theorem q_orV : dOrV da db sl = vOr (da sl) (db sl) := by
  funext B
  unfold dOrV vOr bn ret fl
  congr 1; funext p
  obtain ⟨x, B1⟩ := p
  cases x with
  | bool k => cases k <;> rfl
  | _ => rfl
def notO : PyData → Option PyData
  | .bool b => some (.bool (!b))
  | _ => none
theorem notO_b {b : Bool} : notO (.bool b) = some (.bool (!b)) := id rfl
theorem q_notV : dNotV da sl = bn (da sl) fun x => lf (notO x) := by
  funext B
  unfold dNotV bn lf notO
  congr 1; funext p
  obtain ⟨x, B1⟩ := p
  cases x <;> rfl
theorem q_chn {f g : PyData → PyData → Option Bool} : dChn f g da db dc sl = bn (da sl) fun x => bn (db sl) fun y => mAnd (lf (f x y)) (bn (dc sl) fun z => lf (g y z)) := by
  funext B
  unfold dChn mAnd bn lf ret
  congr 1; funext p; congr 1; funext q
  obtain ⟨x, B1⟩ := p
  obtain ⟨y, B2⟩ := q
  show _ = ((f x y).map fun x => (x, B2)).bind _
  cases h : f x y with
  | none => simp only [h]; rfl
  | some t => cases t <;> simp only [h] <;> rfl
theorem q_chnB {f g : PyData → PyData → Option Bool} : dChnB f g da db dc sl = bn (da sl) fun x => bn (db sl) fun y => bn (mAnd (lf (f x y)) (bn (dc sl) fun z => lf (g y z))) fun t => ret (.bool t) := by
  have e : dChnB f g da db dc sl = bn (dChn f g da db dc sl) fun t => ret (.bool t) := by
    funext B
    rw [k_chnB]
    unfold bn ret
    cases dChn f g da db dc sl B <;> rfl
  rw [e, q_chn, bn_bn]
  congr 1; funext x
  rw [bn_bn]
theorem q_if {t : DT} : dIf t da db sl = mIteV (t sl) (da sl) (db sl) := by
  funext B
  unfold dIf mIteV bn
  congr 1; funext p
  obtain ⟨x, B1⟩ := p
  cases x <;> rfl
theorem q_nilE : dNil sl = ret [] := id rfl
theorem q_consE : dCons da dl sl = bn (da sl) fun x => bn (dl sl) fun xs => ret (x :: xs) := by
  funext B
  simp only [dCons, bn, ret, lf, Option.map_eq_bind, Option.bind_assoc, Option.bind_some, Function.comp_def]
theorem q_nilA : dNilA sl = ret [] := id rfl
theorem q_consA {dv : DV} {ds : DA} : dConsA dv ds sl = bn (dv sl) fun x => bn (ds sl) fun xs => ret (x :: xs) := by
  funext B
  simp only [dConsA, bn, ret, lf, Option.map_eq_bind, Option.bind_assoc, Option.bind_some, Function.comp_def]
theorem q_V : dV da sl = bn (da sl) fun x => ret (.dat x) := by
  funext B
  unfold dV bn ret
  cases da sl B <;> rfl
theorem q_F : dF dl sl = bn (dl sl) fun x => ret (.list x) := by
  funext B
  unfold dF bn ret
  cases dl sl B <;> rfl
def tupM (xs : List PyData) : M PyData := if xs.length ≤ sizeLine then ret (.tuple xs) else fl
def lstM (xs : List PyData) : M (List PyData) := if xs.length ≤ sizeLine then ret xs else fl
theorem tupM_ok {xs : List PyData} (h : xs.length ≤ sizeLine) : tupM xs = ret (.tuple xs) := if_pos h
theorem lstM_ok {xs : List PyData} (h : xs.length ≤ sizeLine) : lstM xs = ret xs := if_pos h
theorem q_tup : dTup dl sl = bn (dl sl) tupM := by
  funext B
  unfold dTup bn tupM ret fl
  congr 1; funext p
  split <;> rfl
theorem q_lst : dLst dl sl = bn (dl sl) lstM := by
  funext B
  unfold dLst bn lstM ret fl
  congr 1; funext p
  split <;> rfl
theorem q_cl {f : List PyData → Option PyData} : dCl f dl sl = bn (dl sl) fun xs => lf (f xs) := id rfl
theorem q_clL {f : List PyData → Option (List PyData)} : dClL f dl sl = bn (dl sl) fun xs => lf (f xs) := id rfl
theorem q_isi {T : String} : dIsi T da sl = bn (da sl) fun x => ret (.bool (isTy T x)) := id rfl
theorem q_fn {f : FD} {ds : DA} : dFn f ds sl = bn (ds sl) (callM f) := id rfl
def seqO : PyData → Option (List PyData)
  | .list xs => some xs
  | .tuple xs => some xs
  | _ => none
theorem seqO_l {xs : List PyData} : seqO (.list xs) = some xs := id rfl
theorem seqO_t {xs : List PyData} : seqO (.tuple xs) = some xs := id rfl
theorem q_seqI : dSeq' da sl = bn (da sl) fun x => lf (seqO x) := by
  funext B
  unfold dSeq' bn lf seqO
  congr 1; funext p
  obtain ⟨x, B1⟩ := p
  cases x <;> rfl
def rng1O : PyData → Option (List PyData)
  | .int j => if -(2 ^ 62) ≤ j ∧ j < 2 ^ 62 then some (rngD 0 j.toNat) else none
  | _ => none
def rng2O : PyData → PyData → Option (List PyData)
  | .int i, .int j => if -(2 ^ 62) ≤ i ∧ i < 2 ^ 62 ∧ -(2 ^ 62) ≤ j ∧ j < 2 ^ 62 then some (rngD i (j - i).toNat) else none
  | _, _ => none
theorem q_rng1 : dRng1 da sl = bn (da sl) fun x => lf (rng1O x) := by
  funext B
  unfold dRng1 bn lf rng1O
  congr 1; funext p
  obtain ⟨x, B1⟩ := p
  cases x with
  | int j => simp only; split <;> rfl
  | _ => rfl
theorem q_rng2 : dRng2 da db sl = bn (da sl) fun x => bn (db sl) fun y => lf (rng2O x y) := by
  funext B
  unfold dRng2 bn lf rng2O
  congr 1; funext p; congr 1; funext q
  obtain ⟨x, B1⟩ := p
  obtain ⟨y, B2⟩ := q
  cases x with
  | int i =>
    cases y with
    | int j => simp only; split <;> rfl
    | _ => rfl
  | _ => rfl
theorem q_enum : dEnum da sl = bn (dSeq' da sl) fun xs => ret (enumD 0 xs) := by
  funext B
  unfold dEnum bn ret
  cases dSeq' da sl B <;> rfl
theorem q_zip : dZip da db sl = bn (dSeq' da sl) fun xs => bn (dSeq' db sl) fun ys => ret (zipD xs ys) := by
  funext B
  simp only [dZip, bn, ret, lf, Option.map_eq_bind, Option.bind_assoc, Option.bind_some, Function.comp_def]
def partO : PyData → Option (Option Int)
  | .int i => some (some i)
  | _ => none
theorem partO_i {i : Int} : partO (.int i) = some (some i) := id rfl
theorem q_part : dPart da sl = bn (da sl) fun x => lf (partO x) := by
  funext B
  unfold dPart bn lf partO
  congr 1; funext p
  obtain ⟨x, B1⟩ := p
  cases x <;> rfl
theorem q_noP : dNoP sl = ret none := id rfl
theorem q_sl {f : PyData → Option Int → Option Int → Option PyData} {l h : DP} : dSl f da l h sl = bn (da sl) fun x => bn (l sl) fun i => bn (h sl) fun j => lf (f x i j) := id rfl
theorem q_yes : dYes sl = ret true := id rfl
def revO : PyData → Option PyData
  | .tuple xs => some (.tuple xs.reverse)
  | _ => none
def revLO : PyData → Option (List PyData)
  | .list xs => some xs.reverse
  | _ => none
theorem revO_t {xs : List PyData} : revO (.tuple xs) = some (.tuple xs.reverse) := id rfl
theorem revLO_l {xs : List PyData} : revLO (.list xs) = some xs.reverse := id rfl
theorem q_rev : dRev da sl = bn (da sl) fun x => lf (revO x) := by
  funext B
  unfold dRev bn lf revO
  congr 1; funext p
  obtain ⟨x, B1⟩ := p
  cases x <;> rfl
theorem q_revL : dRevL da sl = bn (da sl) fun x => lf (revLO x) := by
  funext B
  unfold dRevL bn lf revLO
  congr 1; funext p
  obtain ⟨x, B1⟩ := p
  cases x <;> rfl
def rg1O : PyData → Option (Int × Int)
  | .int n => if rgOk 0 n = true then some (0, n) else none
  | _ => none
def rg2O : PyData → PyData → Option (Int × Int)
  | .int i, .int j => if rgOk i j = true then some (i, j) else none
  | _, _ => none
theorem q_rg1 : dRg1 da sl = bn (da sl) fun x => lf (rg1O x) := by
  funext B
  unfold dRg1 bn lf rg1O
  congr 1; funext p
  obtain ⟨x, B1⟩ := p
  cases x with
  | int j => simp only; split <;> rfl
  | _ => rfl
theorem q_rg2 : dRg2 da db sl = bn (da sl) fun x => bn (db sl) fun y => lf (rg2O x y) := by
  funext B
  unfold dRg2 bn lf rg2O
  congr 1; funext p; congr 1; funext q
  obtain ⟨x, B1⟩ := p
  obtain ⟨y, B2⟩ := q
  cases x with
  | int i =>
    cases y with
    | int j => simp only; split <;> rfl
    | _ => rfl
  | _ => rfl
theorem q_tupRg {r : Sl → Bx → Option ((Int × Int) × Bx)} : dTupRg r sl = bn (r sl) fun p => ret (.tuple (rgD p.1 p.2)) := by
  funext B
  unfold dTupRg bn ret
  cases r sl B <;> rfl
theorem q_lstRg {r : Sl → Bx → Option ((Int × Int) × Bx)} : dLstRg r sl = bn (r sl) fun p => ret (rgD p.1 p.2) := by
  funext B
  unfold dLstRg bn ret
  cases r sl B <;> rfl
def srtSetO : PyData → Option (List PyData)
  | .tuple xs => (intsOf xs).bind fun ns => if ns.length < 64 then some ((sdI ns).map PyData.int) else none
  | _ => none
theorem q_srt : dSrtSet da sl = bn (da sl) fun x => lf (srtSetO x) := by
  funext B
  unfold dSrtSet bn lf srtSetO
  congr 1; funext p
  obtain ⟨x, B1⟩ := p
  cases x with
  | tuple xs =>
    simp only
    cases intsOf xs with
    | none => rfl
    | some ns => simp only [Option.bind_some]; split <;> rfl
  | _ => rfl
def indexO : PyData → PyData → Option PyData
  | .list xs, y => pyIndex xs y
  | _, _ => none
theorem q_idx : dIndex da db sl = bn (da sl) fun x => bn (db sl) fun y => lf (indexO x y) := by
  funext B
  unfold dIndex bn lf indexO
  congr 1; funext p; congr 1; funext q
  obtain ⟨x, B1⟩ := p
  cases x <;> rfl
theorem bind_some' {α β : Type} (o : Option (α × β)) : (o.bind fun x => some (x.1, x.2)) = o := by cases o <;> rfl
theorem cmpGo_map' {tg : DG} {e : DE} {sw : Sl} (xs : List PyData) : cmpGo tg dYes e sw xs = mapP (fun x => tgB tg e x sw) xs := by
  induction xs with
  | nil => rfl
  | cons x xs ih =>
    funext B
    rw [show cmpGo tg dYes e sw (x :: xs) B = (tg x sw).bind fun s2 => (e s2 B).bind fun y => (cmpGo tg dYes e sw xs y.2).map fun r => (y.1 :: r.1, r.2) from rfl, ih]
    simp only [mapP, tgB, bn, ret, Option.map_eq_bind, Option.bind_assoc, Option.bind_some, Function.comp_def]
theorem cmpGo_fil' {tg : DG} {t : DT} {e : DE} {sw : Sl} (xs : List PyData) : cmpGo tg t e sw xs = filP (fun x => tgB tg (fun s => mFil (t s) (e s)) x sw) xs := by
  induction xs with
  | nil => rfl
  | cons x xs ih =>
    funext B
    rw [show cmpGo tg t e sw (x :: xs) B = (tg x sw).bind fun s2 => (t s2 B).bind fun q => if q.1 = true then (e s2 q.2).bind fun y => (cmpGo tg t e sw xs y.2).map fun r => (y.1 :: r.1, r.2) else cmpGo tg t e sw xs q.2 from rfl, ih]
    simp only [filP, tgB, mFil, mIteV, bn, ret, Option.map_eq_bind, Option.bind_assoc, Option.bind_some, Function.comp_def]
    congr 1
    funext s
    congr 1
    funext q
    obtain ⟨c, B1⟩ := q
    cases c with
    | true => simp only [if_true, bn, ret, Option.bind_assoc, Option.bind_some]
    | false =>
      simp only [Bool.false_eq_true, if_false, ret, Option.bind_some]
      exact (bind_some' _).symm
theorem q_cmp {it : DL} {tg : DG} {e : DE} {vs : List Nat} : dCmpY it tg e vs sl = bn (it sl) fun xs => cmpP (fun x => tgB tg e x (wipeD sl vs)) xs := by
  funext B
  unfold dCmpY dCmp bn cmpP fl
  congr 1; funext p
  rw [cmpGo_map']
  obtain ⟨xs, B1⟩ := p
  show (if xs.length < sizeLine then mapP (fun x => tgB tg e x (wipeD sl vs)) xs B1 else none) = (if xs.length < sizeLine then mapP (fun x => tgB tg e x (wipeD sl vs)) xs else fun _ => none) B1
  split <;> rfl
theorem q_cmpF {it : DL} {tg : DG} {t : DT} {e : DE} {vs : List Nat} : dCmp it tg t e vs sl = bn (it sl) fun xs => cmpF (fun x => tgB tg (fun s => mFil (t s) (e s)) x (wipeD sl vs)) xs := by
  funext B
  unfold dCmp bn cmpF fl
  congr 1; funext p
  rw [cmpGo_fil']
  obtain ⟨xs, B1⟩ := p
  show (if xs.length < sizeLine then filP (fun x => tgB tg (fun s => mFil (t s) (e s)) x (wipeD sl vs)) xs B1 else none) = (if xs.length < sizeLine then filP (fun x => tgB tg (fun s => mFil (t s) (e s)) x (wipeD sl vs)) xs else fun _ => none) B1
  split <;> rfl
theorem cmpGo2_cat {tg : DG} {t : DT} {it1 : DL} {tg1 : DG} {t1 : DT} {e : DE} {vs1 : List Nat} {sw : Sl} (xs : List PyData) : cmpGo2 tg t it1 tg1 t1 e vs1 sw xs = catP (fun x => tgB tg (fun s => mIteV (t s) (bn (it1 s) fun ys => cmpGo tg1 t1 e (wipeD s vs1) ys) (ret [])) x sw) xs := by
  induction xs with
  | nil => rfl
  | cons x xs ih =>
    funext B
    rw [show cmpGo2 tg t it1 tg1 t1 e vs1 sw (x :: xs) B = (tg x sw).bind fun s2 => (t s2 B).bind fun q => if q.1 = true then (it1 s2 q.2).bind fun p => (cmpGo tg1 t1 e (wipeD s2 vs1) p.1 p.2).bind fun y => (cmpGo2 tg t it1 tg1 t1 e vs1 sw xs y.2).map fun r => (y.1 ++ r.1, r.2) else cmpGo2 tg t it1 tg1 t1 e vs1 sw xs q.2 from rfl, ih]
    simp only [catP, tgB, mIteV, bn, ret, Option.map_eq_bind, Option.bind_assoc, Option.bind_some, Function.comp_def]
    congr 1
    funext s
    congr 1
    funext q
    obtain ⟨c, B1⟩ := q
    cases c with
    | true => simp only [if_true, bn, ret, Option.bind_assoc]
    | false =>
      simp only [Bool.false_eq_true, if_false, ret, Option.bind_some, List.nil_append]
      exact (bind_some' _).symm
def szO (xs : List PyData) : Option (List PyData) := if xs.length ≤ sizeLine then some xs else none
theorem q_cmp2 {it : DL} {tg : DG} {t : DT} {it1 : DL} {tg1 : DG} {t1 : DT} {e : DE} {vs vs1 : List Nat} : dCmp2 it tg t it1 tg1 t1 e vs vs1 sl = bn (it sl) fun xs => bn (catP (fun x => tgB tg (fun s => mIteV (t s) (bn (it1 s) fun ys => cmpGo tg1 t1 e (wipeD s vs1) ys) (ret [])) x (wipeD sl vs)) xs) fun r => lf (szO r) := by
  funext B
  unfold dCmp2
  rw [show bn (it sl) _ B = (it sl B).bind fun p => (catP (fun x => tgB tg (fun s => mIteV (t s) (bn (it1 s) fun ys => cmpGo tg1 t1 e (wipeD s vs1) ys) (ret [])) x (wipeD sl vs)) p.1 p.2).bind fun r => lf (szO r.1) r.2 from rfl]
  congr 1; funext p
  rw [cmpGo2_cat]
  congr 1; funext r
  unfold lf szO
  split <;> rfl
theorem q_cmp2Y {it : DL} {tg : DG} {t : DT} {it1 : DL} {tg1 : DG} {e : DE} {vs vs1 : List Nat} : dCmp2Y it tg t it1 tg1 e vs vs1 sl = bn (it sl) fun xs => bn (catP (fun x => tgB tg (fun s => mIteV (t s) (bn (it1 s) fun ys => mapP (fun x => tgB tg1 e x (wipeD s vs1)) ys) (ret [])) x (wipeD sl vs)) xs) fun r => lf (szO r) := by
  unfold dCmp2Y
  rw [q_cmp2]
  simp only [cmpGo_map']
/-! statements -/
variable {D1 D2 : DS}
theorem q_seq : dSeq D1 D2 sl = sqD (D1 sl) D2 := id rfl
theorem q_next : dNext sl = nxD sl := id rfl
theorem q_brk : dBreak sl = bkD sl := id rfl
theorem q_cont : dCont sl = ctD sl := id rfl
theorem q_never : dNever sl = fl := id rfl
theorem q_retN : dRetN sl = retD .none := id rfl
theorem q_ret : dRet da sl = bn (da sl) fun r => retD r := by
  funext B
  unfold dRet bn retD
  cases da sl B <;> rfl
theorem q_ifS {t : DT} : dIfS t D1 D2 sl = mIte (t sl) (D1 sl) (D2 sl) := by
  funext B
  unfold dIfS mIte bn
  congr 1; funext p
  obtain ⟨x, B1⟩ := p
  cases x <;> rfl
theorem q_asg {i : Nat} : dAsg i da sl = bn (da sl) fun x => nxD (sl.set i (some (.dat x))) := by
  funext B
  unfold dAsg bn nxD
  cases da sl B <;> rfl
theorem q_asgO {i : Nat} : dAsgO i dl sl = bn (dl sl) fun x => nxD (sl.set i (some (.own x))) := by
  funext B
  unfold dAsgO bn nxD
  cases dl sl B <;> rfl
theorem q_asgG {tg : DG} : dAsgG tg da sl = bn (da sl) fun x => tgB tg nxD x sl := by
  funext B
  simp only [dAsgG, nxD, tgB, bn, ret, Option.map_eq_bind, Option.bind_assoc, Option.bind_some, Function.comp_def]
theorem q_par {i j : Nat} : dPar i j da db sl = bn (da sl) fun x => bn (db sl) fun y => nxD ((sl.set i (some (.dat x))).set j (some (.dat y))) := by
  funext B
  simp only [dPar, nxD, bn, ret, lf, Option.map_eq_bind, Option.bind_assoc, Option.bind_some,Function.comp_def]
theorem q_parLE {i j : Nat} : dParLE i j dl db sl = bn (dl sl) fun x => bn (db sl) fun y => nxD ((sl.set i (some (.own x))).set j (some (.dat y))) := by
  funext B
  simp only [dParLE, nxD, bn, ret, lf, Option.map_eq_bind, Option.bind_assoc, Option.bind_some,Function.comp_def]
theorem q_parEL {i j : Nat} : dParEL i j da dl sl = bn (da sl) fun x => bn (dl sl) fun y => nxD ((sl.set j (some (.own y))).set i (some (.dat x))) := by
  funext B
  simp only [dParEL, nxD, bn, ret, lf, Option.map_eq_bind, Option.bind_assoc, Option.bind_some,Function.comp_def]
theorem q_parLL {i j : Nat} {d2 : DL} : dParLL i j dl d2 sl = bn (dl sl) fun x => bn (d2 sl) fun y => nxD ((sl.set i (some (.own x))).set j (some (.own y))) := by
  funext B
  simp only [dParLL, nxD, bn, ret, lf, Option.map_eq_bind, Option.bind_assoc, Option.bind_some,Function.comp_def]
theorem q_drop : dDrop da sl = bn (da sl) fun _ => nxD sl := by
  funext B
  unfold dDrop bn nxD
  cases da sl B <;> rfl
theorem q_for {it : DL} {tg : DG} {body : DS} : dFor it tg body sl = bn (it sl) fun xs => forGo tg body xs sl := id rfl
theorem q_wp {vs : List Nat} : dWp vs D1 sl = D1 (wipeD sl vs) := id rfl
theorem w_nil : wipeD sl [] = sl := id rfl
theorem w_cons {v : Nat} {vs : List Nat} : wipeD sl (v :: vs) = (wipeD sl vs).set v none := id rfl
def appO (xs : List PyData) (x : PyData) : Option (List PyData) := if xs.length < sizeLine then some (xs ++ [x]) else none
theorem appO_ok {xs : List PyData} {x : PyData} (h : xs.length < sizeLine) : appO xs x = some (xs ++ [x]) := if_pos h
def extO (xs : List PyData) (x : PyData) : Option (List PyData) := match x with
  | .list zs => if xs.length + zs.length ≤ sizeLine then some (xs ++ zs) else none
  | _ => none
theorem extO_ok {xs zs : List PyData} (h : xs.length + zs.length ≤ sizeLine) : extO xs (.list zs) = some (xs ++ zs) := if_pos h
def extBO (xs : List PyData) (x : PyData) : Option (List PyData) := match x with
  | .list zs => if xs.length + zs.length ≤ sizeLine then some (xs ++ zs) else none
  | .tuple zs => if xs.length + zs.length ≤ sizeLine then some (xs ++ zs) else none
  | _ => none
theorem extBO_l {xs zs : List PyData} (h : xs.length + zs.length ≤ sizeLine) : extBO xs (.list zs) = some (xs ++ zs) := if_pos h
theorem extBO_t {xs zs : List PyData} (h : xs.length + zs.length ≤ sizeLine) : extBO xs (.tuple zs) = some (xs ++ zs) := if_pos h
def setO (xs : List PyData) (i x : PyData) : Option (List PyData) := match i with
  | .int k => (ixN xs.length k).map fun m => xs.set m x
  | _ => none
def insO (xs : List PyData) (i x : PyData) : Option (List PyData) := match i with
  | .int k => if 0 ≤ k ∧ k < 2 ^ 63 ∧ xs.length < sizeLine then some (xs.take k.toNat ++ [x] ++ xs.drop k.toNat) else none
  | _ => none
def augO (f : Int → Int → Int) : PyData → PyData → Option PyData
  | .int a, .int b => some (.int (f a b))
  | _, _ => none
theorem augO_i {f : Int → Int → Int} {a b : Int} : augO f (.int a) (.int b) = some (.int (f a b)) := id rfl
theorem q_app {j : Nat} {xs : List PyData} (h : sl[j]? = some (some (.own xs))) : dApp j da sl = bn (da sl) fun x => bn (lf (appO xs x)) fun ys => nxD (sl.set j (some (.own ys))) := by
  funext B
  unfold dApp bn lf appO nxD
  congr 1; funext p
  rw [h]
  simp only
  split <;> rfl
theorem q_ext {j : Nat} {xs : List PyData} (h : sl[j]? = some (some (.own xs))) : dExt j da sl = bn (da sl) fun x => bn (lf (extO xs x)) fun ys => nxD (sl.set j (some (.own ys))) := by
  funext B
  unfold dExt bn lf extO nxD
  congr 1; funext p
  obtain ⟨x, B1⟩ := p
  rw [h]
  cases x with
  | list zs => simp only; split <;> rfl
  | _ => rfl
theorem q_extB {j : Nat} {xs : List PyData} (h : sl[j]? = some (some (.own xs))) : dExtB j da sl = bn (da sl) fun x => bn (lf (extBO xs x)) fun ys => nxD (sl.set j (some (.own ys))) := by
  funext B
  unfold dExtB bn lf extBO nxD
  congr 1; funext p
  obtain ⟨x, B1⟩ := p
  rw [h]
  cases x with
  | list zs => simp only; split <;> rfl
  | tuple zs => simp only; split <;> rfl
  | _ => rfl
theorem q_setL {j : Nat} {xs : List PyData} {di : DE} (h : sl[j]? = some (some (.own xs))) : dSetL j di da sl = bn (da sl) fun x => bn (di sl) fun i => bn (lf (setO xs i x)) fun ys => nxD (sl.set j (some (.own ys))) := by
  funext B
  unfold dSetL bn lf setO nxD
  congr 1; funext p
  show (di sl p.2).bind _ = (di sl p.2).bind _
  congr 1; funext q
  obtain ⟨i, B1⟩ := q
  rw [h]
  cases i with
  | int k => simp only; cases ixN xs.length k <;> rfl
  | _ => rfl
theorem q_ins {j : Nat} {xs : List PyData} {di : DE} (h : sl[j]? = some (some (.own xs))) : dIns j di da sl = bn (di sl) fun i => bn (da sl) fun x => bn (lf (insO xs i x)) fun ys => nxD (sl.set j (some (.own ys))) := by
  funext B
  unfold dIns bn lf insO nxD
  congr 1; funext p
  show (da sl p.2).bind _ = (da sl p.2).bind _
  congr 1; funext q
  obtain ⟨i, B1⟩ := p
  rw [h]
  cases i with
  | int k => simp only; split <;> rfl
  | _ => rfl
theorem q_augL {j : Nat} {xs : List PyData} {di : DE} {f : Int → Int → Int} (h : sl[j]? = some (some (.own xs))) : dAugL f j di da sl = bn (di sl) fun i => bn (lf (pyIx (.list xs) i)) fun a => bn (da sl) fun c => bn (lf (augO f a c)) fun z => bn (lf (setO xs i z)) fun ys => nxD (sl.set j (some (.own ys))) := by
  funext B
  unfold dAugL bn lf setO nxD
  congr 1; funext q
  obtain ⟨i, B1⟩ := q
  rw [h]
  cases i with
  | int k =>
    simp only
    show _ = ((atI xs k).map fun x => (x, B1)).bind _
    unfold atI
    cases h1 : ixN xs.length k with
    | none => rfl
    | some m =>
      simp only [Option.bind_some]
      cases h2 : xs[m]? with
      | none => rfl
      | some y =>
        cases y with
        | int a =>
          simp only [Option.map_some, Option.bind_some]
          congr 1; funext p
          obtain ⟨c, B2⟩ := p
          cases c <;> rfl
        | _ =>
          simp only [Option.map_some, Option.bind_some]
          cases da sl B1 <;> rfl
  | _ => rfl
theorem q_popS {j : Nat} {xs : List PyData} (h : sl[j]? = some (some (.own xs))) : dPopS j sl = bn (lf (popD xs)) fun p => nxD (sl.set j (some (.own p.2))) := by
  funext B
  unfold dPopS bn lf nxD
  rw [h]
  simp only
  cases popD xs <;> rfl
theorem q_popA {i j : Nat} {xs : List PyData} (h : sl[j]? = some (some (.own xs))) : dPopA i j sl = bn (lf (popD xs)) fun p => nxD ((sl.set j (some (.own p.2))).set i (some (.dat p.1))) := by
  funext B
  unfold dPopA bn lf nxD
  rw [h]
  simp only
  cases popD xs <;> rfl
theorem q_par3 {i j l : Nat} {db dc : DE} : dPar3 i j l da db dc sl = bn (da sl) fun x => bn (db sl) fun y => bn (dc sl) fun z => nxD (((sl.set i (some (.dat x))).set j (some (.dat y))).set l (some (.dat z))) := by
  funext B
  unfold dPar3 bn nxD
  congr 1; funext p
  show (db sl p.2).bind _ = (db sl p.2).bind _
  congr 1; funext q
  show (dc sl q.2).map _ = (dc sl q.2).bind _
  cases dc sl q.2 <;> rfl
theorem q_par3L {i j l : Nat} {la : DL} {db dc : DE} : dPar3L i j l la db dc sl = bn (la sl) fun x => bn (db sl) fun y => bn (dc sl) fun z => nxD (((sl.set i (some (.own x))).set j (some (.dat y))).set l (some (.dat z))) := by
  funext B
  unfold dPar3L bn nxD
  congr 1; funext p
  show (db sl p.2).bind _ = (db sl p.2).bind _
  congr 1; funext q
  show (dc sl q.2).map _ = (dc sl q.2).bind _
  cases dc sl q.2 <;> rfl
theorem q_par3R {i j l : Nat} {db : DE} {lc : DL} : dPar3R i j l da db lc sl = bn (da sl) fun x => bn (db sl) fun y => bn (lc sl) fun z => nxD (((sl.set l (some (.own z))).set i (some (.dat x))).set j (some (.dat y))) := by
  funext B
  unfold dPar3R bn nxD
  congr 1; funext p
  show (db sl p.2).bind _ = (db sl p.2).bind _
  congr 1; funext q
  show (lc sl q.2).map _ = (lc sl q.2).bind _
  cases lc sl q.2 <;> rfl
def mulLO : PyData → PyData → Option (List PyData)
  | .list xs, .int k => if -(2 ^ 63) ≤ k ∧ k < 2 ^ 63 ∧ xs.length * k.toNat ≤ sizeLine then some (repD xs k) else none
  | _, _ => none
theorem q_mulL {db : DE} : dMulL da db sl = bn (da sl) fun x => bn (db sl) fun y => lf (mulLO x y) := by
  funext B
  unfold dMulL bn lf
  congr 1; funext p
  show (db sl p.2).bind _ = (db sl p.2).bind _
  congr 1; funext q
  obtain ⟨x, B1⟩ := p
  obtain ⟨y, B2⟩ := q
  cases x with
  | list xs => cases y with
    | int k => unfold mulLO; simp only; split <;> rfl
    | _ => rfl
  | _ => rfl
theorem q_no : dNo sl = fl := id rfl
theorem q_zip3 {db dc : DE} : dZip3 da db dc sl = bn (dSeq' da sl) fun xs => bn (dSeq' db sl) fun ys => bn (dSeq' dc sl) fun zs => ret (zipD3 xs ys zs) := by
  funext B
  unfold dZip3 bn ret
  congr 1; funext p
  show (dSeq' db sl p.2).bind _ = (dSeq' db sl p.2).bind _
  congr 1; funext q
  show (dSeq' dc sl q.2).map _ = (dSeq' dc sl q.2).bind _
  cases dSeq' dc sl q.2 <;> rfl
theorem q_aug {f : Int → Int → Int} {i : Nat} {v : PyData} (h : sl[i]? = some (some (.dat v))) : dAug f i da sl = bn (da sl) fun x => bn (lf (augO f v x)) fun z => nxD (sl.set i (some (.dat z))) := by
  funext B
  unfold dAug bn lf augO nxD
  rw [h]
  cases v with
  | int a =>
    show (da sl B).bind _ = (da sl B).bind _
    congr 1; funext p
    obtain ⟨x, B1⟩ := p
    cases x <;> rfl
  | _ =>
    show none = (da sl B).bind _
    cases da sl B <;> rfl
theorem q_fzO {i : Nat} {xs : List PyData} (h : sl[i]? = some (some (.own xs))) : dFz i D1 sl = D1 (sl.set i (some (.dat (.list xs)))) := by
  funext B
  unfold dFz
  rw [h]
theorem q_fzD {i : Nat} {x : PyData} (h : sl[i]? = some (some (.dat x))) : dFz i D1 sl = D1 sl := by
  funext B
  unfold dFz
  rw [h]
theorem q_fzN {i : Nat} (h : sl[i]? = some none) : dFz i D1 sl = D1 sl := by
  funext B
  unfold dFz
  rw [h]
theorem q_var {i : Nat} (h : sl[i]? = some (some (.dat x))) : dVar i sl = ret x := by
  funext B
  unfold dVar ret
  rw [h]
theorem q_varO {i : Nat} (h : sl[i]? = some (some (.dat x))) : dVarO i sl = ret x := by
  funext B
  unfold dVarO ret
  rw [h]
theorem q_varOo {i : Nat} {xs : List PyData} (h : sl[i]? = some (some (.own xs))) : dVarO i sl = ret (.list xs) := by
  funext B
  unfold dVarO ret
  rw [h]
theorem q_varV {i : Nat} (h : sl[i]? = some (some (.dat x))) : dVarV i sl = ret (.dat x) := by
  funext B
  unfold dVarV ret
  rw [h]
theorem q_varVb {i : Nat} (h : sl[i]? = some (some .box)) : dVarV i sl = ret .box := by
  funext B
  unfold dVarV ret
  rw [h]
end
/-! loops -/
theorem forGo_P {S : Type} {tg : DG} {body : DS} (enc : S → Sl) (st : PyData → S → M S) (h : ∀ x s, tgB tg body x (enc s) = bn (st x s) fun s => nxD (enc s)) (xs : List PyData) : ∀ s, forGo tg body xs (enc s) = bn (forP st xs s) fun s => nxD (enc s) := by
  induction xs with
  | nil => intro s; rfl
  | cons x xs ih =>
    intro s
    funext B
    have e := congrFun (h x s) B
    unfold tgB at e
    show (tg x (enc s)).bind (fun s1 => (body s1 B).bind (loopOut (forGo tg body xs))) = _
    have e2 : (tg x (enc s)).bind (fun s1 => (body s1 B).bind (loopOut (forGo tg body xs))) = ((tg x (enc s)).bind fun s1 => body s1 B).bind (loopOut (forGo tg body xs)) := by
      cases tg x (enc s) <;> rfl
    rw [e2, e]
    show ((st x s B).bind fun p => some (Out.nx (enc p.1) p.2)).bind _ = ((st x s B).bind fun p => forP st xs p.1 p.2).bind _
    rw [Option.bind_assoc, Option.bind_assoc]
    congr 1; funext p
    show forGo tg body xs (enc p.1) p.2 = _
    rw [ih]
    rfl
theorem forGo_L {S : Type} {tg : DG} {body : DS} (enc : S → Sl) (st : PyData → S → M (Lo S)) (h : ∀ x s, tgB tg body x (enc s) = bn (st x s) (loD enc)) (xs : List PyData) : ∀ s, forGo tg body xs (enc s) = bR (forL st xs s) (fun s => nxD (enc s)) retD := by
  induction xs with
  | nil => intro s; rfl
  | cons x xs ih =>
    intro s
    funext B
    have e := congrFun (h x s) B
    unfold tgB at e
    show (tg x (enc s)).bind (fun s1 => (body s1 B).bind (loopOut (forGo tg body xs))) = _
    have e2 : (tg x (enc s)).bind (fun s1 => (body s1 B).bind (loopOut (forGo tg body xs))) = ((tg x (enc s)).bind fun s1 => body s1 B).bind (loopOut (forGo tg body xs)) := by
      cases tg x (enc s) <;> rfl
    rw [e2, e]
    unfold bR forL bn
    rw [Option.bind_assoc, Option.bind_assoc]
    congr 1; funext p
    obtain ⟨o, B1⟩ := p
    cases o with
    | nx s2 =>
      show forGo tg body xs (enc s2) B1 = _
      rw [ih]
      rfl
    | ct s2 =>
      show forGo tg body xs (enc s2) B1 = _
      rw [ih]
      rfl
    | bk s2 => rfl
    | rt r => rfl
theorem whN_F {S : Type} {t : DT} {body : DS} (enc : S → Sl) (T : S → M Bool) (st : S → M (Lo S)) (hT : ∀ s, t (enc s) = T s) (hS : ∀ s, body (enc s) = bn (st s) (loD enc)) : ∀ (n : Nat) s, whN t body n (enc s) = bR (whF T st n s) (fun s => nxD (enc s)) retD := by
  intro n
  induction n with
  | zero => intro s; rfl
  | succ n ih =>
    intro s
    funext B
    unfold whN
    rw [hT]
    unfold bR whF bn
    rw [Option.bind_assoc]
    congr 1; funext p
    obtain ⟨c, B1⟩ := p
    cases c with
    | false => rfl
    | true =>
      simp only [if_true, hS]
      unfold bn
      rw [Option.bind_assoc, Option.bind_assoc]
      congr 1; funext q
      obtain ⟨o, B2⟩ := q
      cases o with
      | nx s2 => show whN t body n (enc s2) B2 = _; rw [ih]; rfl
      | ct s2 => show whN t body n (enc s2) B2 = _; rw [ih]; rfl
      | bk s2 => rfl
      | rt r => rfl
section
variable {S : Type} {T : S → M Bool} {st : S → M (Lo S)}
theorem whF_succ : ∀ (n : Nat) (s : S) (B : Bx) (o : Lr S × Bx), whF T st n s B = some o → whF T st (n + 1) s B = some o := by
  intro n
  induction n with
  | zero => intro s B o h; cases h
  | succ n ih =>
    intro s B o h
    unfold whF at h ⊢
    unfold bn at h ⊢
    obtain ⟨⟨c, B1⟩, h1, h2⟩ := bnd h
    rw [h1]
    simp only [Option.bind_some] at h2 ⊢
    cases c with
    | false => exact h2
    | true =>
      simp only [if_true] at h2 ⊢
      obtain ⟨⟨q, B2⟩, h3, h4⟩ := bnd h2
      rw [h3]
      simp only [Option.bind_some] at h4 ⊢
      cases q with
      | nx s2 => exact ih s2 B2 o h4
      | ct s2 => exact ih s2 B2 o h4
      | bk s2 => exact h4
      | rt r => exact h4
theorem whF_le {n m : Nat} (h : n ≤ m) {s : S} {B : Bx} {o : Lr S × Bx} (e : whF T st n s B = some o) : whF T st m s B = some o := by
  induction h with
  | refl => exact e
  | step _ ih => exact whF_succ _ s B o ih
theorem whP_of {n : Nat} {s : S} {B : Bx} {o : Lr S × Bx} (e : whF T st n s B = some o) : whP T st s B = some o := by
  have h : ∃ o n, whF T st n s B = some o := ⟨o, n, e⟩
  unfold whP
  rw [dif_pos h]
  obtain ⟨m, em⟩ := Classical.choose_spec h
  have e1 := whF_le (Nat.le_max_left n m) e
  have e2 := whF_le (Nat.le_max_right n m) em
  rw [e1] at e2
  exact e2.symm
theorem whP_ex {s : S} {B : Bx} {o : Lr S × Bx} (e : whP T st s B = some o) : ∃ n, whF T st n s B = some o := by
  unfold whP at e
  split at e
  · rename_i h
    obtain ⟨m, em⟩ := Classical.choose_spec h
    cases e
    exact ⟨m, em⟩
  · cases e
theorem whP_turn {s s2 : S} {B B1 B2 : Bx} {o : Lr S × Bx} (h1 : T s B = some (true, B1)) (h2 : st s B1 = some (.nx s2, B2)) (h3 : whP T st s2 B2 = some o) : whP T st s B = some o := by
  obtain ⟨n, e⟩ := whP_ex h3
  refine whP_of (n := n + 1) ?_
  unfold whF
  rw [bn_run h1]
  simp only [if_true]
  rw [bn_run h2]
  exact e
theorem whP_end {s : S} {B B1 : Bx} (h1 : T s B = some (false, B1)) : whP T st s B = some (.nx s, B1) := by
  refine whP_of (n := 1) ?_
  unfold whF
  rw [bn_run h1]
  rfl
end
theorem dWhile_P {S : Type} {t : DT} {body : DS} (enc : S → Sl) (T : S → M Bool) (st : S → M (Lo S)) (hT : ∀ s, t (enc s) = T s) (hS : ∀ s, body (enc s) = bn (st s) (loD enc)) (s : S) : dWhile t body (enc s) = bR (whP T st s) (fun s => nxD (enc s)) retD := by
  funext B
  have key := fun n => congrFun (whN_F enc T st hT hS n s) B
  by_cases h : ∃ o n, whF T st n s B = some o
  · obtain ⟨o, n, e⟩ := h
    have k := key n
    rw [show bR (whF T st n s) (fun s => nxD (enc s)) retD B = (whF T st n s B).bind _ from rfl, e] at k
    rw [show bR (whP T st s) (fun s => nxD (enc s)) retD B = (whP T st s B).bind _ from rfl, whP_of e]
    obtain ⟨q, B2⟩ := o
    cases q with
    | nx s2 => exact dWhile_of k
    | rt r => exact dWhile_of k
  · have e1 : whP T st s B = none := by
      unfold whP
      rw [dif_neg h]
    rw [show bR (whP T st s) (fun s => nxD (enc s)) retD B = (whP T st s B).bind _ from rfl, e1]
    cases e2 : dWhile t body (enc s) B with
    | none => rfl
    | some o =>
      obtain ⟨n, e3⟩ := dWhile_ex e2
      rw [key n] at e3
      obtain ⟨q, e4, _⟩ := bnd (show (whF T st n s B).bind _ = some o from e3)
      exact absurd ⟨q, n, e4⟩ h
def varM : Option (Option Sv) → M PyData
  | some (some (.dat d)) => ret d
  | _ => fl
def varOM : Option (Option Sv) → M PyData
  | some (some (.dat d)) => ret d
  | some (some (.own xs)) => ret (.list xs)
  | _ => fl
def varVM : Option (Option Sv) → M Sv
  | some (some (.dat d)) => ret (.dat d)
  | some (some .box) => ret .box
  | some (some .cells) => ret .cells
  | some (some (.scr ns)) => ret (.scr ns)
  | some (some (.dic kvs)) => ret (.dic kvs)
  | some (some (.fdc kvs)) => ret (.fdc kvs)
  | _ => fl
def fzM (i : Nat) (D : DS) (sl : Sl) : Option (Option Sv) → Bx → Option Out
  | some (some (.own xs)) => D (sl.set i (some (.dat (.list xs))))
  | _ => D sl
def appM (i : Nat) (da : DE) (sl : Sl) : Option (Option Sv) → Bx → Option Out
  | some (some (.own xs)) => bn (da sl) fun x => bn (lf (appO xs x)) fun ys => nxD (sl.set i (some (.own ys)))
  | _ => dApp i da sl
def extM (i : Nat) (da : DE) (sl : Sl) : Option (Option Sv) → Bx → Option Out
  | some (some (.own xs)) => bn (da sl) fun x => bn (lf (extO xs x)) fun ys => nxD (sl.set i (some (.own ys)))
  | _ => dExt i da sl
def extBM (i : Nat) (da : DE) (sl : Sl) : Option (Option Sv) → Bx → Option Out
  | some (some (.own xs)) => bn (da sl) fun x => bn (lf (extBO xs x)) fun ys => nxD (sl.set i (some (.own ys)))
  | _ => dExtB i da sl
def setLM (i : Nat) (di da : DE) (sl : Sl) : Option (Option Sv) → Bx → Option Out
  | some (some (.own xs)) => bn (da sl) fun x => bn (di sl) fun k => bn (lf (setO xs k x)) fun ys => nxD (sl.set i (some (.own ys)))
  | _ => dSetL i di da sl
def insM (i : Nat) (di da : DE) (sl : Sl) : Option (Option Sv) → Bx → Option Out
  | some (some (.own xs)) => bn (di sl) fun k => bn (da sl) fun x => bn (lf (insO xs k x)) fun ys => nxD (sl.set i (some (.own ys)))
  | _ => dIns i di da sl
def augLM (f : Int → Int → Int) (i : Nat) (di da : DE) (sl : Sl) : Option (Option Sv) → Bx → Option Out
  | some (some (.own xs)) => bn (di sl) fun k => bn (lf (pyIx (.list xs) k)) fun a => bn (da sl) fun c => bn (lf (augO f a c)) fun z => bn (lf (setO xs k z)) fun ys => nxD (sl.set i (some (.own ys)))
  | _ => dAugL f i di da sl
def popSM (j : Nat) (sl : Sl) : Option (Option Sv) → Bx → Option Out
  | some (some (.own xs)) => bn (lf (popD xs)) fun p => nxD (sl.set j (some (.own p.2)))
  | _ => dPopS j sl
def popAM (i j : Nat) (sl : Sl) : Option (Option Sv) → Bx → Option Out
  | some (some (.own xs)) => bn (lf (popD xs)) fun p => nxD ((sl.set j (some (.own p.2))).set i (some (.dat p.1)))
  | _ => dPopA i j sl
def augM (f : Int → Int → Int) (i : Nat) (da : DE) (sl : Sl) : Option (Option Sv) → Bx → Option Out
  | some (some (.dat v)) => bn (da sl) fun x => bn (lf (augO f v x)) fun z => nxD (sl.set i (some (.dat z)))
  | _ => dAug f i da sl
section
variable {sl : Sl} {i : Nat} {x : PyData} {xs : List PyData} {D : DS} {da : DE} {f : Int → Int → Int} {ns : List Int}
theorem s_var0 : dVar i sl = varM sl[i]? := by
  funext B; unfold dVar varM ret fl
  cases sl[i]? with
  | none => rfl
  | some o => cases o with
    | none => rfl
    | some v => cases v <;> rfl
theorem s_varO0 : dVarO i sl = varOM sl[i]? := by
  funext B; unfold dVarO varOM ret fl
  cases sl[i]? with
  | none => rfl
  | some o => cases o with
    | none => rfl
    | some v => cases v <;> rfl
theorem s_varV0 : dVarV i sl = varVM sl[i]? := by
  funext B; unfold dVarV varVM ret fl
  cases sl[i]? with
  | none => rfl
  | some o => cases o with
    | none => rfl
    | some v => cases v <;> rfl
theorem s_fz0 : dFz i D sl = fzM i D sl sl[i]? := by
  funext B; unfold dFz fzM
  cases sl[i]? with
  | none => rfl
  | some o => cases o with
    | none => rfl
    | some v => cases v <;> rfl
theorem s_app0 : dApp i da sl = appM i da sl sl[i]? := by
  cases h : sl[i]? with
  | none => rfl
  | some o => cases o with
    | none => rfl
    | some v => cases v with
      | own xs => exact q_app h
      | _ => rfl
theorem s_ext0 : dExt i da sl = extM i da sl sl[i]? := by
  cases h : sl[i]? with
  | none => rfl
  | some o => cases o with
    | none => rfl
    | some v => cases v with
      | own xs => exact q_ext h
      | _ => rfl
theorem s_extB0 : dExtB i da sl = extBM i da sl sl[i]? := by
  cases h : sl[i]? with
  | none => rfl
  | some o => cases o with
    | none => rfl
    | some v => cases v with
      | own xs => exact q_extB h
      | _ => rfl
theorem s_setL0 {di : DE} : dSetL i di da sl = setLM i di da sl sl[i]? := by
  cases h : sl[i]? with
  | none => rfl
  | some o => cases o with
    | none => rfl
    | some v => cases v with
      | own xs => exact q_setL h
      | _ => rfl
theorem s_ins0 {di : DE} : dIns i di da sl = insM i di da sl sl[i]? := by
  cases h : sl[i]? with
  | none => rfl
  | some o => cases o with
    | none => rfl
    | some v => cases v with
      | own xs => exact q_ins h
      | _ => rfl
theorem s_augL0 {di : DE} : dAugL f i di da sl = augLM f i di da sl sl[i]? := by
  cases h : sl[i]? with
  | none => rfl
  | some o => cases o with
    | none => rfl
    | some v => cases v with
      | own xs => exact q_augL h
      | _ => rfl
theorem s_popS0 {j : Nat} : dPopS j sl = popSM j sl sl[j]? := by
  cases h : sl[j]? with
  | none => rfl
  | some o => cases o with
    | none => rfl
    | some v => cases v with
      | own xs => exact q_popS h
      | _ => rfl
theorem s_popA0 {j : Nat} : dPopA i j sl = popAM i j sl sl[j]? := by
  cases h : sl[j]? with
  | none => rfl
  | some o => cases o with
    | none => rfl
    | some v => cases v with
      | own xs => exact q_popA h
      | _ => rfl
theorem s_aug0 : dAug f i da sl = augM f i da sl sl[i]? := by
  cases h : sl[i]? with
  | none => rfl
  | some o => cases o with
    | none => rfl
    | some v => cases v with
      | dat xs => exact q_aug h
      | _ => rfl
theorem s_var1 : varM (some (some (.dat x))) = ret x := id rfl
theorem s_varO1 : varOM (some (some (.dat x))) = ret x := id rfl
theorem s_varO2 : varOM (some (some (.own xs))) = ret (.list xs) := id rfl
theorem s_varV1 : varVM (some (some (.dat x))) = ret (.dat x) := id rfl
theorem s_varV2 : varVM (some (some .box)) = ret .box := id rfl
theorem s_varV3 : varVM (some (some (.scr ns))) = ret (.scr ns) := id rfl
theorem s_fz1 : fzM i D sl (some (some (.own xs))) = D (sl.set i (some (.dat (.list xs)))) := id rfl
theorem s_fz2 : fzM i D sl (some (some (.dat x))) = D sl := id rfl
theorem s_fz3 : fzM i D sl (some none) = D sl := id rfl
theorem s_app1 : appM i da sl (some (some (.own xs))) = bn (da sl) fun x => bn (lf (appO xs x)) fun ys => nxD (sl.set i (some (.own ys))) := id rfl
theorem s_ext1 : extM i da sl (some (some (.own xs))) = bn (da sl) fun x => bn (lf (extO xs x)) fun ys => nxD (sl.set i (some (.own ys))) := id rfl
theorem s_extB1 : extBM i da sl (some (some (.own xs))) = bn (da sl) fun x => bn (lf (extBO xs x)) fun ys => nxD (sl.set i (some (.own ys))) := id rfl
theorem s_setL1 {di : DE} : setLM i di da sl (some (some (.own xs))) = bn (da sl) fun x => bn (di sl) fun k => bn (lf (setO xs k x)) fun ys => nxD (sl.set i (some (.own ys))) := id rfl
theorem s_ins1 {di : DE} : insM i di da sl (some (some (.own xs))) = bn (di sl) fun k => bn (da sl) fun x => bn (lf (insO xs k x)) fun ys => nxD (sl.set i (some (.own ys))) := id rfl
theorem s_augL1 {di : DE} : augLM f i di da sl (some (some (.own xs))) = bn (di sl) fun k => bn (lf (pyIx (.list xs) k)) fun a => bn (da sl) fun c => bn (lf (augO f a c)) fun z => bn (lf (setO xs k z)) fun ys => nxD (sl.set i (some (.own ys))) := id rfl
theorem s_popS1 {j : Nat} : popSM j sl (some (some (.own xs))) = bn (lf (popD xs)) fun p => nxD (sl.set j (some (.own p.2))) := id rfl
theorem s_popA1 {j : Nat} : popAM i j sl (some (some (.own xs))) = bn (lf (popD xs)) fun p => nxD ((sl.set j (some (.own p.2))).set i (some (.dat p.1))) := id rfl
theorem s_aug1 : augM f i da sl (some (some (.dat x))) = bn (da sl) fun y => bn (lf (augO f x y)) fun z => nxD (sl.set i (some (.dat z))) := id rfl
end
section
variable {a0 a1 a2 a3 a4 a5 a6 a7 a8 a9 a10 a11 a12 a13 a14 a15 a16 a17 a18 a19 a20 a21 a22 a23 : PyData}
theorem tupM_0 : tupM [] = ret (.tuple []) := tupM_ok (sz (show 0 ≤ 1000000 by decide))
theorem lstM_0 : lstM [] = ret [] := lstM_ok (sz (show 0 ≤ 1000000 by decide))
theorem tupM_1 : tupM [a0] = ret (.tuple [a0]) := tupM_ok (sz (show 1 ≤ 1000000 by decide))
theorem lstM_1 : lstM [a0] = ret [a0] := lstM_ok (sz (show 1 ≤ 1000000 by decide))
theorem tupM_2 : tupM [a0, a1] = ret (.tuple [a0, a1]) := tupM_ok (sz (show 2 ≤ 1000000 by decide))
theorem lstM_2 : lstM [a0, a1] = ret [a0, a1] := lstM_ok (sz (show 2 ≤ 1000000 by decide))
theorem tupM_3 : tupM [a0, a1, a2] = ret (.tuple [a0, a1, a2]) := tupM_ok (sz (show 3 ≤ 1000000 by decide))
theorem lstM_3 : lstM [a0, a1, a2] = ret [a0, a1, a2] := lstM_ok (sz (show 3 ≤ 1000000 by decide))
theorem tupM_4 : tupM [a0, a1, a2, a3] = ret (.tuple [a0, a1, a2, a3]) := tupM_ok (sz (show 4 ≤ 1000000 by decide))
theorem lstM_4 : lstM [a0, a1, a2, a3] = ret [a0, a1, a2, a3] := lstM_ok (sz (show 4 ≤ 1000000 by decide))
theorem tupM_5 : tupM [a0, a1, a2, a3, a4] = ret (.tuple [a0, a1, a2, a3, a4]) := tupM_ok (sz (show 5 ≤ 1000000 by decide))
theorem lstM_5 : lstM [a0, a1, a2, a3, a4] = ret [a0, a1, a2, a3, a4] := lstM_ok (sz (show 5 ≤ 1000000 by decide))
theorem tupM_6 : tupM [a0, a1, a2, a3, a4, a5] = ret (.tuple [a0, a1, a2, a3, a4, a5]) := tupM_ok (sz (show 6 ≤ 1000000 by decide))
theorem lstM_6 : lstM [a0, a1, a2, a3, a4, a5] = ret [a0, a1, a2, a3, a4, a5] := lstM_ok (sz (show 6 ≤ 1000000 by decide))
theorem tupM_7 : tupM [a0, a1, a2, a3, a4, a5, a6] = ret (.tuple [a0, a1, a2, a3, a4, a5, a6]) := tupM_ok (sz (show 7 ≤ 1000000 by decide))
theorem lstM_7 : lstM [a0, a1, a2, a3, a4, a5, a6] = ret [a0, a1, a2, a3, a4, a5, a6] := lstM_ok (sz (show 7 ≤ 1000000 by decide))
theorem tupM_8 : tupM [a0, a1, a2, a3, a4, a5, a6, a7] = ret (.tuple [a0, a1, a2, a3, a4, a5, a6, a7]) := tupM_ok (sz (show 8 ≤ 1000000 by decide))
theorem lstM_8 : lstM [a0, a1, a2, a3, a4, a5, a6, a7] = ret [a0, a1, a2, a3, a4, a5, a6, a7] := lstM_ok (sz (show 8 ≤ 1000000 by decide))
theorem tupM_9 : tupM [a0, a1, a2, a3, a4, a5, a6, a7, a8] = ret (.tuple [a0, a1, a2, a3, a4, a5, a6, a7, a8]) := tupM_ok (sz (show 9 ≤ 1000000 by decide))
theorem lstM_9 : lstM [a0, a1, a2, a3, a4, a5, a6, a7, a8] = ret [a0, a1, a2, a3, a4, a5, a6, a7, a8] := lstM_ok (sz (show 9 ≤ 1000000 by decide))
theorem tupM_10 : tupM [a0, a1, a2, a3, a4, a5, a6, a7, a8, a9] = ret (.tuple [a0, a1, a2, a3, a4, a5, a6, a7, a8, a9]) := tupM_ok (sz (show 10 ≤ 1000000 by decide))
theorem lstM_10 : lstM [a0, a1, a2, a3, a4, a5, a6, a7, a8, a9] = ret [a0, a1, a2, a3, a4, a5, a6, a7, a8, a9] := lstM_ok (sz (show 10 ≤ 1000000 by decide))
theorem tupM_11 : tupM [a0, a1, a2, a3, a4, a5, a6, a7, a8, a9, a10] = ret (.tuple [a0, a1, a2, a3, a4, a5, a6, a7, a8, a9, a10]) := tupM_ok (sz (show 11 ≤ 1000000 by decide))
theorem lstM_11 : lstM [a0, a1, a2, a3, a4, a5, a6, a7, a8, a9, a10] = ret [a0, a1, a2, a3, a4, a5, a6, a7, a8, a9, a10] := lstM_ok (sz (show 11 ≤ 1000000 by decide))
theorem tupM_12 : tupM [a0, a1, a2, a3, a4, a5, a6, a7, a8, a9, a10, a11] = ret (.tuple [a0, a1, a2, a3, a4, a5, a6, a7, a8, a9, a10, a11]) := tupM_ok (sz (show 12 ≤ 1000000 by decide))
theorem lstM_12 : lstM [a0, a1, a2, a3, a4, a5, a6, a7, a8, a9, a10, a11] = ret [a0, a1, a2, a3, a4, a5, a6, a7, a8, a9, a10, a11] := lstM_ok (sz (show 12 ≤ 1000000 by decide))
theorem tupM_13 : tupM [a0, a1, a2, a3, a4, a5, a6, a7, a8, a9, a10, a11, a12] = ret (.tuple [a0, a1, a2, a3, a4, a5, a6, a7, a8, a9, a10, a11, a12]) := tupM_ok (sz (show 13 ≤ 1000000 by decide))
theorem lstM_13 : lstM [a0, a1, a2, a3, a4, a5, a6, a7, a8, a9, a10, a11, a12] = ret [a0, a1, a2, a3, a4, a5, a6, a7, a8, a9, a10, a11, a12] := lstM_ok (sz (show 13 ≤ 1000000 by decide))
theorem tupM_14 : tupM [a0, a1, a2, a3, a4, a5, a6, a7, a8, a9, a10, a11, a12, a13] = ret (.tuple [a0, a1, a2, a3, a4, a5, a6, a7, a8, a9, a10, a11, a12, a13]) := tupM_ok (sz (show 14 ≤ 1000000 by decide))
theorem lstM_14 : lstM [a0, a1, a2, a3, a4, a5, a6, a7, a8, a9, a10, a11, a12, a13] = ret [a0, a1, a2, a3, a4, a5, a6, a7, a8, a9, a10, a11, a12, a13] := lstM_ok (sz (show 14 ≤ 1000000 by decide))
theorem tupM_15 : tupM [a0, a1, a2, a3, a4, a5, a6, a7, a8, a9, a10, a11, a12, a13, a14] = ret (.tuple [a0, a1, a2, a3, a4, a5, a6, a7, a8, a9, a10, a11, a12, a13, a14]) := tupM_ok (sz (show 15 ≤ 1000000 by decide))
theorem lstM_15 : lstM [a0, a1, a2, a3, a4, a5, a6, a7, a8, a9, a10, a11, a12, a13, a14] = ret [a0, a1, a2, a3, a4, a5, a6, a7, a8, a9, a10, a11, a12, a13, a14] := lstM_ok (sz (show 15 ≤ 1000000 by decide))
theorem tupM_16 : tupM [a0, a1, a2, a3, a4, a5, a6, a7, a8, a9, a10, a11, a12, a13, a14, a15] = ret (.tuple [a0, a1, a2, a3, a4, a5, a6, a7, a8, a9, a10, a11, a12, a13, a14, a15]) := tupM_ok (sz (show 16 ≤ 1000000 by decide))
theorem lstM_16 : lstM [a0, a1, a2, a3, a4, a5, a6, a7, a8, a9, a10, a11, a12, a13, a14, a15] = ret [a0, a1, a2, a3, a4, a5, a6, a7, a8, a9, a10, a11, a12, a13, a14, a15] := lstM_ok (sz (show 16 ≤ 1000000 by decide))
theorem tupM_17 : tupM [a0, a1, a2, a3, a4, a5, a6, a7, a8, a9, a10, a11, a12, a13, a14, a15, a16] = ret (.tuple [a0, a1, a2, a3, a4, a5, a6, a7, a8, a9, a10, a11, a12, a13, a14, a15, a16]) := tupM_ok (sz (show 17 ≤ 1000000 by decide))
theorem lstM_17 : lstM [a0, a1, a2, a3, a4, a5, a6, a7, a8, a9, a10, a11, a12, a13, a14, a15, a16] = ret [a0, a1, a2, a3, a4, a5, a6, a7, a8, a9, a10, a11, a12, a13, a14, a15, a16] := lstM_ok (sz (show 17 ≤ 1000000 by decide))
theorem tupM_18 : tupM [a0, a1, a2, a3, a4, a5, a6, a7, a8, a9, a10, a11, a12, a13, a14, a15, a16, a17] = ret (.tuple [a0, a1, a2, a3, a4, a5, a6, a7, a8, a9, a10, a11, a12, a13, a14, a15, a16, a17]) := tupM_ok (sz (show 18 ≤ 1000000 by decide))
theorem lstM_18 : lstM [a0, a1, a2, a3, a4, a5, a6, a7, a8, a9, a10, a11, a12, a13, a14, a15, a16, a17] = ret [a0, a1, a2, a3, a4, a5, a6, a7, a8, a9, a10, a11, a12, a13, a14, a15, a16, a17] := lstM_ok (sz (show 18 ≤ 1000000 by decide))
theorem tupM_19 : tupM [a0, a1, a2, a3, a4, a5, a6, a7, a8, a9, a10, a11, a12, a13, a14, a15, a16, a17, a18] = ret (.tuple [a0, a1, a2, a3, a4, a5, a6, a7, a8, a9, a10, a11, a12, a13, a14, a15, a16, a17, a18]) := tupM_ok (sz (show 19 ≤ 1000000 by decide))
theorem lstM_19 : lstM [a0, a1, a2, a3, a4, a5, a6, a7, a8, a9, a10, a11, a12, a13, a14, a15, a16, a17, a18] = ret [a0, a1, a2, a3, a4, a5, a6, a7, a8, a9, a10, a11, a12, a13, a14, a15, a16, a17, a18] := lstM_ok (sz (show 19 ≤ 1000000 by decide))
theorem tupM_20 : tupM [a0, a1, a2, a3, a4, a5, a6, a7, a8, a9, a10, a11, a12, a13, a14, a15, a16, a17, a18, a19] = ret (.tuple [a0, a1, a2, a3, a4, a5, a6, a7, a8, a9, a10, a11, a12, a13, a14, a15, a16, a17, a18, a19]) := tupM_ok (sz (show 20 ≤ 1000000 by decide))
theorem lstM_20 : lstM [a0, a1, a2, a3, a4, a5, a6, a7, a8, a9, a10, a11, a12, a13, a14, a15, a16, a17, a18, a19] = ret [a0, a1, a2, a3, a4, a5, a6, a7, a8, a9, a10, a11, a12, a13, a14, a15, a16, a17, a18, a19] := lstM_ok (sz (show 20 ≤ 1000000 by decide))
theorem tupM_21 : tupM [a0, a1, a2, a3, a4, a5, a6, a7, a8, a9, a10, a11, a12, a13, a14, a15, a16, a17, a18, a19, a20] = ret (.tuple [a0, a1, a2, a3, a4, a5, a6, a7, a8, a9, a10, a11, a12, a13, a14, a15, a16, a17, a18, a19, a20]) := tupM_ok (sz (show 21 ≤ 1000000 by decide))
theorem lstM_21 : lstM [a0, a1, a2, a3, a4, a5, a6, a7, a8, a9, a10, a11, a12, a13, a14, a15, a16, a17, a18, a19, a20] = ret [a0, a1, a2, a3, a4, a5, a6, a7, a8, a9, a10, a11, a12, a13, a14, a15, a16, a17, a18, a19, a20] := lstM_ok (sz (show 21 ≤ 1000000 by decide))
theorem tupM_22 : tupM [a0, a1, a2, a3, a4, a5, a6, a7, a8, a9, a10, a11, a12, a13, a14, a15, a16, a17, a18, a19, a20, a21] = ret (.tuple [a0, a1, a2, a3, a4, a5, a6, a7, a8, a9, a10, a11, a12, a13, a14, a15, a16, a17, a18, a19, a20, a21]) := tupM_ok (sz (show 22 ≤ 1000000 by decide))
theorem lstM_22 : lstM [a0, a1, a2, a3, a4, a5, a6, a7, a8, a9, a10, a11, a12, a13, a14, a15, a16, a17, a18, a19, a20, a21] = ret [a0, a1, a2, a3, a4, a5, a6, a7, a8, a9, a10, a11, a12, a13, a14, a15, a16, a17, a18, a19, a20, a21] := lstM_ok (sz (show 22 ≤ 1000000 by decide))
theorem tupM_23 : tupM [a0, a1, a2, a3, a4, a5, a6, a7, a8, a9, a10, a11, a12, a13, a14, a15, a16, a17, a18, a19, a20, a21, a22] = ret (.tuple [a0, a1, a2, a3, a4, a5, a6, a7, a8, a9, a10, a11, a12, a13, a14, a15, a16, a17, a18, a19, a20, a21, a22]) := tupM_ok (sz (show 23 ≤ 1000000 by decide))
theorem lstM_23 : lstM [a0, a1, a2, a3, a4, a5, a6, a7, a8, a9, a10, a11, a12, a13, a14, a15, a16, a17, a18, a19, a20, a21, a22] = ret [a0, a1, a2, a3, a4, a5, a6, a7, a8, a9, a10, a11, a12, a13, a14, a15, a16, a17, a18, a19, a20, a21, a22] := lstM_ok (sz (show 23 ≤ 1000000 by decide))
theorem tupM_24 : tupM [a0, a1, a2, a3, a4, a5, a6, a7, a8, a9, a10, a11, a12, a13, a14, a15, a16, a17, a18, a19, a20, a21, a22, a23] = ret (.tuple [a0, a1, a2, a3, a4, a5, a6, a7, a8, a9, a10, a11, a12, a13, a14, a15, a16, a17, a18, a19, a20, a21, a22, a23]) := tupM_ok (sz (show 24 ≤ 1000000 by decide))
theorem lstM_24 : lstM [a0, a1, a2, a3, a4, a5, a6, a7, a8, a9, a10, a11, a12, a13, a14, a15, a16, a17, a18, a19, a20, a21, a22, a23] = ret [a0, a1, a2, a3, a4, a5, a6, a7, a8, a9, a10, a11, a12, a13, a14, a15, a16, a17, a18, a19, a20, a21, a22, a23] := lstM_ok (sz (show 24 ≤ 1000000 by decide))
end
/-- the equations that turn a denotation into what it does -/
def QS := (And.intro @q_mulL (And.intro @tg_4 (And.intro (And.intro (And.intro (And.intro @q_par3 (And.intro @q_par3L @q_par3R)) (And.intro (And.intro @q_no @q_zip3) (And.intro @s_setL0 @s_setL1))) (And.intro (And.intro (And.intro @s_ins0 @s_ins1) (And.intro @s_augL0 @s_augL1)) (And.intro (And.intro @s_popS0 @s_popS1) (And.intro @s_popA0 @s_popA1)))) (And.intro (And.intro @s_extB0 @s_extB1) (And.intro (And.intro (And.intro (And.intro (And.intro (And.intro (And.intro @bn_ret (And.intro @bn_bn @bn_fl)) (And.intro @lf_some (And.intro @lf_none @bn_id))) (And.intro (And.intro @mIte_t (And.intro @mIte_f @mIte_fl)) (And.intro @mIteV_t (And.intro @mIteV_f @bn_mIte)))) (And.intro (And.intro (And.intro @mAnd_t (And.intro @mAnd_f @mOr_t)) (And.intro @mOr_f (And.intro @mNot_r @vAnd_t))) (And.intro (And.intro @vAnd_f (And.intro @vOr_t @vOr_f)) (And.intro (And.intro @un2_t @un3_t) (And.intro @un4_t @bn_un2))))) (And.intro (And.intro (And.intro (And.intro @bn_un3 (And.intro @bn_un4 @bR_nx)) (And.intro @bR_rt (And.intro @bn_bR @loD_nx))) (And.intro (And.intro @loD_ct (And.intro @loD_bk @loD_rt)) (And.intro @sq_bn (And.intro @sq_nx @sq_bk)))) (And.intro (And.intro (And.intro @sq_ct (And.intro @sq_ret @sq_fl)) (And.intro @sq_ite (And.intro @sq_un2 @sq_un3))) (And.intro (And.intro @sq_un4 (And.intro @sq_bR @fn_bn)) (And.intro (And.intro @fn_nx @fn_ret) (And.intro @fn_fl @fn_ite)))))) (And.intro (And.intro (And.intro (And.intro (And.intro @fn_un2 (And.intro @fn_un3 @fn_un4)) (And.intro @fn_bR (And.intro @tg_N @tg_2))) (And.intro (And.intro @tg_3 (And.intro @q_dC @q_op)) (And.intro @q_tst (And.intro @q_opB @negO_i)))) (And.intro (And.intro (And.intro @q_neg (And.intro @q_andT @q_orT)) (And.intro @q_notT (And.intro @q_tru @q_andV))) (And.intro (And.intro @q_orV (And.intro @notO_b @q_notV)) (And.intro (And.intro @q_chn @q_chnB) (And.intro @q_if @q_nilE))))) (And.intro (And.intro (And.intro (And.intro @q_consE (And.intro @q_nilA @q_consA)) (And.intro @q_V (And.intro @q_F @q_tup))) (And.intro (And.intro @q_lst (And.intro @q_cl @q_clL)) (And.intro (And.intro @q_isi @q_fn) (And.intro @seqO_l @seqO_t)))) (And.intro (And.intro (And.intro @q_seqI (And.intro @q_rng1 @q_rng2)) (And.intro @q_enum (And.intro @q_zip @partO_i))) (And.intro (And.intro @q_part (And.intro @q_noP @q_sl)) (And.intro (And.intro @q_yes @revO_t) (And.intro @revLO_l @q_rev))))))) (And.intro (And.intro (And.intro (And.intro (And.intro (And.intro @q_revL (And.intro @q_rg1 @q_rg2)) (And.intro @q_tupRg (And.intro @q_lstRg @q_srt))) (And.intro (And.intro @q_idx (And.intro @q_cmp @q_cmpF)) (And.intro @q_cmp2 (And.intro @q_seq @q_next)))) (And.intro (And.intro (And.intro @q_brk (And.intro @q_cont @q_never)) (And.intro @q_retN (And.intro @q_ret @q_ifS))) (And.intro (And.intro @q_asg (And.intro @q_asgO @q_asgG)) (And.intro (And.intro @q_par @q_parLE) (And.intro @q_parEL @q_parLL))))) (And.intro (And.intro (And.intro (And.intro @q_drop (And.intro @q_for @q_wp)) (And.intro @w_nil (And.intro @w_cons @augO_i))) (And.intro (And.intro @q_cmp2Y (And.intro @s_var0 @s_varO0)) (And.intro @s_varV0 (And.intro @s_fz0 @s_app0)))) (And.intro (And.intro (And.intro @s_ext0 (And.intro @s_aug0 @s_var1)) (And.intro @s_varO1 (And.intro @s_varO2 @s_varV1))) (And.intro (And.intro @s_varV2 (And.intro @s_varV3 @s_fz1)) (And.intro (And.intro @s_fz2 @s_fz3) (And.intro @s_app1 @s_ext1)))))) (And.intro (And.intro (And.intro (And.intro (And.intro @s_aug1 (And.intro @tupM_0 @lstM_0)) (And.intro @tupM_1 (And.intro @lstM_1 @tupM_2))) (And.intro (And.intro @lstM_2 (And.intro @tupM_3 @lstM_3)) (And.intro @tupM_4 (And.intro @lstM_4 @tupM_5)))) (And.intro (And.intro (And.intro @lstM_5 (And.intro @tupM_6 @lstM_6)) (And.intro @tupM_7 (And.intro @lstM_7 @tupM_8))) (And.intro (And.intro @lstM_8 (And.intro @tupM_9 @lstM_9)) (And.intro (And.intro @tupM_10 @lstM_10) (And.intro @tupM_11 @lstM_11))))) (And.intro (And.intro (And.intro (And.intro @tupM_12 (And.intro @lstM_12 @tupM_13)) (And.intro @lstM_13 (And.intro @tupM_14 @lstM_14))) (And.intro (And.intro @tupM_15 (And.intro @lstM_15 @tupM_16)) (And.intro (And.intro @lstM_16 @tupM_17) (And.intro @lstM_17 @tupM_18)))) (And.intro (And.intro (And.intro @lstM_18 (And.intro @tupM_19 @lstM_19)) (And.intro @tupM_20 (And.intro @lstM_20 @tupM_21))) (And.intro (And.intro @lstM_21 (And.intro @tupM_22 @lstM_22)) (And.intro (And.intro @tupM_23 @lstM_23) (And.intro @tupM_24 @lstM_24))))))))))))
end Dn

set_option Elab.async false
set_option linter.all false
set_option autoImplicit false
set_option maxRecDepth 100000
set_option maxHeartbeats 1000000
/-! The second layer: one's own dicts. -/
namespace Dn
open PySem PySem.Spec PyProof.Rows L2
abbrev KvD := List (Int × PyData)
def putDO (kvs : KvD) (k x : PyData) : Option KvD := match k with
  | .int k => if kvs.length < sizeLine then some (putZ kvs k x) else none
  | _ => none
def putDM (j : Nat) (di dv : DE) (sl : Sl) : Option (Option Sv) → Bx → Option Out
  | some (some (.dic kvs)) => bn (dv sl) fun x => bn (di sl) fun k => bn (lf (putDO kvs k x)) fun ys => nxD (sl.set j (some (.dic ys)))
  | _ => dPutD j di dv sl
def srtDicM : Option (Option Sv) → M (List PyData)
  | some (some (.dic kvs)) => ret ((srI (kvs.map (·.1))).map PyData.int)
  | _ => fl
section
variable {sl : Sl} {i j : Nat} {da di dv : DE} {kvs : KvD}
theorem q_newD : dNewD i sl = nxD (sl.set i (some (.dic []))) := id rfl
theorem s_putD0 : dPutD j di dv sl = putDM j di dv sl sl[j]? := by
  cases h : sl[j]? with
  | none => rfl
  | some o => cases o with
    | none => rfl
    | some v => cases v with
      | dic kvs =>
        funext B
        unfold dPutD putDM bn lf putDO nxD
        congr 1; funext p
        show (di sl p.2).bind _ = (di sl p.2).bind _
        congr 1; funext q
        obtain ⟨k, B1⟩ := q
        rw [h]
        cases k with
        | int k => simp only; split <;> rfl
        | _ => rfl
      | _ => rfl
theorem s_putD1 : putDM j di dv sl (some (some (.dic kvs))) = bn (dv sl) fun x => bn (di sl) fun k => bn (lf (putDO kvs k x)) fun ys => nxD (sl.set j (some (.dic ys))) := id rfl
theorem s_srtDic0 : dSrtDic j sl = srtDicM sl[j]? := by
  funext B
  unfold dSrtDic srtDicM ret fl
  cases sl[j]? with
  | none => rfl
  | some o => cases o with
    | none => rfl
    | some v => cases v <;> rfl
theorem s_srtDic1 : srtDicM (some (some (.dic kvs))) = ret ((srI (kvs.map (·.1))).map PyData.int) := id rfl
def srtSetAO (x : PyData) : Option (List PyData) := (seqI x).bind fun ns => if ns.length ≤ 4000 then some ((sdI ns).map PyData.int) else none
theorem q_srtSetA : dSrtSetA da sl = bn (da sl) fun x => lf (srtSetAO x) := by
  funext B
  unfold dSrtSetA bn lf srtSetAO
  congr 1; funext p
  obtain ⟨x, B1⟩ := p
  show ((seqI x).bind _) = ((seqI x).bind _).map _
  cases seqI x with
  | none => rfl
  | some ns => simp only [Option.bind_some]; split <;> rfl
end
/-- the equations for dicts -/
def QSD := And.intro @q_newD (And.intro @s_putD0 (And.intro @s_putD1 (And.intro @s_srtDic0 (And.intro @s_srtDic1 @q_srtSetA))))
end Dn

set_option Elab.async false
set_option linter.all false
set_option autoImplicit false
set_option maxRecDepth 100000
set_option maxHeartbeats 1000000
/-! The second layer: reversed, list(enumerate), sorted(d.items()), list + list. -/
namespace Dn
open PySem PySem.Spec PyProof.Rows L2
def lstEnO (xs : List PyData) : Option (List PyData) := if xs.length ≤ sizeLine then some (enumD 0 xs) else none
def tupRevO : PyData → Option PyData
  | .list xs => some (.tuple xs.reverse)
  | _ => none
def addLO : PyData → PyData → Option (List PyData)
  | .list xs, .list ys => if xs.length + ys.length ≤ sizeLine then some (xs ++ ys) else none
  | _, _ => none
def srtItO (kvs : KvD) : Option (List PyData) := if sortOk (itD kvs) = true ∨ (itD kvs).length ≤ 1 then some (sortD (itD kvs)) else none
def srtItM : Option (Option Sv) → M (List PyData)
  | some (some (.dic kvs)) => lf (srtItO kvs)
  | _ => fl
section
variable {sl : Sl} {j : Nat} {d da db : DE} {kvs : KvD}
theorem q_lstEn : dLstEn d sl = bn (dSeq' d sl) fun xs => lf (lstEnO xs) := by
  funext B
  unfold dLstEn bn lf lstEnO
  congr 1; funext p
  obtain ⟨xs, B1⟩ := p
  show (if xs.length ≤ sizeLine then some (enumD 0 xs, B1) else none) = (if xs.length ≤ sizeLine then some (enumD 0 xs) else none).map fun x => (x, B1)
  split <;> rfl
theorem q_revI : dRevI d sl = bn (dSeq' d sl) fun xs => ret xs.reverse := by
  funext B
  unfold dRevI bn ret
  cases dSeq' d sl B <;> rfl
theorem q_tupRev : dTupRev d sl = bn (d sl) fun x => lf (tupRevO x) := by
  funext B
  unfold dTupRev bn lf tupRevO
  congr 1; funext p
  obtain ⟨x, B1⟩ := p
  cases x <;> rfl
theorem q_addL : dAddL da db sl = bn (da sl) fun x => bn (db sl) fun y => lf (addLO x y) := by
  funext B
  unfold dAddL bn lf addLO
  congr 1; funext p
  show (db sl p.2).bind _ = (db sl p.2).bind _
  congr 1; funext q
  obtain ⟨x, B1⟩ := p
  obtain ⟨y, B2⟩ := q
  cases x with
  | list xs => cases y with
    | list ys => simp only; split <;> rfl
    | _ => rfl
  | _ => rfl
theorem s_srtIt0 : dSrtItems j sl = srtItM sl[j]? := by
  funext B
  unfold dSrtItems srtItM lf fl srtItO
  cases sl[j]? with
  | none => rfl
  | some o => cases o with
    | none => rfl
    | some v => cases v with
      | dic kvs => simp only; split <;> rfl
      | _ => rfl
theorem s_srtIt1 : srtItM (some (some (.dic kvs))) = lf (srtItO kvs) := id rfl
end
def QSD2 := And.intro @q_lstEn (And.intro @q_revI (And.intro @q_tupRev (And.intro @q_addL (And.intro @s_srtIt0 @s_srtIt1))))
end Dn

set_option Elab.async false
set_option linter.all false
set_option autoImplicit false
set_option maxRecDepth 100000
set_option maxHeartbeats 0
namespace Dn
open PySem PySem.Spec PyProof.Rows L2
theorem fn_none {P : Program} {w : World} {K : Frg} {mg : Str → Option Value} {base : Heap} {k : Nat} {f : Addr} {fd : FuncData} {ps : List Str} : FnOk P w K mg base CX0 k f fd ps (spD K (fun _ _ => none)) where
  len := fun vs H Q E h => by
    obtain ⟨_, _, _, _, _, _, _, _, _, z, _⟩ := h
    cases z
  run := fun A outer s H args us vs Q E _ _ _ _ h => by
    obtain ⟨_, _, _, _, _, _, _, _, _, z, _⟩ := h
    cases z
theorem e_gI {X : Cx} {C : Fx} {x : Str} {n : Int} {pos : Pos} (h : ∃ t, X.mg x = some (.int n t)) (hg : Gl X x := by rfl) (hd : (x == ("__debug__" : Str)) = false := by decide) : PE X (.Name x pos) (liftE X.K C (dC (.int n))) := by
  obtain ⟨t, h⟩ := h
  exact e_glob (v := .int n) h ⟨t, rfl⟩ (fun _ => .int n) hg hd
theorem u65 {k : Nat} {A : Around} (r : Room k A) : A.units + 65 < cLine := by
  have := r.un
  omega
def topS (i : Nat) : Stmt := PySem.Challenge.pw_pantrykept_k63_whole_costs_that_grow.main.body.getD i (.Pass ⟨0, 0, 0, 0⟩)
structure Tx (K : Frg) (mg : Str → Option Value) : Prop where
  g_all : mg "all" = none
  g_any : mg "any" = none
  g_enumerate : mg "enumerate" = none
  g_int : mg "int" = none
  g_len : mg "len" = none
  g_list : mg "list" = none
  g_max : mg "max" = none
  g_min : mg "min" = none
  g_range : mg "range" = none
  g_reversed : mg "reversed" = none
  g_set : mg "set" = none
  g_sorted : mg "sorted" = none
  g_sum : mg "sum" = none
  g_tuple : mg "tuple" = none
  g_zip : mg "zip" = none
/-! ## _law_tape -/
abbrev s_law_tape : Stmt := topS 21
abbrev N_law_tape : List Str := ["script"]
theorem sc_law_tape : FnScope N_law_tape ["script"] (defScope s_law_tape) := ⟨rfl, rfl, rfl, by decide +kernel, rfl, by decide +kernel, by decide +kernel⟩
noncomputable def b_law_tape : DS := (dRetV (dNewB 0 80 (dCons (dC (.int 0)) (dCons (dC (.int 0)) (dCons (dOp pyAdd (dC (.int 1)) (dLenS 0)) dNil)))))
noncomputable def d_law_tape : FD := dFun 1 0 b_law_tape
theorem ok_law_tape {P : Program} {w : World} {K : Frg} {mg : Str → Option Value} {base : Heap} {f : Addr} {fd : FuncData} (T : Tx K mg) (F : Fun K "_law_tape" "_law_tape" s_law_tape f fd)  : FnOk P w K mg base CX0 1 f fd ["script"] (spD K d_law_tape) :=
  def_ok F sc_law_tape rfl rfl fun cdv A outer s H E C hr => by
    have nd := sc_law_tape.nd
    exact (ss_one (s_retV (v_newB 0 80 (pe_lst (pa_cons (pe_callTy call_list_of (by rfl) T.g_list PyProof.Rows.boot_list (pa_cons (pe_slice sl_list (pv 0) po_none (po_some pe_int)) pa_nil)) (by exact (d_cons e_int (d_cons e_int (d_cons (e_op op_addA r_add (o_of e_int) (o_of (e_lenS 0 T.g_len))) d_nil)))))))))
/-! ## best_pack -/
abbrev s_best_pack : Stmt := topS 5
abbrev N_best_pack : List Str := ["packs", "best", "size", "price"]
theorem sc_best_pack : FnScope N_best_pack ["packs"] (defScope s_best_pack) := ⟨rfl, rfl, rfl, by decide +kernel, rfl, by decide +kernel, by decide +kernel⟩
noncomputable def best_pack_L1 : DS := (dSeq (dIfS (dTst pyLtA (dOp pyMulB (dVarO 3) (dOp pyIx (dVarO 1) (dC (.int 0)))) (dOp pyMulB (dOp pyIx (dVarO 1) (dC (.int 1))) (dVarO 2))) (dAsg 1 (dTup (dCons (dVar 2) (dCons (dVar 3) dNil)))) dNext)
  (dWp [2, 3] dNext))
noncomputable def b_best_pack : DS := (dSeq (dAsg 1 (dOp pyIx (dVarO 0) (dC (.int 0))))
  (dWp [2, 3] (dSeq (dFor (dSeq' (dSl pySl (dVarO 0) (dPart (dC (.int 1))) dNoP)) (gT (gCons' (gN 2) (gCons' (gN 3) gNil'))) best_pack_L1)
  (dRet (dVar 1)))))
noncomputable def d_best_pack : FD := dFun 1 3 b_best_pack
theorem ok_best_pack {P : Program} {w : World} {K : Frg} {mg : Str → Option Value} {base : Heap} {f : Addr} {fd : FuncData} (T : Tx K mg) (F : Fun K "best_pack" "best_pack" s_best_pack f fd)  : FnOk P w K mg base CX0 1 f fd ["packs"] (spD K d_best_pack) :=
  def_ok F sc_best_pack rfl rfl fun cdv A outer s H E C hr => by
    have nd := sc_best_pack.nd
    exact (ss_cons (s_set 1 nd (by exact (e_ix (o_var 0) (o_of e_int))))
  (ss_wp [2, 3] (ss_cons (s_for PassesOwn.never rfl (by exact (i_seq (e_sl (o_var 0) (p_some e_int) p_none))) (by exact (g_tup rfl (gs_cons (g_name 2 nd) (gs_cons (g_name 3 nd) gs_nil)) (glen_cons (glen_cons glen_nil)))) (ss_cons (s_if (by exact (t_cmp (op_ltA (u65 hr)) r_ltA (nomark _) (o_of (e_op op_mulB r_mulB (o_var 3) (o_of (e_ix (o_var 1) (o_of e_int))))) (o_of (e_op op_mulB r_mulB (o_of (e_ix (o_var 1) (o_of e_int))) (o_var 2))))) (ss_one (s_set 1 nd (by exact (e_tup (by exact (d_cons (e_var 2) (d_cons (e_var 3) d_nil))))))) ss_nil)
  (ss_wp [2, 3] ss_nil)))
  (ss_one (s_ret (by exact (e_var 1)))))))
/-! ## cost_ladder -/
abbrev s_cost_ladder : Stmt := topS 2
abbrev N_cost_ladder : List Str := ["packs", "s", "found", "t", "size", "price"]
theorem sc_cost_ladder : FnScope N_cost_ladder ["packs", "s"] (defScope s_cost_ladder) := ⟨rfl, rfl, rfl, by decide +kernel, rfl, by decide +kernel, by decide +kernel⟩
noncomputable def cost_ladder_L1 : DS := (dSeq (dApp 2 (dCl pyMinA (dCons (dF (dCmpY (dSeq' (dVarO 0)) (gT (gCons' (gN 4) (gCons' (gN 5) gNil'))) (dOp pyAdd (dOp pyIx (dVarO 2) (dCl pyMax2 (dCons (dC (.int 0)) (dCons (dOp pySub (dVarO 3) (dVarO 4)) dNil)))) (dVarO 5)) [4, 5])) dNil)))
  (dWp [3] dNext))
noncomputable def b_cost_ladder : DS := (dSeq (dAsgO 2 (dLst (dCons (dC (.int 0)) dNil)))
  (dWp [3] (dSeq (dFor (dRng2 (dC (.int 1)) (dOp pyAdd (dVarO 1) (dC (.int 1)))) (gN 3) cost_ladder_L1)
  (dRet (dCl pyTuple (dCons (dVarO 2) dNil))))))
noncomputable def d_cost_ladder : FD := dFun 2 4 b_cost_ladder
theorem ok_cost_ladder {P : Program} {w : World} {K : Frg} {mg : Str → Option Value} {base : Heap} {f : Addr} {fd : FuncData} (T : Tx K mg) (F : Fun K "cost_ladder" "cost_ladder" s_cost_ladder f fd)  : FnOk P w K mg base CX0 1 f fd ["packs", "s"] (spD K d_cost_ladder) :=
  def_ok F sc_cost_ladder rfl rfl fun cdv A outer s H E C hr => by
    have nd := sc_cost_ladder.nd
    exact (ss_cons (s_setO 2 nd (by exact (l_lst (by exact (d_cons e_int d_nil)))))
  (ss_wp [3] (ss_cons (s_for PassesOwn.never rfl (by exact (i_rng2 T.g_range (o_of e_int) (o_of (e_op op_addA r_add (o_var 1) (o_of e_int))))) (by exact (g_name 3 nd)) (ss_cons (s_app 2 (pe_bm PySem.F.plainAttrs_list PySem.F.slot_list_append PySem.F.type_list_append mt_append (pv 2) (pa_cons (e_clB (cr_minA rfl (u65 hr)) r_minA T.g_min (by decide +kernel) (by exact (q_cons (o_of (f_of (l_lc rfl nd (by exact (i_seqo (o_var 0))) (blkOk_by (own := [("size", 4), ("price", 5)]) (N := N_cost_ladder) (sc := defScope s_cost_ladder) (by decide +kernel)) (fun _ _ _ _ _ => (by exact (g_tup rfl (gs_cons (g_name 4 nd) (gs_cons (g_name 5 nd) gs_nil)) (glen_cons (glen_cons glen_nil))))) (fun _ _ _ _ _ => (by exact ts_nil)) (fun _ _ _ _ _ => (by exact (e_op op_addA r_add (o_of (e_ix (o_var 2) (o_of (e_clB (call_max2 rfl) r_max2 T.g_max (by decide +kernel) (by exact (q_cons (o_of e_int) (q_cons (o_of (e_op op_sub r_sub (o_var 3) (o_var 4))) q_nil))))))) (o_var 5))))))) q_nil))) pa_nil)))
  (ss_wp [3] ss_nil)))
  (ss_one (s_ret (by exact (e_clT call_tuple_of r_tuple T.g_tuple PyProof.Rows.boot_tuple (by exact (q_cons (o_var 2) q_nil)))))))))
/-! ## turning_point -/
abbrev s_turning_point : Stmt := topS 6
abbrev N_turning_point : List Str := ["packs"]
theorem sc_turning_point : FnScope N_turning_point ["packs"] (defScope s_turning_point) := ⟨rfl, rfl, rfl, by decide +kernel, rfl, by decide +kernel, by decide +kernel⟩
noncomputable def b_turning_point : DS := (dRet (dOp pyMulB (dOp pySub (dOp pyIx (dFn (d_best_pack) (dConsA (dVarV 0) dNilA)) (dC (.int 0))) (dC (.int 1))) (dOp pyIx (dOp pyIx (dVarO 0) (dNeg (dC (.int 1)))) (dC (.int 0)))))
noncomputable def d_turning_point : FD := dFun 1 0 b_turning_point
theorem ok_turning_point {P : Program} {w : World} {K : Frg} {mg : Str → Option Value} {base : Heap} {f : Addr} {fd : FuncData} (T : Tx K mg) (F : Fun K "turning_point" "turning_point" s_turning_point f fd) (D_best_pack : Def P w K mg base 1 "best_pack" (d_best_pack)) : FnOk P w K mg base CX0 2 f fd ["packs"] (spD K d_turning_point) :=
  def_ok F sc_turning_point rfl rfl fun cdv A outer s H E C hr => by
    have nd := sc_turning_point.nd
    exact (ss_one (s_ret (by exact (e_op op_mulB r_mulB (o_of (e_op op_sub r_sub (o_of (e_ix (o_of (e_fn D_best_pack (hr.mono (by decide)) (by exact (a_cons (v_var 0) a_nil)))) (o_of e_int))) (o_of e_int))) (o_of (e_ix (o_of (e_ix (o_var 0) (o_of (e_neg e_int)))) (o_of e_int)))))))
/-! ## rounds_from -/
abbrev s_rounds_from : Stmt := topS 8
abbrev N_rounds_from : List Str := ["packs", "size", "price", "edge", "costs", "found"]
theorem sc_rounds_from : FnScope N_rounds_from ["packs"] (defScope s_rounds_from) := ⟨rfl, rfl, rfl, by decide +kernel, rfl, by decide +kernel, by decide +kernel⟩
noncomputable def rounds_from_W1 : DS := (dAug (fun i j => i - j) 5 (dC (.int 1)))
noncomputable def b_rounds_from : DS := (dSeq (dAsgG (gT (gCons' (gN 1) (gCons' (gN 2) gNil'))) (dFn (d_best_pack) (dConsA (dVarV 0) dNilA)))
  (dSeq (dAsg 3 (dFn (d_turning_point) (dConsA (dVarV 0) dNilA)))
  (dSeq (dAsg 4 (dFn (d_cost_ladder) (dConsA (dVarV 0) (dConsA (dV (dOp pyAdd (dVarO 3) (dVarO 1))) dNilA))))
  (dSeq (dAsg 5 (dOp pyAdd (dVarO 3) (dC (.int 1))))
  (dSeq (dWhile (dAndT (dTst pyGtA (dVarO 5) (dC (.int 0))) (dTst pyEq (dOp pyIx (dVarO 4) (dOp pyAdd (dOp pySub (dVarO 5) (dC (.int 1))) (dVarO 1))) (dOp pyAdd (dOp pyIx (dVarO 4) (dOp pySub (dVarO 5) (dC (.int 1)))) (dVarO 2)))) rounds_from_W1)
  (dRet (dVar 5)))))))
noncomputable def d_rounds_from : FD := dFun 1 5 b_rounds_from
theorem ok_rounds_from {P : Program} {w : World} {K : Frg} {mg : Str → Option Value} {base : Heap} {f : Addr} {fd : FuncData} (T : Tx K mg) (F : Fun K "rounds_from" "rounds_from" s_rounds_from f fd) (D_best_pack : Def P w K mg base 1 "best_pack" (d_best_pack)) (D_turning_point : Def P w K mg base 2 "turning_point" (d_turning_point)) (D_cost_ladder : Def P w K mg base 1 "cost_ladder" (d_cost_ladder)) : FnOk P w K mg base CX0 3 f fd ["packs"] (spD K d_rounds_from) :=
  def_ok F sc_rounds_from rfl rfl fun cdv A outer s H E C hr => by
    have nd := sc_rounds_from.nd
    exact (ss_cons (s_asgG (by exact (e_fn D_best_pack (hr.mono (by decide)) (by exact (a_cons (v_var 0) a_nil)))) (by exact (g_tup rfl (gs_cons (g_name 1 nd) (gs_cons (g_name 2 nd) gs_nil)) (glen_cons (glen_cons glen_nil)))))
  (ss_cons (s_set 3 nd (by exact (e_fn D_turning_point (hr.mono (by decide)) (by exact (a_cons (v_var 0) a_nil)))))
  (ss_cons (s_set 4 nd (by exact (e_fn D_cost_ladder (hr.mono (by decide)) (by exact (a_cons (v_var 0) (a_cons (v_of (e_op op_addA r_add (o_var 3) (o_var 1))) a_nil))))))
  (ss_cons (s_set 5 nd (by exact (e_op op_addA r_add (o_var 3) (o_of e_int))))
  (ss_cons (s_while PassesOwn.never (by exact ((w_and (t_cmp (op_gtA (u65 hr)) r_gtA (nomark _) (o_var 5) (o_of e_int)) (w_and1 (t_cmp (op_eqD hr.units) r_eq (nomark _) (o_of (e_ix (o_var 4) (o_of (e_op op_addA r_add (o_of (e_op op_sub r_sub (o_var 5) (o_of e_int))) (o_var 1))))) (o_of (e_op op_addA r_add (o_of (e_ix (o_var 4) (o_of (e_op op_sub r_sub (o_var 5) (o_of e_int))))) (o_var 2)))))).pt)) (ss_one (s_aug 5 ip_sub nd (by exact e_int))))
  (ss_one (s_ret (by exact (e_var 5)))))))))
/-! ## floor -/
abbrev s_floor : Stmt := topS 10
abbrev N_floor : List Str := ["packs", "m", "found", "size", "_", "changed", "rest", "amount"]
theorem sc_floor : FnScope N_floor ["packs"] (defScope s_floor) := ⟨rfl, rfl, rfl, by decide +kernel, rfl, by decide +kernel, by decide +kernel⟩
noncomputable def floor_L1 : DS := (dSeq (dIfS (dTst pyIsNot (dOp pyIx (dVarO 2) (dVarO 6)) (dC .none)) (dSeq (dAsg 7 (dOp pyAdd (dOp pyIx (dVarO 2) (dVarO 6)) (dVarO 3)))
  (dSeq (dIfS (dOrT (dTst pyIs (dOp pyIx (dVarO 2) (dOp pyMod (dVarO 7) (dVarO 1))) (dC .none)) (dTst pyGtA (dOp pyIx (dVarO 2) (dOp pyMod (dVarO 7) (dVarO 1))) (dVarO 7))) (dSeq (dSetL 2 (dOp pyMod (dVarO 7) (dVarO 1)) (dVar 7))
  (dAsg 5 (dC (.bool true)))) dNext)
  (dWp [7] dNext))) (dWp [7] dNext))
  (dWp [6, 7] dNext))
noncomputable def floor_W2 : DS := (dSeq (dAsg 5 (dC (.bool false)))
  (dWp [6, 7] (dSeq (dFor (dRng1 (dVarO 1)) (gN 6) floor_L1)
  (dWp [6, 7] dNext))))
noncomputable def floor_L3 : DS := (dSeq (dAsg 5 (dC (.bool true)))
  (dWp [6, 7] (dSeq (dWhile (dTru (dVarO 5)) floor_W2)
  (dWp [3, 4, 5, 6, 7] dNext))))
noncomputable def b_floor : DS := (dSeq (dAsg 1 (dOp pyIx (dOp pyIx (dVarO 0) (dC (.int 0))) (dC (.int 0))))
  (dSeq (dAsgO 2 (dMulL (dF (dLst (dCons (dC .none) dNil))) (dVarO 1)))
  (dSeq (dSetL 2 (dC (.int 0)) (dC (.int 0)))
  (dWp [3, 4, 5, 6, 7] (dSeq (dFor (dSeq' (dSl pySl (dVarO 0) (dPart (dC (.int 1))) dNoP)) (gT (gCons' (gN 3) (gCons' (gN 4) gNil'))) floor_L3)
  (dRet (dCl pyTuple (dCons (dVarO 2) dNil))))))))
noncomputable def d_floor : FD := dFun 1 7 b_floor
theorem ok_floor {P : Program} {w : World} {K : Frg} {mg : Str → Option Value} {base : Heap} {f : Addr} {fd : FuncData} (T : Tx K mg) (F : Fun K "floor" "floor" s_floor f fd)  : FnOk P w K mg base CX0 1 f fd ["packs"] (spD K d_floor) :=
  def_ok F sc_floor rfl rfl fun cdv A outer s H E C hr => by
    have nd := sc_floor.nd
    exact (ss_cons (s_set 1 nd (by exact (e_ix (o_of (e_ix (o_var 0) (o_of e_int))) (o_of e_int))))
  (ss_cons (s_setO 2 nd (by exact (l_mulL (o_of (f_of (l_lst (by exact (d_cons e_non d_nil))))) (o_var 1))))
  (ss_cons (s_setL 2 (pv 2) (by exact e_int) (by exact e_int))
  (ss_wp [3, 4, 5, 6, 7] (ss_cons (s_for PassesOwn.never rfl (by exact (i_seq (e_sl (o_var 0) (p_some e_int) p_none))) (by exact (g_tup rfl (gs_cons (g_name 3 nd) (gs_cons (g_name 4 nd) gs_nil)) (glen_cons (glen_cons glen_nil)))) (ss_cons (s_set 5 nd (by exact e_bl))
  (ss_wp [6, 7] (ss_cons (s_while PassesOwn.never (by exact (t_tru (o_var 5))) (ss_cons (s_set 5 nd (by exact e_bl))
  (ss_wp [6, 7] (ss_cons (s_for PassesOwn.never rfl (by exact (i_rng1 T.g_range (o_var 1))) (by exact (g_name 6 nd)) (ss_cons (s_if (by exact (t_cmp op_isnotA r_isnot (nomark _) (o_of (e_ix (o_var 2) (o_var 6))) (o_of e_non))) (ss_cons (s_set 7 nd (by exact (e_op op_addA r_add (o_of (e_ix (o_var 2) (o_var 6))) (o_var 3))))
  (ss_cons (s_if (by exact ((w_or (t_cmp op_isA r_is (nomark _) (o_of (e_ix (o_var 2) (o_of (e_op op_mod r_mod (o_var 7) (o_var 1))))) (o_of e_non)) (w_or1 (t_cmp (op_gtA (u65 hr)) r_gtA (nomark _) (o_of (e_ix (o_var 2) (o_of (e_op op_mod r_mod (o_var 7) (o_var 1))))) (o_var 7)))).pt)) (ss_cons (s_setL 2 (pv 2) (by exact (e_op op_mod r_mod (o_var 7) (o_var 1))) (by exact (e_var 7)))
  (ss_one (s_set 5 nd (by exact e_bl)))) ss_nil)
  (ss_wp [7] ss_nil))) (ss_wp [7] ss_nil))
  (ss_wp [6, 7] ss_nil)))
  (ss_wp [6, 7] ss_nil)))))
  (ss_wp [3, 4, 5, 6, 7] ss_nil)))))
  (ss_one (s_ret (by exact (e_clT call_tuple_of r_tuple T.g_tuple PyProof.Rows.boot_tuple (by exact (q_cons (o_var 2) q_nil)))))))))))
/-! ## least_over -/
abbrev s_least_over : Stmt := topS 11
abbrev N_least_over : List Str := ["packs", "s", "m", "rows", "entry"]
theorem sc_least_over : FnScope N_least_over ["packs", "s"] (defScope s_least_over) := ⟨rfl, rfl, rfl, by decide +kernel, rfl, by decide +kernel, by decide +kernel⟩
noncomputable def least_over_L1 : DS := (dSeq (dIfS (dTst pyIsNot (dVarO 4) (dC .none)) (dApp 3 (dIf (dTst pyGeA (dVarO 4) (dVarO 1)) (dOp pySub (dVarO 4) (dVarO 1)) (dOp pyMod (dOp pySub (dVarO 4) (dVarO 1)) (dVarO 2)))) dNext)
  (dWp [4] dNext))
noncomputable def b_least_over : DS := (dSeq (dAsg 2 (dOp pyIx (dOp pyIx (dVarO 0) (dC (.int 0))) (dC (.int 0))))
  (dSeq (dAsgO 3 (dLst dNil))
  (dWp [4] (dSeq (dFor (dSeq' (dFn (d_floor) (dConsA (dVarV 0) dNilA))) (gN 4) least_over_L1)
  (dRet (dCl pyMinA (dCons (dVarO 3) dNil)))))))
noncomputable def d_least_over : FD := dFun 2 3 b_least_over
theorem ok_least_over {P : Program} {w : World} {K : Frg} {mg : Str → Option Value} {base : Heap} {f : Addr} {fd : FuncData} (T : Tx K mg) (F : Fun K "least_over" "least_over" s_least_over f fd) (D_floor : Def P w K mg base 1 "floor" (d_floor)) : FnOk P w K mg base CX0 2 f fd ["packs", "s"] (spD K d_least_over) :=
  def_ok F sc_least_over rfl rfl fun cdv A outer s H E C hr => by
    have nd := sc_least_over.nd
    exact (ss_cons (s_set 2 nd (by exact (e_ix (o_of (e_ix (o_var 0) (o_of e_int))) (o_of e_int))))
  (ss_cons (s_setO 3 nd (by exact (l_lst (by exact d_nil))))
  (ss_wp [4] (ss_cons (s_for PassesOwn.never rfl (by exact (i_seq (e_fn D_floor (hr.mono (by decide)) (by exact (a_cons (v_var 0) a_nil))))) (by exact (g_name 4 nd)) (ss_cons (s_if (by exact (t_cmp op_isnotA r_isnot (nomark _) (o_var 4) (o_of e_non))) (ss_one (s_app 3 (pe_bm PySem.F.plainAttrs_list PySem.F.slot_list_append PySem.F.type_list_append mt_append (pv 3) (pa_cons (e_if (t_cmp (op_geA (u65 hr)) r_geA (nomark _) (o_var 4) (o_var 1)) (e_op op_sub r_sub (o_var 4) (o_var 1)) (e_op op_mod r_mod (o_of (e_op op_sub r_sub (o_var 4) (o_var 1))) (o_var 2))) pa_nil)))) ss_nil)
  (ss_wp [4] ss_nil)))
  (ss_one (s_ret (by exact (e_clB (cr_minA rfl (u65 hr)) r_minA T.g_min (by decide +kernel) (by exact (q_cons (o_var 3) q_nil))))))))))
/-! ## next_sums -/
abbrev s_next_sums : Stmt := topS 15
abbrev N_next_sums : List Str := ["row", "piece", "b", "part"]
theorem sc_next_sums : FnScope N_next_sums ["row", "piece", "b"] (defScope s_next_sums) := ⟨rfl, rfl, rfl, by decide +kernel, rfl, by decide +kernel, by decide +kernel⟩
noncomputable def b_next_sums : DS := (dRet (dCl pyTuple (dCons (dF (dSrtSetA (dOp pyAdd (dF (dClL pyList (dCons (dVarO 0) dNil))) (dF (dCmp (dSeq' (dVarO 0)) (gN 3) (dTst pyLeA (dOp pyAdd (dVarO 3) (dVarO 1)) (dVarO 2)) (dOp pyAdd (dVarO 3) (dVarO 1)) [3]))))) dNil)))
noncomputable def d_next_sums : FD := dFun 3 1 b_next_sums
theorem ok_next_sums {P : Program} {w : World} {K : Frg} {mg : Str → Option Value} {base : Heap} {f : Addr} {fd : FuncData} (T : Tx K mg) (F : Fun K "next_sums" "next_sums" s_next_sums f fd)  : FnOk P w K mg base CX0 1 f fd ["row", "piece", "b"] (spD K d_next_sums) :=
  def_ok F sc_next_sums rfl rfl fun cdv A outer s H E C hr => by
    have nd := sc_next_sums.nd
    exact (ss_one (s_ret (by exact (e_clT call_tuple_of r_tuple T.g_tuple PyProof.Rows.boot_tuple (by exact (q_cons (o_of (f_of (l_srtSetA T.g_sorted T.g_set (o_of (e_op op_addA r_add (o_of (f_of (l_clT call_list_of r_list T.g_list PyProof.Rows.boot_list (by exact (q_cons (o_var 0) q_nil))))) (o_of (f_of (l_lc rfl nd (by exact (i_seqo (o_var 0))) (blkOk_by (own := [("part", 3)]) (N := N_next_sums) (sc := defScope s_next_sums) (by decide +kernel)) (fun _ _ _ _ _ => (by exact (g_name 3 nd))) (fun _ _ _ _ _ => (by exact (ts_one (t_cmp (op_leA (u65 hr)) r_leA (nomark _) (o_of (e_op op_addA r_add (o_var 3) (o_var 1))) (o_var 2))))) (fun _ _ _ _ _ => (by exact (e_op op_addA r_add (o_var 3) (o_var 1)))))))))))) q_nil))))))
/-! ## sum_rows -/
abbrev s_sum_rows : Stmt := topS 16
abbrev N_sum_rows : List Str := ["pieces", "b", "found", "piece"]
theorem sc_sum_rows : FnScope N_sum_rows ["pieces", "b"] (defScope s_sum_rows) := ⟨rfl, rfl, rfl, by decide +kernel, rfl, by decide +kernel, by decide +kernel⟩
noncomputable def sum_rows_L1 : DS := (dSeq (dApp 2 (dFn (d_next_sums) (dConsA (dV (dOp pyIx (dVarO 2) (dNeg (dC (.int 1))))) (dConsA (dVarV 3) (dConsA (dVarV 1) dNilA)))))
  (dWp [3] dNext))
noncomputable def b_sum_rows : DS := (dSeq (dAsgO 2 (dLst (dCons (dTup (dCons (dC (.int 0)) dNil)) dNil)))
  (dWp [3] (dSeq (dFor (dSeq' (dVar 0)) (gN 3) sum_rows_L1)
  (dRet (dCl pyTuple (dCons (dVarO 2) dNil))))))
noncomputable def d_sum_rows : FD := dFun 2 2 b_sum_rows
theorem ok_sum_rows {P : Program} {w : World} {K : Frg} {mg : Str → Option Value} {base : Heap} {f : Addr} {fd : FuncData} (T : Tx K mg) (F : Fun K "sum_rows" "sum_rows" s_sum_rows f fd) (D_next_sums : Def P w K mg base 1 "next_sums" (d_next_sums)) : FnOk P w K mg base CX0 2 f fd ["pieces", "b"] (spD K d_sum_rows) :=
  def_ok F sc_sum_rows rfl rfl fun cdv A outer s H E C hr => by
    have nd := sc_sum_rows.nd
    exact (ss_cons (s_setO 2 nd (by exact (l_lst (by exact (d_cons (e_tup (by exact (d_cons e_int d_nil))) d_nil)))))
  (ss_wp [3] (ss_cons (s_for PassesOwn.never rfl (by exact (i_seq (e_var 0))) (by exact (g_name 3 nd)) (ss_cons (s_app 2 (pe_bm PySem.F.plainAttrs_list PySem.F.slot_list_append PySem.F.type_list_append mt_append (pv 2) (pa_cons (e_fn D_next_sums (hr.mono (by decide)) (by exact (a_cons (v_of (e_ix (o_var 2) (o_of (e_neg e_int)))) (a_cons (v_var 3) (a_cons (v_var 1) a_nil))))) pa_nil)))
  (ss_wp [3] ss_nil)))
  (ss_one (s_ret (by exact (e_clT call_tuple_of r_tuple T.g_tuple PyProof.Rows.boot_tuple (by exact (q_cons (o_var 2) q_nil)))))))))
/-! ## least_prices -/
abbrev s_least_prices : Stmt := topS 12
abbrev N_least_prices : List Str := ["packs", "b", "found", "t", "rows", "size", "price"]
theorem sc_least_prices : FnScope N_least_prices ["packs", "b"] (defScope s_least_prices) := ⟨rfl, rfl, rfl, by decide +kernel, rfl, by decide +kernel, by decide +kernel⟩
noncomputable def least_prices_L1 : DS := (dSeq (dAsgO 4 (dCmp (dSeq' (dVarO 0)) (gT (gCons' (gN 5) (gCons' (gN 6) gNil'))) (dAndT (dTst pyLeA (dVarO 5) (dVarO 3)) (dTst pyIsNot (dOp pyIx (dVarO 2) (dOp pySub (dVarO 3) (dVarO 5))) (dC .none))) (dOp pyAdd (dOp pyIx (dVarO 2) (dOp pySub (dVarO 3) (dVarO 5))) (dVarO 6)) [5, 6]))
  (dFz 4 (dSeq (dSetL 2 (dVar 3) (dIf (dTru (dVarO 4)) (dCl pyMinA (dCons (dVarO 4) dNil)) (dC .none)))
  (dWp [3, 4] dNext))))
noncomputable def b_least_prices : DS := (dSeq (dAsgO 2 (dAddL (dF (dLst (dCons (dC (.int 0)) dNil))) (dOp pyMulB (dF (dLst (dCons (dC .none) dNil))) (dVarO 1))))
  (dWp [3, 4] (dSeq (dFor (dRng2 (dC (.int 1)) (dOp pyAdd (dVarO 1) (dC (.int 1)))) (gN 3) least_prices_L1)
  (dFz 2 (dRet (dVar 2))))))
noncomputable def d_least_prices : FD := dFun 2 5 b_least_prices
theorem ok_least_prices {P : Program} {w : World} {K : Frg} {mg : Str → Option Value} {base : Heap} {f : Addr} {fd : FuncData} (T : Tx K mg) (F : Fun K "least_prices" "least_prices" s_least_prices f fd)  : FnOk P w K mg base CX0 1 f fd ["packs", "b"] (spD K d_least_prices) :=
  def_ok F sc_least_prices rfl rfl fun cdv A outer s H E C hr => by
    have nd := sc_least_prices.nd
    exact (ss_cons (s_setO 2 nd (by exact (l_addL (o_of (f_of (l_lst (by exact (d_cons e_int d_nil))))) (o_of (e_op op_mulB r_mulB (o_of (f_of (l_lst (by exact (d_cons e_non d_nil))))) (o_var 1))))))
  (ss_wp [3, 4] (ss_cons (s_for PassesOwn.never rfl (by exact (i_rng2 T.g_range (o_of e_int) (o_of (e_op op_addA r_add (o_var 1) (o_of e_int))))) (by exact (g_name 3 nd)) (ss_cons (s_setLc 4 rfl nd (sw_true rfl rfl rfl (by decide +kernel)) (by exact (i_seqo (o_var 0))) (blkOk_by (own := [("size", 5), ("price", 6)]) (N := N_least_prices) (sc := defScope s_least_prices) (by decide +kernel)) (fun _ _ _ _ _ => (by exact (g_tup rfl (gs_cons (g_name 5 nd) (gs_cons (g_name 6 nd) gs_nil)) (glen_cons (glen_cons glen_nil))))) (fun _ _ _ _ _ => (by exact (ts_one ((w_and (t_cmp (op_leA (u65 hr)) r_leA (nomark _) (o_var 5) (o_var 3)) (w_and1 (t_cmp op_isnotA r_isnot (nomark _) (o_of (e_ix (o_var 2) (o_of (e_op op_sub r_sub (o_var 3) (o_var 5))))) (o_of e_non)))).pt)))) (fun _ _ _ _ _ => (by exact (e_op op_addA r_add (o_of (e_ix (o_var 2) (o_of (e_op op_sub r_sub (o_var 3) (o_var 5))))) (o_var 6)))))
  (ss_fz 4 (ss_cons (s_setL 2 (pv 2) (by exact (e_var 3)) (by exact (e_if (t_tru (o_var 4)) (e_clB (cr_minA rfl (u65 hr)) r_minA T.g_min (by decide +kernel) (by exact (q_cons (o_var 4) q_nil))) e_non)))
  (ss_wp [3, 4] ss_nil)))))
  (ss_fz 2 (ss_one (s_ret (by exact (e_var 2))))))))
/-! ## front -/
abbrev s_front : Stmt := topS 13
abbrev N_front : List Str := ["packs", "b", "found", "least", "amount", "price"]
theorem sc_front : FnScope N_front ["packs", "b"] (defScope s_front) := ⟨rfl, rfl, rfl, by decide +kernel, rfl, by decide +kernel, by decide +kernel⟩
noncomputable def front_L1 : DS := (dSeq (dIfS (dAndT (dTst pyIsNot (dVarO 5) (dC .none)) (dOrT (dTst pyIs (dVarO 3) (dC .none)) (dTst pyLtA (dVarO 5) (dVarO 3)))) (dSeq (dApp 2 (dTup (dCons (dVar 4) (dCons (dVar 5) dNil))))
  (dAsg 3 (dVar 5))) dNext)
  (dWp [4, 5] dNext))
noncomputable def b_front : DS := (dSeq (dAsgO 2 (dLst dNil))
  (dSeq (dAsg 3 (dC .none))
  (dWp [4, 5] (dSeq (dFor (dRevI (dF (dLstEn (dFn (d_least_prices) (dConsA (dVarV 0) (dConsA (dVarV 1) dNilA)))))) (gT (gCons' (gN 4) (gCons' (gN 5) gNil'))) front_L1)
  (dRet (dTupRev (dVarO 2)))))))
noncomputable def d_front : FD := dFun 2 4 b_front
theorem ok_front {P : Program} {w : World} {K : Frg} {mg : Str → Option Value} {base : Heap} {f : Addr} {fd : FuncData} (T : Tx K mg) (F : Fun K "front" "front" s_front f fd) (D_least_prices : Def P w K mg base 1 "least_prices" (d_least_prices)) : FnOk P w K mg base CX0 2 f fd ["packs", "b"] (spD K d_front) :=
  def_ok F sc_front rfl rfl fun cdv A outer s H E C hr => by
    have nd := sc_front.nd
    exact (ss_cons (s_setO 2 nd (by exact (l_lst (by exact d_nil))))
  (ss_cons (s_set 3 nd (by exact e_non))
  (ss_wp [4, 5] (ss_cons (s_for PassesOwn.never rfl (by exact (i_rev T.g_reversed (f_of (l_lstEnum T.g_list T.g_enumerate (e_fn D_least_prices (hr.mono (by decide)) (by exact (a_cons (v_var 0) (a_cons (v_var 1) a_nil)))))))) (by exact (g_tup rfl (gs_cons (g_name 4 nd) (gs_cons (g_name 5 nd) gs_nil)) (glen_cons (glen_cons glen_nil)))) (ss_cons (s_if (by exact ((w_and (t_cmp op_isnotA r_isnot (nomark _) (o_var 5) (o_of e_non)) (w_and1 ((w_or (t_cmp op_isA r_is (nomark _) (o_var 3) (o_of e_non)) (w_or1 (t_cmp (op_ltA (u65 hr)) r_ltA (nomark _) (o_var 5) (o_var 3)))).pt))).pt)) (ss_cons (s_app 2 (pe_bm PySem.F.plainAttrs_list PySem.F.slot_list_append PySem.F.type_list_append mt_append (pv 2) (pa_cons (e_tup (by exact (d_cons (e_var 4) (d_cons (e_var 5) d_nil)))) pa_nil)))
  (ss_one (s_set 3 nd (by exact (e_var 5))))) ss_nil)
  (ss_wp [4, 5] ss_nil)))
  (ss_one (s_ret (by exact (e_tupRev T.g_tuple T.g_reversed (o_var 2)))))))))
/-! ## _law_mix -/
abbrev s_law_mix : Stmt := topS 20
abbrev N_law_mix : List Str := ["number"]
theorem sc_law_mix : FnScope N_law_mix ["number"] (defScope s_law_mix) := ⟨rfl, rfl, rfl, by decide +kernel, rfl, by decide +kernel, by decide +kernel⟩
noncomputable def b_law_mix : DS := (dSeq (dAsg 0 (dOp pyMod (dCl pyInt (dCons (dOp pyAdd (dOp pyMulB (dVarO 0) (dC (.int 6364136223846793005))) (dC (.int 1442695040888963407))) dNil)) (dC (.int 18446744073709551616))))
  (dRet (dOp pyMod (dCl pyInt (dCons (dOp pyAdd (dOp pyDiv (dOp pyMulB (dVarO 0) (dVarO 0)) (dC (.int 4294967296))) (dOp pyMulB (dVarO 0) (dC (.int 69621)))) dNil)) (dC (.int 18446744073709551557)))))
noncomputable def d_law_mix : FD := dFun 1 0 b_law_mix
theorem ok_law_mix {P : Program} {w : World} {K : Frg} {mg : Str → Option Value} {base : Heap} {f : Addr} {fd : FuncData} (T : Tx K mg) (F : Fun K "_law_mix" "_law_mix" s_law_mix f fd)  : FnOk P w K mg base CX0 1 f fd ["number"] (spD K d_law_mix) :=
  def_ok F sc_law_mix rfl rfl fun cdv A outer s H E C hr => by
    have nd := sc_law_mix.nd
    exact (ss_cons (s_set 0 nd (by exact (e_op op_mod r_mod (o_of (e_clT call_int1 r_int T.g_int PyProof.Rows.boot_int (by exact (q_cons (o_of (e_op op_addA r_add (o_of (e_op op_mulB r_mulB (o_var 0) (o_of e_int))) (o_of e_int))) q_nil)))) (o_of e_int))))
  (ss_one (s_ret (by exact (e_op op_mod r_mod (o_of (e_clT call_int1 r_int T.g_int PyProof.Rows.boot_int (by exact (q_cons (o_of (e_op op_addA r_add (o_of (e_op op_fdivW r_div (o_of (e_op op_mulB r_mulB (o_var 0) (o_var 0))) (o_of e_int))) (o_of (e_op op_mulB r_mulB (o_var 0) (o_of e_int))))) q_nil)))) (o_of e_int))))))
/-! ## _law_take -/
abbrev s_law_take : Stmt := topS 22
abbrev N_law_take : List Str := ["tape", "many", "cell", "digit"]
theorem sc_law_take : FnScope N_law_take ["tape", "many"] (defScope s_law_take) := ⟨rfl, rfl, rfl, by decide +kernel, rfl, by decide +kernel, by decide +kernel⟩
noncomputable def b_law_take : DS := (dSeq (dIfS (dTst pyLtA (dBget 0 2) (dVarO 1)) (dSeq (dIfS (dTst pyLtA (dBget 0 1) (dLenC (dBcells 0))) (dSeq (dAsg 2 (dGetC (dBcells 0) (dBget 0 1)))
  (dSeq (dAsg 2 (dIf (dTst pyGeA (dVarO 2) (dC (.int 0))) (dOp pyMulB (dC (.int 2)) (dVarO 2)) (dOp pySub (dOp pyMulB (dNeg (dC (.int 2))) (dVarO 2)) (dC (.int 1)))))
  (dSeq (dBset 0 1 (dOp pyAdd (dBget 0 1) (dC (.int 1))))
  (dSeq (dBset 0 3 (dFn (d_law_mix) (dConsA (dV (dOp pyAdd (dBget 0 3) (dVarO 2))) dNilA)))
  (dSeq (dBset 0 2 (dIf (dTst pyGeA (dVarO 2) (dOp pyPow (dC (.int 10)) (dC (.int 18)))) (dVar 2) (dFn (d_law_mix) (dConsA (dV (dOp pyAdd (dFn (d_law_mix) (dConsA (dVarV 2) dNilA)) (dBget 0 1))) dNilA))))
  (dWp [2] dNext)))))) (dSeq (dBset 0 3 (dFn (d_law_mix) (dConsA (dV (dOp pyAdd (dBget 0 3) (dC (.int 1)))) dNilA)))
  (dSeq (dBset 0 2 (dBget 0 3))
  (dWp [2] dNext))))
  (dWp [2] dNext)) (dWp [2] dNext))
  (dSeq (dAsg 3 (dOp pyMod (dCl pyInt (dCons (dBget 0 2) dNil)) (dVarO 1)))
  (dSeq (dBset 0 2 (dOp pyDiv (dBget 0 2) (dVarO 1)))
  (dRet (dVar 3)))))
noncomputable def d_law_take : FD := dFun 2 2 b_law_take
theorem ok_law_take {P : Program} {w : World} {K : Frg} {mg : Str → Option Value} {base : Heap} {f : Addr} {fd : FuncData} (T : Tx K mg) (F : Fun K "_law_take" "_law_take" s_law_take f fd) (D_law_mix : Def P w K mg base 1 "_law_mix" (d_law_mix)) : FnOk P w K mg base CX0 2 f fd ["tape", "many"] (spD K d_law_take) :=
  def_ok F sc_law_take rfl rfl fun cdv A outer s H E C hr => by
    have nd := sc_law_take.nd
    exact (ss_cons (s_if (by exact (t_cmp (op_ltA (u65 hr)) r_ltA (nomark _) (o_of (e_bget 0 2)) (o_var 1))) (ss_cons (s_if (by exact (t_cmp (op_ltA (u65 hr)) r_ltA (nomark _) (o_of (e_bget 0 1)) (o_of (e_lenC T.g_len (v_cells 0))))) (ss_cons (s_set 2 nd (by exact (e_getC (v_cells 0) (e_bget 0 1))))
  (ss_cons (s_set 2 nd (by exact (e_if (t_cmp (op_geA (u65 hr)) r_geA (nomark _) (o_var 2) (o_of e_int)) (e_op op_mulB r_mulB (o_of e_int) (o_var 2)) (e_op op_sub r_sub (o_of (e_op op_mulB r_mulB (o_of (e_neg e_int)) (o_var 2))) (o_of e_int)))))
  (ss_cons (s_bset 0 1 (by exact (e_op op_addA r_add (o_of (e_bget 0 1)) (o_of e_int))))
  (ss_cons (s_bset 0 3 (by exact (e_fn D_law_mix (hr.mono (by decide)) (by exact (a_cons (v_of (e_op op_addA r_add (o_of (e_bget 0 3)) (o_var 2))) a_nil)))))
  (ss_cons (s_bset 0 2 (by exact (e_if (t_cmp (op_geA (u65 hr)) r_geA (nomark _) (o_var 2) (o_of (e_op op_pow r_pow (o_of e_int) (o_of e_int)))) (e_var 2) (e_fn D_law_mix (hr.mono (by decide)) (by exact (a_cons (v_of (e_op op_addA r_add (o_of (e_fn D_law_mix (hr.mono (by decide)) (by exact (a_cons (v_var 2) a_nil)))) (o_of (e_bget 0 1)))) a_nil))))))
  (ss_wp [2] ss_nil)))))) (ss_cons (s_bset 0 3 (by exact (e_fn D_law_mix (hr.mono (by decide)) (by exact (a_cons (v_of (e_op op_addA r_add (o_of (e_bget 0 3)) (o_of e_int))) a_nil)))))
  (ss_cons (s_bset 0 2 (by exact (e_bget 0 3)))
  (ss_wp [2] ss_nil))))
  (ss_wp [2] ss_nil)) (ss_wp [2] ss_nil))
  (ss_cons (s_set 3 nd (by exact (e_op op_mod r_mod (o_of (e_clT call_int1 r_int T.g_int PyProof.Rows.boot_int (by exact (q_cons (o_of (e_bget 0 2)) q_nil)))) (o_var 1))))
  (ss_cons (s_bset 0 2 (by exact (e_op op_fdivW r_div (o_of (e_bget 0 2)) (o_var 1))))
  (ss_one (s_ret (by exact (e_var 3)))))))
/-! ## _law_packs -/
abbrev s_law_packs : Stmt := topS 23
abbrev N_law_packs : List Str := ["tape", "many", "most", "found", "k"]
theorem sc_law_packs : FnScope N_law_packs ["tape", "many", "most"] (defScope s_law_packs) := ⟨rfl, rfl, rfl, by decide +kernel, rfl, by decide +kernel, by decide +kernel⟩
noncomputable def law_packs_L1 : DS := (dSeq (dPutD 3 (dOp pyAdd (dC (.int 1)) (dFn (d_law_take) (dConsA (dVarV 0) (dConsA (dVarV 2) dNilA)))) (dFn (d_law_take) (dConsA (dVarV 0) (dConsA (dV (dOp pyIx (dF (dLst (dCons (dC (.int 4)) (dCons (dC (.int 30)) (dCons (dC (.int 1001)) dNil))))) (dFn (d_law_take) (dConsA (dVarV 0) (dConsA (dV (dC (.int 3))) dNilA))))) dNilA))))
  (dWp [4] dNext))
noncomputable def b_law_packs : DS := (dSeq (dNewD 3)
  (dWp [4] (dSeq (dFor (dRng1 (dOp pyAdd (dC (.int 1)) (dFn (d_law_take) (dConsA (dVarV 0) (dConsA (dVarV 1) dNilA))))) (gN 4) law_packs_L1)
  (dRet (dCl pyTuple (dCons (dF (dSrtItems 3)) dNil))))))
noncomputable def d_law_packs : FD := dFun 3 2 b_law_packs
theorem ok_law_packs {P : Program} {w : World} {K : Frg} {mg : Str → Option Value} {base : Heap} {f : Addr} {fd : FuncData} (T : Tx K mg) (F : Fun K "_law_packs" "_law_packs" s_law_packs f fd) (D_law_take : Def P w K mg base 2 "_law_take" (d_law_take)) : FnOk P w K mg base CX0 3 f fd ["tape", "many", "most"] (spD K d_law_packs) :=
  def_ok F sc_law_packs rfl rfl fun cdv A outer s H E C hr => by
    have nd := sc_law_packs.nd
    exact (ss_cons (s_newD 3 nd)
  (ss_wp [4] (ss_cons (s_for PassesOwn.never rfl (by exact (i_rng1 T.g_range (o_of (e_op op_addA r_add (o_of e_int) (o_of (e_fn D_law_take (hr.mono (by decide)) (by exact (a_cons (v_var 0) (a_cons (v_var 1) a_nil))))))))) (by exact (g_name 4 nd)) (ss_cons (s_dput 3 (u65 hr) (pv 3) (by exact (e_op op_addA r_add (o_of e_int) (o_of (e_fn D_law_take (hr.mono (by decide)) (by exact (a_cons (v_var 0) (a_cons (v_var 2) a_nil))))))) (by exact (e_fn D_law_take (hr.mono (by decide)) (by exact (a_cons (v_var 0) (a_cons (v_of (e_ix (o_of (f_of (l_lst (by exact (d_cons e_int (d_cons e_int (d_cons e_int d_nil))))))) (o_of (e_fn D_law_take (hr.mono (by decide)) (by exact (a_cons (v_var 0) (a_cons (v_of e_int) a_nil))))))) a_nil))))))
  (ss_wp [4] ss_nil)))
  (ss_one (s_ret (by exact (e_clT call_tuple_of r_tuple T.g_tuple PyProof.Rows.boot_tuple (by exact (q_cons (o_of (f_of (l_srtItems 3 (u65 hr) T.g_sorted (pv 3)))) q_nil)))))))))
/-! ## first_pieces -/
abbrev s_first_pieces : Stmt := topS 17
abbrev N_first_pieces : List Str := ["pieces", "goal", "start", "i", "rest"]
theorem sc_first_pieces : FnScope N_first_pieces ["pieces", "goal", "start"] (defScope s_first_pieces) := ⟨rfl, rfl, rfl, by decide +kernel, rfl, by decide +kernel, by decide +kernel⟩
noncomputable def first_pieces_L1 (r : FD) : DS := (dSeq (dIfS (dAndT (dTst pyIn (dVarO 1) (dOp pyIx (dFn (d_sum_rows) (dConsA (dV (dSl pySl (dVarO 0) (dPart (dVar 3)) dNoP)) (dConsA (dVarV 1) dNilA))) (dNeg (dC (.int 1))))) (dTst pyLeA (dOp pyIx (dVarO 0) (dVarO 3)) (dVarO 1))) (dSeq (dAsg 4 (dFn (r) (dConsA (dVarV 0) (dConsA (dV (dOp pySub (dVarO 1) (dOp pyIx (dVarO 0) (dVarO 3)))) (dConsA (dV (dOp pyAdd (dVarO 3) (dC (.int 1)))) dNilA)))))
  (dSeq (dIfS (dTst pyIsNot (dVarO 4) (dC .none)) (dRet (dOp pyAdd (dTup (dCons (dVar 3) dNil)) (dVarO 4))) dNext)
  (dWp [4] dNext))) (dWp [4] dNext))
  (dWp [3, 4] dNext))
noncomputable def b_first_pieces (r : FD) : DS := (dSeq (dIfS (dTst pyEq (dVarO 1) (dC (.int 0))) (dRet (dTup dNil)) dNext)
  (dWp [3, 4] (dSeq (dFor (dRng2 (dVarO 2) (dCl pyLen (dCons (dVarO 0) dNil))) (gN 3) (first_pieces_L1 r))
  (dRet (dC .none)))))
noncomputable def d_first_pieces : Nat → FD
  | 0 => fun _ _ => none
  | k + 1 => dFun 3 2 (b_first_pieces (d_first_pieces k))
theorem ok_first_pieces {P : Program} {w : World} {K : Frg} {mg : Str → Option Value} {base : Heap} {f : Addr} {fd : FuncData} (T : Tx K mg) (F : Fun K "first_pieces" "first_pieces" s_first_pieces f fd) (gm : mg "first_pieces" = some (.ref f)) (bd : Binds K fd ["pieces", "goal", "start"] []) (D_sum_rows : Def P w K mg base 2 "sum_rows" (d_sum_rows)) : ∀ kk : Nat, FnOk P w K mg base CX0 (2 + kk) f fd ["pieces", "goal", "start"] (spD K (d_first_pieces kk))
  | 0 => fn_none
  | kk + 1 => def_ok F sc_first_pieces rfl rfl fun cdv A outer s H E C hr => by
    have nd := sc_first_pieces.nd
    have hr : Room (2 + kk) (A.deeper (envOfC "first_pieces" (defScope s_first_pieces) s.heap.objs.size f cdv)) := hr
    have D_first_pieces : Def P w K mg base (2 + kk) "first_pieces" (d_first_pieces kk) := ⟨f, fd, ["pieces", "goal", "start"], ok_first_pieces T F gm bd D_sum_rows kk, gm, F.kp, bd⟩
    exact (ss_cons (s_if (by exact (t_cmp (op_eqD hr.units) r_eq (nomark _) (o_var 1) (o_of e_int))) (ss_one (s_ret (by exact (e_tup (by exact d_nil))))) ss_nil)
  (ss_wp [3, 4] (ss_cons (s_for PassesOwn.never rfl (by exact (i_rng2 T.g_range (o_var 2) (o_of (e_clB call_len r_len T.g_len PySem.boot_len (by exact (q_cons (o_var 0) q_nil)))))) (by exact (g_name 3 nd)) (ss_cons (s_if (by exact ((w_and (t_cmp (op_inA (u65 hr)) r_in (by rfl) (o_var 1) (o_of (e_ix (o_of (e_fn D_sum_rows (hr.mono (by omega)) (by exact (a_cons (v_of (e_sl (o_var 0) (p_some (e_var 3)) p_none)) (a_cons (v_var 1) a_nil))))) (o_of (e_neg e_int))))) (w_and1 (t_cmp (op_leA (u65 hr)) r_leA (nomark _) (o_of (e_ix (o_var 0) (o_var 3))) (o_var 1)))).pt)) (ss_cons (s_set 4 nd (by exact (e_fn D_first_pieces (hr.mono (by omega)) (by exact (a_cons (v_var 0) (a_cons (v_of (e_op op_sub r_sub (o_var 1) (o_of (e_ix (o_var 0) (o_var 3))))) (a_cons (v_of (e_op op_addA r_add (o_var 3) (o_of e_int))) a_nil)))))))
  (ss_cons (s_if (by exact (t_cmp op_isnotA r_isnot (nomark _) (o_var 4) (o_of e_non))) (ss_one (s_ret (by exact (e_op op_addA r_add (o_of (e_tup (by exact (d_cons (e_var 3) d_nil)))) (o_var 4))))) ss_nil)
  (ss_wp [4] ss_nil))) (ss_wp [4] ss_nil))
  (ss_wp [3, 4] ss_nil)))
  (ss_one (s_ret (by exact e_non))))))
/-! ## just_so -/
abbrev s_just_so : Stmt := topS 18
abbrev N_just_so : List Str := ["pieces", "b", "rows"]
theorem sc_just_so : FnScope N_just_so ["pieces", "b"] (defScope s_just_so) := ⟨rfl, rfl, rfl, by decide +kernel, rfl, by decide +kernel, by decide +kernel⟩
noncomputable def b_just_so : DS := (dSeq (dAsg 2 (dFn (d_sum_rows) (dConsA (dVarV 0) (dConsA (dVarV 1) dNilA))))
  (dSeq (dIfS (dTst pyIn (dVarO 1) (dOp pyIx (dVarO 2) (dNeg (dC (.int 1))))) (dRet (dTup (dCons (dC (.str (PySem.Str.ofString "pieces"))) (dCons (dFn (d_first_pieces 14) (dConsA (dVarV 0) (dConsA (dVarV 1) (dConsA (dV (dC (.int 0))) dNilA)))) dNil)))) dNext)
  (dRet (dTup (dCons (dC (.str (PySem.Str.ofString "sums"))) (dCons (dVar 2) dNil))))))
noncomputable def d_just_so : FD := dFun 2 1 b_just_so
theorem ok_just_so {P : Program} {w : World} {K : Frg} {mg : Str → Option Value} {base : Heap} {f : Addr} {fd : FuncData} (T : Tx K mg) (F : Fun K "just_so" "just_so" s_just_so f fd) (D_sum_rows : Def P w K mg base 2 "sum_rows" (d_sum_rows)) (D_first_pieces : Def P w K mg base 16 "first_pieces" (d_first_pieces 14)) : FnOk P w K mg base CX0 17 f fd ["pieces", "b"] (spD K d_just_so) :=
  def_ok F sc_just_so rfl rfl fun cdv A outer s H E C hr => by
    have nd := sc_just_so.nd
    exact (ss_cons (s_set 2 nd (by exact (e_fn D_sum_rows (hr.mono (by decide)) (by exact (a_cons (v_var 0) (a_cons (v_var 1) a_nil))))))
  (ss_cons (s_if (by exact (t_cmp (op_inA (u65 hr)) r_in (by rfl) (o_var 1) (o_of (e_ix (o_var 2) (o_of (e_neg e_int)))))) (ss_one (s_ret (by exact (e_tup (by exact (d_cons e_str (d_cons (e_fn D_first_pieces (hr.mono (by decide)) (by exact (a_cons (v_var 0) (a_cons (v_var 1) (a_cons (v_of e_int) a_nil))))) d_nil))))))) ss_nil)
  (ss_one (s_ret (by exact (e_tup (by exact (d_cons e_str (d_cons (e_var 2) d_nil)))))))))
/-! ## cost_far -/
abbrev s_cost_far : Stmt := topS 7
abbrev N_cost_far : List Str := ["packs", "s", "size", "price", "more", "edge"]
theorem sc_cost_far : FnScope N_cost_far ["packs", "s"] (defScope s_cost_far) := ⟨rfl, rfl, rfl, by decide +kernel, rfl, by decide +kernel, by decide +kernel⟩
noncomputable def b_cost_far : DS := (dSeq (dAsgG (gT (gCons' (gN 2) (gCons' (gN 3) gNil'))) (dFn (d_best_pack) (dConsA (dVarV 0) dNilA)))
  (dSeq (dAsg 4 (dC (.int 0)))
  (dSeq (dAsg 5 (dOp pyAdd (dFn (d_turning_point) (dConsA (dVarV 0) dNilA)) (dVarO 2)))
  (dSeq (dIfS (dTst pyGtA (dVarO 1) (dVarO 5)) (dAsg 4 (dOp pyDiv (dOp pySub (dOp pyAdd (dOp pySub (dVarO 1) (dVarO 5)) (dVarO 2)) (dC (.int 1))) (dVarO 2))) dNext)
  (dRet (dOp pyAdd (dOp pyIx (dFn (d_cost_ladder) (dConsA (dVarV 0) (dConsA (dV (dOp pySub (dVarO 1) (dOp pyMulB (dVarO 4) (dVarO 2)))) dNilA))) (dNeg (dC (.int 1)))) (dOp pyMulB (dVarO 4) (dVarO 3))))))))
noncomputable def d_cost_far : FD := dFun 2 4 b_cost_far
theorem ok_cost_far {P : Program} {w : World} {K : Frg} {mg : Str → Option Value} {base : Heap} {f : Addr} {fd : FuncData} (T : Tx K mg) (F : Fun K "cost_far" "cost_far" s_cost_far f fd) (D_best_pack : Def P w K mg base 1 "best_pack" (d_best_pack)) (D_turning_point : Def P w K mg base 2 "turning_point" (d_turning_point)) (D_cost_ladder : Def P w K mg base 1 "cost_ladder" (d_cost_ladder)) : FnOk P w K mg base CX0 3 f fd ["packs", "s"] (spD K d_cost_far) :=
  def_ok F sc_cost_far rfl rfl fun cdv A outer s H E C hr => by
    have nd := sc_cost_far.nd
    exact (ss_cons (s_asgG (by exact (e_fn D_best_pack (hr.mono (by decide)) (by exact (a_cons (v_var 0) a_nil)))) (by exact (g_tup rfl (gs_cons (g_name 2 nd) (gs_cons (g_name 3 nd) gs_nil)) (glen_cons (glen_cons glen_nil)))))
  (ss_cons (s_set 4 nd (by exact e_int))
  (ss_cons (s_set 5 nd (by exact (e_op op_addA r_add (o_of (e_fn D_turning_point (hr.mono (by decide)) (by exact (a_cons (v_var 0) a_nil)))) (o_var 2))))
  (ss_cons (s_if (by exact (t_cmp (op_gtA (u65 hr)) r_gtA (nomark _) (o_var 1) (o_var 5))) (ss_one (s_set 4 nd (by exact (e_op op_fdivW r_div (o_of (e_op op_sub r_sub (o_of (e_op op_addA r_add (o_of (e_op op_sub r_sub (o_var 1) (o_var 5))) (o_var 2))) (o_of e_int))) (o_var 2))))) ss_nil)
  (ss_one (s_ret (by exact (e_op op_addA r_add (o_of (e_ix (o_of (e_fn D_cost_ladder (hr.mono (by decide)) (by exact (a_cons (v_var 0) (a_cons (v_of (e_op op_sub r_sub (o_var 1) (o_of (e_op op_mulB r_mulB (o_var 4) (o_var 2))))) a_nil))))) (o_of (e_neg e_int)))) (o_of (e_op op_mulB r_mulB (o_var 4) (o_var 3)))))))))))
/-! ## amount_of -/
abbrev s_amount_of : Stmt := topS 1
abbrev N_amount_of : List Str := ["packs", "purchase", "n", "size", "_"]
theorem sc_amount_of : FnScope N_amount_of ["packs", "purchase"] (defScope s_amount_of) := ⟨rfl, rfl, rfl, by decide +kernel, rfl, by decide +kernel, by decide +kernel⟩
noncomputable def b_amount_of : DS := (dRet (dCl pySumA (dCons (dF (dCmpY (dZip (dVarO 1) (dVarO 0)) (gT (gCons' (gN 2) (gCons' (gT (gCons' (gN 3) (gCons' (gN 4) gNil'))) gNil'))) (dOp pyMulB (dVarO 2) (dVarO 3)) [2, 3, 4])) dNil)))
noncomputable def d_amount_of : FD := dFun 2 3 b_amount_of
theorem ok_amount_of {P : Program} {w : World} {K : Frg} {mg : Str → Option Value} {base : Heap} {f : Addr} {fd : FuncData} (T : Tx K mg) (F : Fun K "amount_of" "amount_of" s_amount_of f fd)  : FnOk P w K mg base CX0 1 f fd ["packs", "purchase"] (spD K d_amount_of) :=
  def_ok F sc_amount_of rfl rfl fun cdv A outer s H E C hr => by
    have nd := sc_amount_of.nd
    exact (ss_one (s_ret (by exact (e_clB (cr_sumA rfl) r_sumA T.g_sum (by decide +kernel) (by exact (q_cons (o_of (f_of (l_lc rfl nd (by exact (i_zipo T.g_zip (o_var 1) (o_var 0))) (blkOk_by (own := [("n", 2), ("size", 3), ("_", 4)]) (N := N_amount_of) (sc := defScope s_amount_of) (by decide +kernel)) (fun _ _ _ _ _ => (by exact (g_tup rfl (gs_cons (g_name 2 nd) (gs_cons (g_tup rfl (gs_cons (g_name 3 nd) (gs_cons (g_name 4 nd) gs_nil)) (glen_cons (glen_cons glen_nil))) gs_nil)) (glen_cons (glen_cons glen_nil))))) (fun _ _ _ _ _ => (by exact ts_nil)) (fun _ _ _ _ _ => (by exact (e_op op_mulB r_mulB (o_var 2) (o_var 3))))))) q_nil))))))
/-! ## cheapest -/
abbrev s_cheapest : Stmt := topS 3
abbrev N_cheapest : List Str := ["packs", "s", "costs", "found", "k", "i", "size", "price"]
theorem sc_cheapest : FnScope N_cheapest ["packs", "s"] (defScope s_cheapest) := ⟨rfl, rfl, rfl, by decide +kernel, rfl, by decide +kernel, by decide +kernel⟩
noncomputable def cheapest_W1 : DS := (dSeq (dAsg 4 (dOp pyIx (dF (dCmp (dEnum (dVarO 0)) (gT (gCons' (gN 5) (gCons' (gT (gCons' (gN 6) (gCons' (gN 7) gNil'))) gNil'))) (dTst pyEq (dOp pyAdd (dOp pyIx (dVarO 2) (dCl pyMax2 (dCons (dC (.int 0)) (dCons (dOp pySub (dVarO 1) (dVarO 6)) dNil)))) (dVarO 7)) (dOp pyIx (dVarO 2) (dVarO 1))) (dVar 5) [5, 6, 7])) (dC (.int 0))))
  (dSeq (dAugL (fun i j => i + j) 3 (dVar 4) (dC (.int 1)))
  (dSeq (dAsg 1 (dCl pyMax2 (dCons (dC (.int 0)) (dCons (dOp pySub (dVarO 1) (dOp pyIx (dOp pyIx (dVarO 0) (dVarO 4)) (dC (.int 0)))) dNil))))
  (dWp [4] dNext))))
noncomputable def b_cheapest : DS := (dSeq (dAsg 2 (dFn (d_cost_ladder) (dConsA (dVarV 0) (dConsA (dVarV 1) dNilA))))
  (dSeq (dAsgO 3 (dMulL (dF (dLst (dCons (dC (.int 0)) dNil))) (dCl pyLen (dCons (dVarO 0) dNil))))
  (dWp [4] (dSeq (dWhile (dTst pyGtA (dVarO 1) (dC (.int 0))) cheapest_W1)
  (dRet (dCl pyTuple (dCons (dVarO 3) dNil)))))))
noncomputable def d_cheapest : FD := dFun 2 6 b_cheapest
theorem ok_cheapest {P : Program} {w : World} {K : Frg} {mg : Str → Option Value} {base : Heap} {f : Addr} {fd : FuncData} (T : Tx K mg) (F : Fun K "cheapest" "cheapest" s_cheapest f fd) (D_cost_ladder : Def P w K mg base 1 "cost_ladder" (d_cost_ladder)) : FnOk P w K mg base CX0 2 f fd ["packs", "s"] (spD K d_cheapest) :=
  def_ok F sc_cheapest rfl rfl fun cdv A outer s H E C hr => by
    have nd := sc_cheapest.nd
    exact (ss_cons (s_set 2 nd (by exact (e_fn D_cost_ladder (hr.mono (by decide)) (by exact (a_cons (v_var 0) (a_cons (v_var 1) a_nil))))))
  (ss_cons (s_setO 3 nd (by exact (l_mulL (o_of (f_of (l_lst (by exact (d_cons e_int d_nil))))) (o_of (e_clB call_len r_len T.g_len PySem.boot_len (by exact (q_cons (o_var 0) q_nil)))))))
  (ss_wp [4] (ss_cons (s_while PassesOwn.never (by exact (t_cmp (op_gtA (u65 hr)) r_gtA (nomark _) (o_var 1) (o_of e_int))) (ss_cons (s_set 4 nd (by exact (e_ix (o_of (f_of (l_lc rfl nd (by exact (i_enumo T.g_enumerate (o_var 0))) (blkOk_by (own := [("i", 5), ("size", 6), ("price", 7)]) (N := N_cheapest) (sc := defScope s_cheapest) (by decide +kernel)) (fun _ _ _ _ _ => (by exact (g_tup rfl (gs_cons (g_name 5 nd) (gs_cons (g_tup rfl (gs_cons (g_name 6 nd) (gs_cons (g_name 7 nd) gs_nil)) (glen_cons (glen_cons glen_nil))) gs_nil)) (glen_cons (glen_cons glen_nil))))) (fun _ _ _ _ _ => (by exact (ts_one (t_cmp (op_eqD hr.units) r_eq (nomark _) (o_of (e_op op_addA r_add (o_of (e_ix (o_var 2) (o_of (e_clB (call_max2 rfl) r_max2 T.g_max (by decide +kernel) (by exact (q_cons (o_of e_int) (q_cons (o_of (e_op op_sub r_sub (o_var 1) (o_var 6))) q_nil))))))) (o_var 7))) (o_of (e_ix (o_var 2) (o_var 1))))))) (fun _ _ _ _ _ => (by exact (e_var 5)))))) (o_of e_int))))
  (ss_cons (s_augLi 3 ip_add (pv 3) (by exact (e_var 4)) (by exact e_int))
  (ss_cons (s_set 1 nd (by exact (e_clB (call_max2 rfl) r_max2 T.g_max (by decide +kernel) (by exact (q_cons (o_of e_int) (q_cons (o_of (e_op op_sub r_sub (o_var 1) (o_of (e_ix (o_of (e_ix (o_var 0) (o_var 4))) (o_of e_int))))) q_nil))))))
  (ss_wp [4] ss_nil)))))
  (ss_one (s_ret (by exact (e_clT call_tuple_of r_tuple T.g_tuple PyProof.Rows.boot_tuple (by exact (q_cons (o_var 3) q_nil))))))))))
/-! ## law -/
abbrev s_law : Stmt := topS 24
abbrev N_law : List Str := ["script", "tape", "turn", "packs", "s", "size", "price", "costs", "r", "entries", "m", "rest_over", "b", "pieces", "one", "other", "rows", "goal", "told", "pairs", "k", "entry", "amount", "paid"]
theorem sc_law : FnScope N_law ["script"] (defScope s_law) := ⟨rfl, rfl, rfl, by decide +kernel, rfl, by decide +kernel, by decide +kernel⟩
noncomputable def law_L1 : DS := (dSeq (dAsg 18 (dFn (d_just_so) (dConsA (dVarV 13) (dConsA (dVarV 17) dNilA))))
  (dSeq (dIfS (dOrT (dAndT (dTst pyEq (dOp pyIx (dVarO 18) (dC (.int 0))) (dC (.str (PySem.Str.ofString "pieces")))) (dTst pyNe (dFn (d_least_over) (dConsA (dVarV 3) (dConsA (dVarV 17) dNilA))) (dC (.int 0)))) (dOrT (dTst pyNe (dOpB pyEq (dOp pyIx (dVarO 18) (dC (.int 0))) (dC (.str (PySem.Str.ofString "pieces")))) (dOpB pyIn (dVarO 17) (dOp pyIx (dFn (d_sum_rows) (dConsA (dVarV 13) (dConsA (dVarV 17) dNilA))) (dNeg (dC (.int 1)))))) (dAndT (dTst pyEq (dVarO 17) (dVarO 12)) (dTst pyNe (dOpB pyEq (dOp pyIx (dVarO 18) (dC (.int 0))) (dC (.str (PySem.Str.ofString "pieces")))) (dOpB pyIn (dVarO 12) (dOp pyIx (dVarO 16) (dNeg (dC (.int 1))))))))) (dRet (dC (.bool false))) dNext)
  (dWp [17, 18] dNext)))
noncomputable def law_L2 : DS := (dSeq (dAsg 13 (dOp pyAdd (dVarO 13) (dOp pyMulB (dTup (dCons (dVar 14) dNil)) (dCl pyMin2 (dCons (dC (.int 2)) (dCons (dOp pyDiv (dVarO 12) (dVarO 14)) dNil))))))
  (dWp [14, 15] dNext))
noncomputable def law_L3 : DS := (dSeq (dAsgG (gT (gCons' (gN 3) (gCons' (gN 4) gNil'))) (dTup (dCons (dFn (d_law_packs) (dConsA (dVarV 1) (dConsA (dV (dC (.int 4))) (dConsA (dV (dC (.int 30))) dNilA)))) (dCons (dFn (d_law_take) (dConsA (dVarV 1) (dConsA (dV (dC (.int 601))) dNilA))) dNil))))
  (dSeq (dAsgG (gT (gCons' (gN 5) (gCons' (gN 6) gNil'))) (dFn (d_best_pack) (dConsA (dVarV 3) dNilA)))
  (dSeq (dAsg 7 (dFn (d_cost_ladder) (dConsA (dVarV 3) (dConsA (dVarV 4) dNilA))))
  (dSeq (dIfS (dOrT (dTru (dCl pyAny (dCons (dF (dCmpY (dRng1 (dVarO 4)) (gN 20) (dOpB pyGtA (dOp pyIx (dVarO 7) (dVarO 20)) (dOp pyIx (dVarO 7) (dOp pyAdd (dVarO 20) (dC (.int 1))))) [20])) dNil))) (dTru (dCl pyAny (dCons (dF (dCmpY (dRng1 (dOp pyAdd (dOp pySub (dVarO 4) (dVarO 5)) (dC (.int 1)))) (gN 20) (dOpB pyGtA (dOp pyIx (dVarO 7) (dOp pyAdd (dVarO 20) (dVarO 5))) (dOp pyAdd (dOp pyIx (dVarO 7) (dVarO 20)) (dVarO 6))) [20])) dNil)))) (dRet (dC (.bool false))) dNext)
  (dSeq (dAsg 8 (dFn (d_rounds_from) (dConsA (dVarV 3) dNilA)))
  (dSeq (dIfS (dOrT (dTst pyNe (dFn (d_cost_far) (dConsA (dVarV 3) (dConsA (dV (dOp pyAdd (dOp pyAdd (dVarO 8) (dOp pyMulB (dC (.int 7)) (dVarO 5))) (dVarO 4))) dNilA))) (dOp pyAdd (dFn (d_cost_far) (dConsA (dVarV 3) (dConsA (dV (dOp pyAdd (dVarO 8) (dVarO 4))) dNilA))) (dOp pyMulB (dC (.int 7)) (dVarO 6)))) (dTst pyLtA (dFn (d_amount_of) (dConsA (dVarV 3) (dConsA (dV (dFn (d_cheapest) (dConsA (dVarV 3) (dConsA (dVarV 4) dNilA)))) dNilA))) (dVarO 4))) (dRet (dC (.bool false))) dNext)
  (dSeq (dAsgG (gT (gCons' (gN 9) (gCons' (gN 10) gNil'))) (dTup (dCons (dFn (d_floor) (dConsA (dVarV 3) dNilA)) (dCons (dOp pyIx (dOp pyIx (dVarO 3) (dC (.int 0))) (dC (.int 0))) dNil))))
  (dSeq (dAsg 11 (dFn (d_least_over) (dConsA (dVarV 3) (dConsA (dVarV 4) dNilA))))
  (dSeq (dIfS (dAndT (dTst pyGtA (dVarO 11) (dC (.int 0))) (dTru (dCl pyAny (dCons (dF (dCmpY (dSeq' (dVarO 9)) (gN 21) (dAndV (dOpB pyIsNot (dVarO 21) (dC .none)) (dAndV (dOpB pyLeA (dVarO 21) (dVarO 4)) (dOpB pyEq (dOp pyMulB (dOp pyDiv (dOp pySub (dVarO 4) (dVarO 21)) (dVarO 10)) (dVarO 10)) (dOp pySub (dVarO 4) (dVarO 21))))) [21])) dNil)))) (dRet (dC (.bool false))) dNext)
  (dSeq (dIfS (dNotT (dChn pyLeA pyLtA (dC (.int 0)) (dVarO 11) (dOp pyAdd (dVarO 10) (dCl pyMaxA (dCons (dOp pyAdd (dF (dLst (dCons (dC (.int 0)) dNil))) (dF (dCmp (dSeq' (dVarO 9)) (gN 21) (dTst pyIsNot (dVarO 21) (dC .none)) (dVar 21) [21]))) dNil))))) (dRet (dC (.bool false))) dNext)
  (dSeq (dIfS (dOrT (dTst pyIs (dOp pyIx (dVarO 9) (dOp pySub (dOp pyAdd (dVarO 4) (dVarO 11)) (dOp pyMulB (dOp pyDiv (dOp pyAdd (dVarO 4) (dVarO 11)) (dVarO 10)) (dVarO 10)))) (dC .none)) (dTst pyGtA (dOp pyIx (dVarO 9) (dOp pySub (dOp pyAdd (dVarO 4) (dVarO 11)) (dOp pyMulB (dOp pyDiv (dOp pyAdd (dVarO 4) (dVarO 11)) (dVarO 10)) (dVarO 10)))) (dOp pyAdd (dVarO 4) (dVarO 11)))) (dRet (dC (.bool false))) dNext)
  (dSeq (dAsg 12 (dCl pyMin2 (dCons (dVarO 4) (dCons (dC (.int 60)) dNil))))
  (dSeq (dAsg 13 (dTup dNil))
  (dWp [14, 15] (dSeq (dFor (dSeq' (dVar 3)) (gT (gCons' (gN 14) (gCons' (gN 15) gNil'))) law_L2)
  (dSeq (dAsg 16 (dFn (d_sum_rows) (dConsA (dVarV 13) (dConsA (dVarV 12) dNilA))))
  (dWp [17, 18] (dSeq (dFor (dSeq' (dTup (dCons (dVar 12) (dCons (dOp pyDiv (dVarO 12) (dC (.int 2))) dNil)))) (gN 17) law_L1)
  (dSeq (dAsg 19 (dFn (d_front) (dConsA (dVarV 3) (dConsA (dVarV 12) dNilA))))
  (dSeq (dIfS (dOrT (dAndT (dTst pyGtA (dOp pyIx (dOp pyIx (dVarO 19) (dC (.int 0))) (dC (.int 0))) (dC (.int 0))) (dTst pyGtA (dOp pyIx (dOp pyIx (dVarO 19) (dC (.int 0))) (dC (.int 1))) (dC (.int 0)))) (dNotT (dTru (dCl pyAll (dCons (dF (dCmpY (dSeq' (dVarO 19)) (gT (gCons' (gN 22) (gCons' (gN 23) gNil'))) (dOpB pyEq (dFn (d_least_over) (dConsA (dVarV 3) (dConsA (dVarV 22) dNilA))) (dC (.int 0))) [22, 23])) dNil))))) (dRet (dC (.bool false))) dNext)
  (dWp [2, 3, 4, 5, 6, 7, 8, 9, 10, 11, 12, 13, 14, 15, 16, 17, 18, 19] dNext)))))))))))))))))))))
noncomputable def b_law : DS := (dSeq (dAsgV 1 (dFnV d_law_tape (dConsA (dVarV 0) dNilA)))
  (dWp [2, 3, 4, 5, 6, 7, 8, 9, 10, 11, 12, 13, 14, 15, 16, 17, 18, 19] (dSeq (dFor (dRng1 (dC (.int 3))) (gN 2) law_L3)
  (dRet (dC (.bool true))))))
noncomputable def d_law : FD := dFun 1 23 b_law
theorem ok_law {P : Program} {w : World} {K : Frg} {mg : Str → Option Value} {base : Heap} {f : Addr} {fd : FuncData} (T : Tx K mg) (F : Fun K "law" "law" s_law f fd) (D_law_tape : Def P w K mg base 1 "_law_tape" (d_law_tape)) (D_best_pack : Def P w K mg base 1 "best_pack" (d_best_pack)) (D_cost_ladder : Def P w K mg base 1 "cost_ladder" (d_cost_ladder)) (D_rounds_from : Def P w K mg base 3 "rounds_from" (d_rounds_from)) (D_least_over : Def P w K mg base 2 "least_over" (d_least_over)) (D_sum_rows : Def P w K mg base 2 "sum_rows" (d_sum_rows)) (D_front : Def P w K mg base 2 "front" (d_front)) (D_law_packs : Def P w K mg base 3 "_law_packs" (d_law_packs)) (D_law_take : Def P w K mg base 2 "_law_take" (d_law_take)) (D_floor : Def P w K mg base 1 "floor" (d_floor)) (D_just_so : Def P w K mg base 17 "just_so" (d_just_so)) (D_cost_far : Def P w K mg base 3 "cost_far" (d_cost_far)) (D_amount_of : Def P w K mg base 1 "amount_of" (d_amount_of)) (D_cheapest : Def P w K mg base 2 "cheapest" (d_cheapest)) : FnOk P w K mg base CX0 18 f fd ["script"] (spD K d_law) :=
  def_ok F sc_law rfl rfl fun cdv A outer s H E C hr => by
    have nd := sc_law.nd
    exact (ss_cons (s_setV 1 nd (v_fn D_law_tape (hr.mono (by decide)) (by exact (a_cons (v_var 0) a_nil))))
  (ss_wp [2, 3, 4, 5, 6, 7, 8, 9, 10, 11, 12, 13, 14, 15, 16, 17, 18, 19] (ss_cons (s_for PassesOwn.never rfl (by exact (i_rng1 T.g_range (o_of e_int))) (by exact (g_name 2 nd)) (ss_cons (s_asgG (by exact (e_tup (by exact (d_cons (e_fn D_law_packs (hr.mono (by decide)) (by exact (a_cons (v_var 1) (a_cons (v_of e_int) (a_cons (v_of e_int) a_nil))))) (d_cons (e_fn D_law_take (hr.mono (by decide)) (by exact (a_cons (v_var 1) (a_cons (v_of e_int) a_nil)))) d_nil))))) (by exact (g_tup rfl (gs_cons (g_name 3 nd) (gs_cons (g_name 4 nd) gs_nil)) (glen_cons (glen_cons glen_nil)))))
  (ss_cons (s_asgG (by exact (e_fn D_best_pack (hr.mono (by decide)) (by exact (a_cons (v_var 3) a_nil)))) (by exact (g_tup rfl (gs_cons (g_name 5 nd) (gs_cons (g_name 6 nd) gs_nil)) (glen_cons (glen_cons glen_nil)))))
  (ss_cons (s_set 7 nd (by exact (e_fn D_cost_ladder (hr.mono (by decide)) (by exact (a_cons (v_var 3) (a_cons (v_var 4) a_nil))))))
  (ss_cons (s_if (by exact ((w_or (t_tru (o_of (e_clB (cr_any rfl) r_any T.g_any (by decide +kernel) (by exact (q_cons (o_of (f_of (l_lc rfl nd (by exact (io_of (i_rng1 T.g_range (o_var 4)))) (blkOk_by (own := [("k", 20)]) (N := N_law) (sc := defScope s_law) (by decide +kernel)) (fun _ _ _ _ _ => (by exact (g_name 20 nd))) (fun _ _ _ _ _ => (by exact ts_nil)) (fun _ _ _ _ _ => (by exact (e_cmp (op_gtA (u65 hr)) r_gtA (nomark _) (o_of (e_ix (o_var 7) (o_var 20))) (o_of (e_ix (o_var 7) (o_of (e_op op_addA r_add (o_var 20) (o_of e_int))))))))))) q_nil))))) (w_or1 (t_tru (o_of (e_clB (cr_any rfl) r_any T.g_any (by decide +kernel) (by exact (q_cons (o_of (f_of (l_lc rfl nd (by exact (io_of (i_rng1 T.g_range (o_of (e_op op_addA r_add (o_of (e_op op_sub r_sub (o_var 4) (o_var 5))) (o_of e_int)))))) (blkOk_by (own := [("k", 20)]) (N := N_law) (sc := defScope s_law) (by decide +kernel)) (fun _ _ _ _ _ => (by exact (g_name 20 nd))) (fun _ _ _ _ _ => (by exact ts_nil)) (fun _ _ _ _ _ => (by exact (e_cmp (op_gtA (u65 hr)) r_gtA (nomark _) (o_of (e_ix (o_var 7) (o_of (e_op op_addA r_add (o_var 20) (o_var 5))))) (o_of (e_op op_addA r_add (o_of (e_ix (o_var 7) (o_var 20))) (o_var 6))))))))) q_nil))))))).pt)) (ss_one (s_ret (by exact e_bl))) ss_nil)
  (ss_cons (s_set 8 nd (by exact (e_fn D_rounds_from (hr.mono (by decide)) (by exact (a_cons (v_var 3) a_nil)))))
  (ss_cons (s_if (by exact ((w_or (t_cmp (op_neD hr.units) r_ne (nomark _) (o_of (e_fn D_cost_far (hr.mono (by decide)) (by exact (a_cons (v_var 3) (a_cons (v_of (e_op op_addA r_add (o_of (e_op op_addA r_add (o_var 8) (o_of (e_op op_mulB r_mulB (o_of e_int) (o_var 5))))) (o_var 4))) a_nil))))) (o_of (e_op op_addA r_add (o_of (e_fn D_cost_far (hr.mono (by decide)) (by exact (a_cons (v_var 3) (a_cons (v_of (e_op op_addA r_add (o_var 8) (o_var 4))) a_nil))))) (o_of (e_op op_mulB r_mulB (o_of e_int) (o_var 6)))))) (w_or1 (t_cmp (op_ltA (u65 hr)) r_ltA (nomark _) (o_of (e_fn D_amount_of (hr.mono (by decide)) (by exact (a_cons (v_var 3) (a_cons (v_of (e_fn D_cheapest (hr.mono (by decide)) (by exact (a_cons (v_var 3) (a_cons (v_var 4) a_nil))))) a_nil))))) (o_var 4)))).pt)) (ss_one (s_ret (by exact e_bl))) ss_nil)
  (ss_cons (s_asgG (by exact (e_tup (by exact (d_cons (e_fn D_floor (hr.mono (by decide)) (by exact (a_cons (v_var 3) a_nil))) (d_cons (e_ix (o_of (e_ix (o_var 3) (o_of e_int))) (o_of e_int)) d_nil))))) (by exact (g_tup rfl (gs_cons (g_name 9 nd) (gs_cons (g_name 10 nd) gs_nil)) (glen_cons (glen_cons glen_nil)))))
  (ss_cons (s_set 11 nd (by exact (e_fn D_least_over (hr.mono (by decide)) (by exact (a_cons (v_var 3) (a_cons (v_var 4) a_nil))))))
  (ss_cons (s_if (by exact ((w_and (t_cmp (op_gtA (u65 hr)) r_gtA (nomark _) (o_var 11) (o_of e_int)) (w_and1 (t_tru (o_of (e_clB (cr_any rfl) r_any T.g_any (by decide +kernel) (by exact (q_cons (o_of (f_of (l_lc rfl nd (by exact (i_seqo (o_var 9))) (blkOk_by (own := [("entry", 21)]) (N := N_law) (sc := defScope s_law) (by decide +kernel)) (fun _ _ _ _ _ => (by exact (g_name 21 nd))) (fun _ _ _ _ _ => (by exact ts_nil)) (fun _ _ _ _ _ => (by exact (e_and (by exact (e_cmp op_isnotA r_isnot (nomark _) (o_var 21) (o_of e_non))) (by exact (e_and (by exact (e_cmp (op_leA (u65 hr)) r_leA (nomark _) (o_var 21) (o_var 4))) (by exact (e_one (by exact (e_cmp (op_eqD hr.units) r_eq (nomark _) (o_of (e_op op_mulB r_mulB (o_of (e_op op_fdivW r_div (o_of (e_op op_sub r_sub (o_var 4) (o_var 21))) (o_var 10))) (o_var 10))) (o_of (e_op op_sub r_sub (o_var 4) (o_var 21))))))))))))))) q_nil))))))).pt)) (ss_one (s_ret (by exact e_bl))) ss_nil)
  (ss_cons (s_if (by exact (t_not (t_chn (op_leA (u65 hr)) r_leA (op_ltA (u65 hr)) r_ltA (o_of e_int) (o_var 11) (o_of (e_op op_addA r_add (o_var 10) (o_of (e_clB (cr_maxA rfl (u65 hr)) r_maxA T.g_max (by decide +kernel) (by exact (q_cons (o_of (e_op op_addA r_add (o_of (f_of (l_lst (by exact (d_cons e_int d_nil))))) (o_of (f_of (l_lc rfl nd (by exact (i_seqo (o_var 9))) (blkOk_by (own := [("entry", 21)]) (N := N_law) (sc := defScope s_law) (by decide +kernel)) (fun _ _ _ _ _ => (by exact (g_name 21 nd))) (fun _ _ _ _ _ => (by exact (ts_one (t_cmp op_isnotA r_isnot (nomark _) (o_var 21) (o_of e_non))))) (fun _ _ _ _ _ => (by exact (e_var 21)))))))) q_nil))))))))) (ss_one (s_ret (by exact e_bl))) ss_nil)
  (ss_cons (s_if (by exact ((w_or (t_cmp op_isA r_is (nomark _) (o_of (e_ix (o_var 9) (o_of (e_op op_sub r_sub (o_of (e_op op_addA r_add (o_var 4) (o_var 11))) (o_of (e_op op_mulB r_mulB (o_of (e_op op_fdivW r_div (o_of (e_op op_addA r_add (o_var 4) (o_var 11))) (o_var 10))) (o_var 10))))))) (o_of e_non)) (w_or1 (t_cmp (op_gtA (u65 hr)) r_gtA (nomark _) (o_of (e_ix (o_var 9) (o_of (e_op op_sub r_sub (o_of (e_op op_addA r_add (o_var 4) (o_var 11))) (o_of (e_op op_mulB r_mulB (o_of (e_op op_fdivW r_div (o_of (e_op op_addA r_add (o_var 4) (o_var 11))) (o_var 10))) (o_var 10))))))) (o_of (e_op op_addA r_add (o_var 4) (o_var 11)))))).pt)) (ss_one (s_ret (by exact e_bl))) ss_nil)
  (ss_cons (s_set 12 nd (by exact (e_clB (call_min2 rfl) r_min2 T.g_min (by decide +kernel) (by exact (q_cons (o_var 4) (q_cons (o_of e_int) q_nil))))))
  (ss_cons (s_set 13 nd (by exact (e_tup (by exact d_nil))))
  (ss_wp [14, 15] (ss_cons (s_for PassesOwn.never rfl (by exact (i_seq (e_var 3))) (by exact (g_tup rfl (gs_cons (g_name 14 nd) (gs_cons (g_name 15 nd) gs_nil)) (glen_cons (glen_cons glen_nil)))) (ss_cons (s_set 13 nd (by exact (e_op op_addA r_add (o_var 13) (o_of (e_op op_mulB r_mulB (o_of (e_tup (by exact (d_cons (e_var 14) d_nil)))) (o_of (e_clB (call_min2 rfl) r_min2 T.g_min (by decide +kernel) (by exact (q_cons (o_of e_int) (q_cons (o_of (e_op op_fdivW r_div (o_var 12) (o_var 14))) q_nil))))))))))
  (ss_wp [14, 15] ss_nil)))
  (ss_cons (s_set 16 nd (by exact (e_fn D_sum_rows (hr.mono (by decide)) (by exact (a_cons (v_var 13) (a_cons (v_var 12) a_nil))))))
  (ss_wp [17, 18] (ss_cons (s_for PassesOwn.never rfl (by exact (i_seq (e_tup (by exact (d_cons (e_var 12) (d_cons (e_op op_fdivW r_div (o_var 12) (o_of e_int)) d_nil)))))) (by exact (g_name 17 nd)) (ss_cons (s_set 18 nd (by exact (e_fn D_just_so (hr.mono (by decide)) (by exact (a_cons (v_var 13) (a_cons (v_var 17) a_nil))))))
  (ss_cons (s_if (by exact ((w_or ((w_and (t_cmp (op_eqD hr.units) r_eq (nomark _) (o_of (e_ix (o_var 18) (o_of e_int))) (o_of e_str)) (w_and1 (t_cmp (op_neD hr.units) r_ne (nomark _) (o_of (e_fn D_least_over (hr.mono (by decide)) (by exact (a_cons (v_var 3) (a_cons (v_var 17) a_nil))))) (o_of e_int)))).pt) (w_or (t_cmp (op_neD hr.units) r_ne (nomark _) (o_of (e_cmp (op_eqD hr.units) r_eq (nomark _) (o_of (e_ix (o_var 18) (o_of e_int))) (o_of e_str))) (o_of (e_cmp (op_inA (u65 hr)) r_in (by rfl) (o_var 17) (o_of (e_ix (o_of (e_fn D_sum_rows (hr.mono (by decide)) (by exact (a_cons (v_var 13) (a_cons (v_var 17) a_nil))))) (o_of (e_neg e_int))))))) (w_or1 ((w_and (t_cmp (op_eqD hr.units) r_eq (nomark _) (o_var 17) (o_var 12)) (w_and1 (t_cmp (op_neD hr.units) r_ne (nomark _) (o_of (e_cmp (op_eqD hr.units) r_eq (nomark _) (o_of (e_ix (o_var 18) (o_of e_int))) (o_of e_str))) (o_of (e_cmp (op_inA (u65 hr)) r_in (by rfl) (o_var 12) (o_of (e_ix (o_var 16) (o_of (e_neg e_int))))))))).pt)))).pt)) (ss_one (s_ret (by exact e_bl))) ss_nil)
  (ss_wp [17, 18] ss_nil))))
  (ss_cons (s_set 19 nd (by exact (e_fn D_front (hr.mono (by decide)) (by exact (a_cons (v_var 3) (a_cons (v_var 12) a_nil))))))
  (ss_cons (s_if (by exact ((w_or ((w_and (t_cmp (op_gtA (u65 hr)) r_gtA (nomark _) (o_of (e_ix (o_of (e_ix (o_var 19) (o_of e_int))) (o_of e_int))) (o_of e_int)) (w_and1 (t_cmp (op_gtA (u65 hr)) r_gtA (nomark _) (o_of (e_ix (o_of (e_ix (o_var 19) (o_of e_int))) (o_of e_int))) (o_of e_int)))).pt) (w_or1 (t_not (t_tru (o_of (e_clB (cr_all rfl) r_all T.g_all (by decide +kernel) (by exact (q_cons (o_of (f_of (l_lc rfl nd (by exact (i_seqo (o_var 19))) (blkOk_by (own := [("amount", 22), ("paid", 23)]) (N := N_law) (sc := defScope s_law) (by decide +kernel)) (fun _ _ _ _ _ => (by exact (g_tup rfl (gs_cons (g_name 22 nd) (gs_cons (g_name 23 nd) gs_nil)) (glen_cons (glen_cons glen_nil))))) (fun _ _ _ _ _ => (by exact ts_nil)) (fun _ _ _ _ _ => (by exact (e_cmp (op_eqD hr.units) r_eq (nomark _) (o_of (e_fn D_least_over (hr.mono (by decide)) (by exact (a_cons (v_var 3) (a_cons (v_var 22) a_nil))))) (o_of e_int))))))) q_nil)))))))).pt)) (ss_one (s_ret (by exact e_bl))) ss_nil)
  (ss_wp [2, 3, 4, 5, 6, 7, 8, 9, 10, 11, 12, 13, 14, 15, 16, 17, 18, 19] ss_nil))))))))))))))))))))))
  (ss_one (s_ret (by exact e_bl))))))
end Dn

set_option Elab.async false
set_option linter.all false
set_option autoImplicit false
set_option maxRecDepth 100000
set_option maxHeartbeats 4000000
namespace Dn
open PySem PySem.Spec PyProof.Rows L2
/-! ## _law_tape -/
/-! ## best_pack -/
noncomputable def p_best_pack_L1  (x : PyData) : (PyData) → M (PyData)
  | v_best => un2 x fun v_size v_price => bn (mIte (bn (lf (pyIx v_best (.int 0))) fun t4 => bn (lf (pyMulB v_price t4)) fun t6 => bn (lf (pyIx v_best (.int 1))) fun t5 => bn (lf (pyMulB t5 v_size)) fun t7 => lf (pyLtA t6 t7)) (ret (.tuple [v_size, v_price])) (ret v_best)) fun v_best_8 => ret v_best_8
theorem l_best_pack_L1 {c0 : Option Sv}  (xs : List PyData) (v_best : PyData) : forGo (gT (gCons' (gN 2) (gCons' (gN 3) gNil'))) best_pack_L1 xs [c0, some (.dat v_best), none, none] = bn (forP (p_best_pack_L1 ) xs v_best) fun s => nxD ((fun s => [c0, some (.dat s), none, none]) s) :=
  forGo_P (fun s => [c0, some (.dat s), none, none]) (p_best_pack_L1 ) (by
    rintro x v_best
    simp only [QS, QSD, QSD2, List.getElem?_cons_zero, List.getElem?_cons_succ, List.set_cons_zero, List.set_cons_succ, best_pack_L1, p_best_pack_L1]) xs v_best
noncomputable def p_best_pack (v_packs : PyData) : M PyData :=
  bn (lf (pyIx v_packs (.int 0))) fun v_best_1 => bn (lf (pySl v_packs (some 1) none)) fun t2 => bn (lf (seqO t2)) fun xs3 => bn (forP (p_best_pack_L1 ) xs3 v_best_1) fun s4 => ret s4
theorem pok_best_pack (v_packs : PyData) : callM d_best_pack [.dat v_packs] = p_best_pack v_packs := by
  rw [d_best_pack]
  refine (callM_fun ⟨rfl, rfl⟩).trans ?_
  show fnO (b_best_pack [some (.dat v_packs), none, none, none]) = _
  simp only [QS, QSD, QSD2, List.getElem?_cons_zero, List.getElem?_cons_succ, List.set_cons_zero, List.set_cons_succ, b_best_pack, p_best_pack, l_best_pack_L1]
/-! ## cost_ladder -/
noncomputable def p_cost_ladder_L1 (v_packs : PyData) (x : PyData) : (List PyData) → M (List PyData)
  | v_found => bn (lf (seqO v_packs)) fun xs3 => bn (cmpP (fun x4 => un2 x4 fun v_size v_price => bn (lf (pySub x v_size)) fun t5 => bn (lf (pyMax2 [(.int 0), t5])) fun t6 => bn (lf (pyIx (.list v_found) t6)) fun t7 => lf (pyAdd t7 v_price)) xs3) fun l8 => bn (lf (pyMinA [(.list l8)])) fun t9 => bn (lf (appO v_found t9)) fun v_found_10 => ret v_found_10
theorem l_cost_ladder_L1 {c1 c4 c5 : Option Sv} (v_packs : PyData) (xs : List PyData) (v_found : List PyData) : forGo (gN 3) cost_ladder_L1 xs [some (.dat v_packs), c1, some (.own v_found), none, c4, c5] = bn (forP (p_cost_ladder_L1 v_packs) xs v_found) fun s => nxD ((fun s => [some (.dat v_packs), c1, some (.own s), none, c4, c5]) s) :=
  forGo_P (fun s => [some (.dat v_packs), c1, some (.own s), none, c4, c5]) (p_cost_ladder_L1 v_packs) (by
    rintro x v_found
    simp only [QS, QSD, QSD2, List.getElem?_cons_zero, List.getElem?_cons_succ, List.set_cons_zero, List.set_cons_succ, cost_ladder_L1, p_cost_ladder_L1]) xs v_found
noncomputable def p_cost_ladder (v_packs v_s : PyData) : M PyData :=
  bn (lf (pyAdd v_s (.int 1))) fun t1 => bn (lf (rng2O (.int 1) t1)) fun xs2 => bn (forP (p_cost_ladder_L1 v_packs) xs2 [(.int 0)]) fun s3 => lf (pyTuple [(.list s3)])
theorem pok_cost_ladder (v_packs v_s : PyData) : callM d_cost_ladder [.dat v_packs, .dat v_s] = p_cost_ladder v_packs v_s := by
  rw [d_cost_ladder]
  refine (callM_fun ⟨rfl, rfl⟩).trans ?_
  show fnO (b_cost_ladder [some (.dat v_packs), some (.dat v_s), none, none, none, none]) = _
  simp only [QS, QSD, QSD2, List.getElem?_cons_zero, List.getElem?_cons_succ, List.set_cons_zero, List.set_cons_succ, b_cost_ladder, p_cost_ladder, l_cost_ladder_L1]
/-! ## turning_point -/
noncomputable def p_turning_point (v_packs : PyData) : M PyData :=
  bn (p_best_pack v_packs) fun t1 => bn (lf (pyIx t1 (.int 0))) fun t2 => bn (lf (pySub t2 (.int 1))) fun t5 => bn (lf (negO (.int 1))) fun t3 => bn (lf (pyIx v_packs t3)) fun t4 => bn (lf (pyIx t4 (.int 0))) fun t6 => lf (pyMulB t5 t6)
theorem pok_turning_point (v_packs : PyData) : callM d_turning_point [.dat v_packs] = p_turning_point v_packs := by
  rw [d_turning_point]
  refine (callM_fun ⟨rfl, rfl⟩).trans ?_
  show fnO (b_turning_point [some (.dat v_packs)]) = _
  simp only [QS, QSD, QSD2, List.getElem?_cons_zero, List.getElem?_cons_succ, List.set_cons_zero, List.set_cons_succ, b_turning_point, p_turning_point, pok_best_pack]
/-! ## rounds_from -/
noncomputable def p_rounds_from_W1T (v_size : PyData) (v_price : PyData) (v_costs : PyData) : (PyData) → M Bool
  | v_found => mAnd (lf (pyGtA v_found (.int 0))) (bn (lf (pySub v_found (.int 1))) fun t7 => bn (lf (pyAdd t7 v_size)) fun t8 => bn (lf (pyIx v_costs t8)) fun t11 => bn (lf (pySub v_found (.int 1))) fun t9 => bn (lf (pyIx v_costs t9)) fun t10 => bn (lf (pyAdd t10 v_price)) fun t12 => lf (pyEq t11 t12))
noncomputable def p_rounds_from_W1 (v_size : PyData) (v_price : PyData) (v_costs : PyData) : (PyData) → M (Lo (PyData))
  | v_found => bn (lf (augO (fun i j => i - j) v_found (.int 1))) fun v_found_6 => ret (.nx v_found_6)
theorem l_rounds_from_W1 {c0 c3 : Option Sv} (v_size : PyData) (v_price : PyData) (v_costs : PyData) (v_found : PyData) : dWhile (dAndT (dTst pyGtA (dVarO 5) (dC (.int 0))) (dTst pyEq (dOp pyIx (dVarO 4) (dOp pyAdd (dOp pySub (dVarO 5) (dC (.int 1))) (dVarO 1))) (dOp pyAdd (dOp pyIx (dVarO 4) (dOp pySub (dVarO 5) (dC (.int 1)))) (dVarO 2)))) rounds_from_W1 [c0, some (.dat v_size), some (.dat v_price), c3, some (.dat v_costs), some (.dat v_found)] = bR (whP (p_rounds_from_W1T v_size v_price v_costs) (p_rounds_from_W1 v_size v_price v_costs) v_found) (fun s => nxD ((fun s => [c0, some (.dat v_size), some (.dat v_price), c3, some (.dat v_costs), some (.dat s)]) s)) retD :=
  dWhile_P (fun s => [c0, some (.dat v_size), some (.dat v_price), c3, some (.dat v_costs), some (.dat s)]) (p_rounds_from_W1T v_size v_price v_costs) (p_rounds_from_W1 v_size v_price v_costs) (by
    rintro v_found
    simp only [QS, QSD, QSD2, List.getElem?_cons_zero, List.getElem?_cons_succ, List.set_cons_zero, List.set_cons_succ, rounds_from_W1, p_rounds_from_W1, p_rounds_from_W1T, pok_best_pack, pok_turning_point, pok_cost_ladder]) (by
    rintro v_found
    simp only [QS, QSD, QSD2, List.getElem?_cons_zero, List.getElem?_cons_succ, List.set_cons_zero, List.set_cons_succ, rounds_from_W1, p_rounds_from_W1, p_rounds_from_W1T, pok_best_pack, pok_turning_point, pok_cost_ladder]) v_found
noncomputable def p_rounds_from (v_packs : PyData) : M PyData :=
  bn (p_best_pack v_packs) fun t1 => un2 t1 fun v_size v_price => bn (p_turning_point v_packs) fun v_edge_2 => bn (lf (pyAdd v_edge_2 v_size)) fun t3 => bn (p_cost_ladder v_packs t3) fun v_costs_4 => bn (lf (pyAdd v_edge_2 (.int 1))) fun v_found_5 => bR (whP (p_rounds_from_W1T v_size v_price v_costs_4) (p_rounds_from_W1 v_size v_price v_costs_4) v_found_5) (fun s6 => ret s6) (fun r => ret r)
theorem pok_rounds_from (v_packs : PyData) : callM d_rounds_from [.dat v_packs] = p_rounds_from v_packs := by
  rw [d_rounds_from]
  refine (callM_fun ⟨rfl, rfl⟩).trans ?_
  show fnO (b_rounds_from [some (.dat v_packs), none, none, none, none, none]) = _
  simp only [QS, QSD, QSD2, List.getElem?_cons_zero, List.getElem?_cons_succ, List.set_cons_zero, List.set_cons_succ, b_rounds_from, p_rounds_from, pok_best_pack, pok_turning_point, pok_cost_ladder, l_rounds_from_W1]
/-! ## floor -/
noncomputable def p_floor_L1 (v_m : PyData) (v_size : PyData) (x : PyData) : (List PyData × PyData) → M (List PyData × PyData)
  | (v_found, v_changed) => bn (mIte (bn (lf (pyIx (.list v_found) x)) fun t8 => lf (pyIsNot t8 .none)) (bn (lf (pyIx (.list v_found) x)) fun t9 => bn (lf (pyAdd t9 v_size)) fun v_amount_10 => bn (mIte (mOr (bn (lf (pyMod v_amount_10 v_m)) fun t11 => bn (lf (pyIx (.list v_found) t11)) fun t12 => lf (pyIs t12 .none)) (bn (lf (pyMod v_amount_10 v_m)) fun t13 => bn (lf (pyIx (.list v_found) t13)) fun t14 => lf (pyGtA t14 v_amount_10))) (bn (lf (pyMod v_amount_10 v_m)) fun t15 => bn (lf (setO v_found t15 v_amount_10)) fun v_found_16 => ret (v_found_16, (.bool true))) (ret (v_found, v_changed))) fun w17 => ret (w17.1, w17.2)) (ret (v_found, v_changed))) fun w18 => ret (w18.1, w18.2)
theorem l_floor_L1 {c0 c4 : Option Sv} (v_m : PyData) (v_size : PyData) (xs : List PyData) (v_found : List PyData) (v_changed : PyData) : forGo (gN 6) floor_L1 xs [c0, some (.dat v_m), some (.own v_found), some (.dat v_size), c4, some (.dat v_changed), none, none] = bn (forP (p_floor_L1 v_m v_size) xs (v_found, v_changed)) fun s => nxD ((fun s => [c0, some (.dat v_m), some (.own s.1), some (.dat v_size), c4, some (.dat s.2), none, none]) s) :=
  forGo_P (fun s => [c0, some (.dat v_m), some (.own s.1), some (.dat v_size), c4, some (.dat s.2), none, none]) (p_floor_L1 v_m v_size) (by
    rintro x ⟨v_found, v_changed⟩
    simp only [QS, QSD, QSD2, List.getElem?_cons_zero, List.getElem?_cons_succ, List.set_cons_zero, List.set_cons_succ, floor_L1, p_floor_L1]) xs (v_found, v_changed)
noncomputable def p_floor_W2T (v_m : PyData) (v_size : PyData) : (List PyData × PyData) → M Bool
  | (v_found, v_changed) => lf (truD v_changed)
noncomputable def p_floor_W2 (v_m : PyData) (v_size : PyData) : (List PyData × PyData) → M (Lo (List PyData × PyData))
  | (v_found, v_changed) => bn (lf (rng1O v_m)) fun xs7 => bn (forP (p_floor_L1 v_m v_size) xs7 (v_found, (.bool false))) fun s8 => ret (.nx (s8.1, s8.2))
theorem l_floor_W2 {c0 c4 : Option Sv} (v_m : PyData) (v_size : PyData) (v_found : List PyData) (v_changed : PyData) : dWhile (dTru (dVarO 5)) floor_W2 [c0, some (.dat v_m), some (.own v_found), some (.dat v_size), c4, some (.dat v_changed), none, none] = bR (whP (p_floor_W2T v_m v_size) (p_floor_W2 v_m v_size) (v_found, v_changed)) (fun s => nxD ((fun s => [c0, some (.dat v_m), some (.own s.1), some (.dat v_size), c4, some (.dat s.2), none, none]) s)) retD :=
  dWhile_P (fun s => [c0, some (.dat v_m), some (.own s.1), some (.dat v_size), c4, some (.dat s.2), none, none]) (p_floor_W2T v_m v_size) (p_floor_W2 v_m v_size) (by
    rintro ⟨v_found, v_changed⟩
    simp only [QS, QSD, QSD2, List.getElem?_cons_zero, List.getElem?_cons_succ, List.set_cons_zero, List.set_cons_succ, floor_W2, p_floor_W2, p_floor_W2T, l_floor_L1]) (by
    rintro ⟨v_found, v_changed⟩
    simp only [QS, QSD, QSD2, List.getElem?_cons_zero, List.getElem?_cons_succ, List.set_cons_zero, List.set_cons_succ, floor_W2, p_floor_W2, p_floor_W2T, l_floor_L1]) (v_found, v_changed)
noncomputable def p_floor_L3 (v_m : PyData) (x : PyData) : (List PyData) → M (Lo (List PyData))
  | v_found => un2 x fun v_size v__ => bR (whP (p_floor_W2T v_m v_size) (p_floor_W2 v_m v_size) (v_found, (.bool true))) (fun s7 => ret (.nx s7.1)) (fun r => ret (.rt r))
theorem l_floor_L3 {c0 : Option Sv} (v_m : PyData) (xs : List PyData) (v_found : List PyData) : forGo (gT (gCons' (gN 3) (gCons' (gN 4) gNil'))) floor_L3 xs [c0, some (.dat v_m), some (.own v_found), none, none, none, none, none] = bR (forL (p_floor_L3 v_m) xs v_found) (fun s => nxD ((fun s => [c0, some (.dat v_m), some (.own s), none, none, none, none, none]) s)) retD :=
  forGo_L (fun s => [c0, some (.dat v_m), some (.own s), none, none, none, none, none]) (p_floor_L3 v_m) (by
    rintro x v_found
    simp only [QS, QSD, QSD2, List.getElem?_cons_zero, List.getElem?_cons_succ, List.set_cons_zero, List.set_cons_succ, floor_L3, p_floor_L3, l_floor_L1, l_floor_W2]) xs v_found
noncomputable def p_floor (v_packs : PyData) : M PyData :=
  bn (lf (pyIx v_packs (.int 0))) fun t1 => bn (lf (pyIx t1 (.int 0))) fun v_m_2 => bn (lf (mulLO (.list [.none]) v_m_2)) fun v_found_3 => bn (lf (setO v_found_3 (.int 0) (.int 0))) fun v_found_4 => bn (lf (pySl v_packs (some 1) none)) fun t5 => bn (lf (seqO t5)) fun xs6 => bR (forL (p_floor_L3 v_m_2) xs6 v_found_4) (fun s7 => lf (pyTuple [(.list s7)])) (fun r => ret r)
theorem pok_floor (v_packs : PyData) : callM d_floor [.dat v_packs] = p_floor v_packs := by
  rw [d_floor]
  refine (callM_fun ⟨rfl, rfl⟩).trans ?_
  show fnO (b_floor [some (.dat v_packs), none, none, none, none, none, none, none]) = _
  simp only [QS, QSD, QSD2, List.getElem?_cons_zero, List.getElem?_cons_succ, List.set_cons_zero, List.set_cons_succ, b_floor, p_floor, l_floor_L1, l_floor_W2, l_floor_L3]
/-! ## least_over -/
noncomputable def p_least_over_L1 (v_s : PyData) (v_m : PyData) (x : PyData) : (List PyData) → M (List PyData)
  | v_rows => bn (mIte (lf (pyIsNot x .none)) (bn (mIteV (lf (pyGeA x v_s)) (lf (pySub x v_s)) (bn (lf (pySub x v_s)) fun t5 => lf (pyMod t5 v_m))) fun t6 => bn (lf (appO v_rows t6)) fun v_rows_7 => ret v_rows_7) (ret v_rows)) fun v_rows_8 => ret v_rows_8
theorem l_least_over_L1 {c0 : Option Sv} (v_s : PyData) (v_m : PyData) (xs : List PyData) (v_rows : List PyData) : forGo (gN 4) least_over_L1 xs [c0, some (.dat v_s), some (.dat v_m), some (.own v_rows), none] = bn (forP (p_least_over_L1 v_s v_m) xs v_rows) fun s => nxD ((fun s => [c0, some (.dat v_s), some (.dat v_m), some (.own s), none]) s) :=
  forGo_P (fun s => [c0, some (.dat v_s), some (.dat v_m), some (.own s), none]) (p_least_over_L1 v_s v_m) (by
    rintro x v_rows
    simp only [QS, QSD, QSD2, List.getElem?_cons_zero, List.getElem?_cons_succ, List.set_cons_zero, List.set_cons_succ, least_over_L1, p_least_over_L1, pok_floor]) xs v_rows
noncomputable def p_least_over (v_packs v_s : PyData) : M PyData :=
  bn (lf (pyIx v_packs (.int 0))) fun t1 => bn (lf (pyIx t1 (.int 0))) fun v_m_2 => bn (p_floor v_packs) fun t3 => bn (lf (seqO t3)) fun xs4 => bn (forP (p_least_over_L1 v_s v_m_2) xs4 []) fun s5 => lf (pyMinA [(.list s5)])
theorem pok_least_over (v_packs v_s : PyData) : callM d_least_over [.dat v_packs, .dat v_s] = p_least_over v_packs v_s := by
  rw [d_least_over]
  refine (callM_fun ⟨rfl, rfl⟩).trans ?_
  show fnO (b_least_over [some (.dat v_packs), some (.dat v_s), none, none, none]) = _
  simp only [QS, QSD, QSD2, List.getElem?_cons_zero, List.getElem?_cons_succ, List.set_cons_zero, List.set_cons_succ, b_least_over, p_least_over, pok_floor, l_least_over_L1]
/-! ## next_sums -/
noncomputable def p_next_sums (v_row v_piece v_b : PyData) : M PyData :=
  bn (lf (pyList [v_row])) fun l1 => bn (lf (seqO v_row)) fun xs2 => bn (cmpF (fun x3 => mFil (bn (lf (pyAdd x3 v_piece)) fun t4 => lf (pyLeA t4 v_b)) (lf (pyAdd x3 v_piece))) xs2) fun l5 => bn (lf (pyAdd (.list l1) (.list l5))) fun t6 => bn (lf (srtSetAO t6)) fun l7 => lf (pyTuple [(.list l7)])
theorem pok_next_sums (v_row v_piece v_b : PyData) : callM d_next_sums [.dat v_row, .dat v_piece, .dat v_b] = p_next_sums v_row v_piece v_b := by
  rw [d_next_sums]
  refine (callM_fun ⟨rfl, rfl⟩).trans ?_
  show fnO (b_next_sums [some (.dat v_row), some (.dat v_piece), some (.dat v_b), none]) = _
  simp only [QS, QSD, QSD2, List.getElem?_cons_zero, List.getElem?_cons_succ, List.set_cons_zero, List.set_cons_succ, b_next_sums, p_next_sums]
/-! ## sum_rows -/
noncomputable def p_sum_rows_L1 (v_b : PyData) (x : PyData) : (List PyData) → M (List PyData)
  | v_found => bn (lf (negO (.int 1))) fun t2 => bn (lf (pyIx (.list v_found) t2)) fun t3 => bn (p_next_sums t3 x v_b) fun t4 => bn (lf (appO v_found t4)) fun v_found_5 => ret v_found_5
theorem l_sum_rows_L1 {c0 : Option Sv} (v_b : PyData) (xs : List PyData) (v_found : List PyData) : forGo (gN 3) sum_rows_L1 xs [c0, some (.dat v_b), some (.own v_found), none] = bn (forP (p_sum_rows_L1 v_b) xs v_found) fun s => nxD ((fun s => [c0, some (.dat v_b), some (.own s), none]) s) :=
  forGo_P (fun s => [c0, some (.dat v_b), some (.own s), none]) (p_sum_rows_L1 v_b) (by
    rintro x v_found
    simp only [QS, QSD, QSD2, List.getElem?_cons_zero, List.getElem?_cons_succ, List.set_cons_zero, List.set_cons_succ, sum_rows_L1, p_sum_rows_L1, pok_next_sums]) xs v_found
noncomputable def p_sum_rows (v_pieces v_b : PyData) : M PyData :=
  bn (lf (seqO v_pieces)) fun xs1 => bn (forP (p_sum_rows_L1 v_b) xs1 [(.tuple [(.int 0)])]) fun s2 => lf (pyTuple [(.list s2)])
theorem pok_sum_rows (v_pieces v_b : PyData) : callM d_sum_rows [.dat v_pieces, .dat v_b] = p_sum_rows v_pieces v_b := by
  rw [d_sum_rows]
  refine (callM_fun ⟨rfl, rfl⟩).trans ?_
  show fnO (b_sum_rows [some (.dat v_pieces), some (.dat v_b), none, none]) = _
  simp only [QS, QSD, QSD2, List.getElem?_cons_zero, List.getElem?_cons_succ, List.set_cons_zero, List.set_cons_succ, b_sum_rows, p_sum_rows, pok_next_sums, l_sum_rows_L1]
/-! ## least_prices -/
noncomputable def p_least_prices_L1 (v_packs : PyData) (x : PyData) : (List PyData) → M (List PyData)
  | v_found => bn (lf (seqO v_packs)) fun xs5 => bn (cmpF (fun x6 => un2 x6 fun v_size v_price => mFil (mAnd (lf (pyLeA v_size x)) (bn (lf (pySub x v_size)) fun t7 => bn (lf (pyIx (.list v_found) t7)) fun t8 => lf (pyIsNot t8 .none))) (bn (lf (pySub x v_size)) fun t9 => bn (lf (pyIx (.list v_found) t9)) fun t10 => lf (pyAdd t10 v_price))) xs5) fun v_rows_11 => bn (mIteV (lf (truD (.list v_rows_11))) (lf (pyMinA [(.list v_rows_11)])) (ret .none)) fun t12 => bn (lf (setO v_found x t12)) fun v_found_13 => ret v_found_13
theorem l_least_prices_L1 {c1 c5 c6 : Option Sv} (v_packs : PyData) (xs : List PyData) (v_found : List PyData) : forGo (gN 3) least_prices_L1 xs [some (.dat v_packs), c1, some (.own v_found), none, none, c5, c6] = bn (forP (p_least_prices_L1 v_packs) xs v_found) fun s => nxD ((fun s => [some (.dat v_packs), c1, some (.own s), none, none, c5, c6]) s) :=
  forGo_P (fun s => [some (.dat v_packs), c1, some (.own s), none, none, c5, c6]) (p_least_prices_L1 v_packs) (by
    rintro x v_found
    simp only [QS, QSD, QSD2, List.getElem?_cons_zero, List.getElem?_cons_succ, List.set_cons_zero, List.set_cons_succ, least_prices_L1, p_least_prices_L1]) xs v_found
noncomputable def p_least_prices (v_packs v_b : PyData) : M PyData :=
  bn (lf (pyMulB (.list [.none]) v_b)) fun t1 => bn (lf (addLO (.list [(.int 0)]) t1)) fun v_found_2 => bn (lf (pyAdd v_b (.int 1))) fun t3 => bn (lf (rng2O (.int 1) t3)) fun xs4 => bn (forP (p_least_prices_L1 v_packs) xs4 v_found_2) fun s5 => ret (.list s5)
theorem pok_least_prices (v_packs v_b : PyData) : callM d_least_prices [.dat v_packs, .dat v_b] = p_least_prices v_packs v_b := by
  rw [d_least_prices]
  refine (callM_fun ⟨rfl, rfl⟩).trans ?_
  show fnO (b_least_prices [some (.dat v_packs), some (.dat v_b), none, none, none, none, none]) = _
  simp only [QS, QSD, QSD2, List.getElem?_cons_zero, List.getElem?_cons_succ, List.set_cons_zero, List.set_cons_succ, b_least_prices, p_least_prices, l_least_prices_L1]
/-! ## front -/
noncomputable def p_front_L1  (x : PyData) : (List PyData × PyData) → M (List PyData × PyData)
  | (v_found, v_least) => un2 x fun v_amount v_price => bn (mIte (mAnd (lf (pyIsNot v_price .none)) (mOr (lf (pyIs v_least .none)) (lf (pyLtA v_price v_least)))) (bn (lf (appO v_found (.tuple [v_amount, v_price]))) fun v_found_4 => ret (v_found_4, v_price)) (ret (v_found, v_least))) fun w5 => ret (w5.1, w5.2)
theorem l_front_L1 {c0 c1 : Option Sv}  (xs : List PyData) (v_found : List PyData) (v_least : PyData) : forGo (gT (gCons' (gN 4) (gCons' (gN 5) gNil'))) front_L1 xs [c0, c1, some (.own v_found), some (.dat v_least), none, none] = bn (forP (p_front_L1 ) xs (v_found, v_least)) fun s => nxD ((fun s => [c0, c1, some (.own s.1), some (.dat s.2), none, none]) s) :=
  forGo_P (fun s => [c0, c1, some (.own s.1), some (.dat s.2), none, none]) (p_front_L1 ) (by
    rintro x ⟨v_found, v_least⟩
    simp only [QS, QSD, QSD2, List.getElem?_cons_zero, List.getElem?_cons_succ, List.set_cons_zero, List.set_cons_succ, front_L1, p_front_L1, pok_least_prices]) xs (v_found, v_least)
noncomputable def p_front (v_packs v_b : PyData) : M PyData :=
  bn (p_least_prices v_packs v_b) fun t1 => bn (lf (seqO t1)) fun xs2 => bn (lf (lstEnO xs2)) fun l3 => bn (forP (p_front_L1 ) (l3.reverse) ([], .none)) fun s4 => lf (tupRevO (.list s4.1))
theorem pok_front (v_packs v_b : PyData) : callM d_front [.dat v_packs, .dat v_b] = p_front v_packs v_b := by
  rw [d_front]
  refine (callM_fun ⟨rfl, rfl⟩).trans ?_
  show fnO (b_front [some (.dat v_packs), some (.dat v_b), none, none, none, none]) = _
  simp only [QS, QSD, QSD2, List.getElem?_cons_zero, List.getElem?_cons_succ, List.set_cons_zero, List.set_cons_succ, b_front, p_front, pok_least_prices, l_front_L1]
/-! ## _law_mix -/
/-! ## _law_take -/
noncomputable def p_law_take (v_many : PyData) : M PyData := callM d_law_take [.box, .dat v_many]
theorem pok_law_take (v_many : PyData) : callM d_law_take [.box, .dat v_many] = p_law_take v_many := id rfl
/-! ## _law_packs -/
noncomputable def p_law_packs_L1 (v_most : PyData) (x : PyData) : (KvD) → M (KvD)
  | v_found => bn (p_law_take (.int 3)) fun t4 => bn (lf (pyIx (.list [(.int 4), (.int 30), (.int 1001)]) t4)) fun t5 => bn (p_law_take t5) fun t7 => bn (p_law_take v_most) fun t6 => bn (lf (pyAdd (.int 1) t6)) fun t8 => bn (lf (putDO v_found t8 t7)) fun v_found_9 => ret v_found_9
theorem l_law_packs_L1 {c1 : Option Sv} (v_most : PyData) (xs : List PyData) (v_found : KvD) : forGo (gN 4) law_packs_L1 xs [some .box, c1, some (.dat v_most), some (.dic v_found), none] = bn (forP (p_law_packs_L1 v_most) xs v_found) fun s => nxD ((fun s => [some .box, c1, some (.dat v_most), some (.dic s), none]) s) :=
  forGo_P (fun s => [some .box, c1, some (.dat v_most), some (.dic s), none]) (p_law_packs_L1 v_most) (by
    rintro x v_found
    simp only [QS, QSD, QSD2, List.getElem?_cons_zero, List.getElem?_cons_succ, List.set_cons_zero, List.set_cons_succ, law_packs_L1, p_law_packs_L1, pok_law_take]) xs v_found
noncomputable def p_law_packs (v_many v_most : PyData) : M PyData :=
  bn (p_law_take v_many) fun t1 => bn (lf (pyAdd (.int 1) t1)) fun t2 => bn (lf (rng1O t2)) fun xs3 => bn (forP (p_law_packs_L1 v_most) xs3 []) fun s4 => bn (lf (srtItO s4)) fun l5 => lf (pyTuple [(.list l5)])
theorem pok_law_packs (v_many v_most : PyData) : callM d_law_packs [.box, .dat v_many, .dat v_most] = p_law_packs v_many v_most := by
  rw [d_law_packs]
  refine (callM_fun ⟨rfl, rfl⟩).trans ?_
  show fnO (b_law_packs [some .box, some (.dat v_many), some (.dat v_most), none, none]) = _
  simp only [QS, QSD, QSD2, List.getElem?_cons_zero, List.getElem?_cons_succ, List.set_cons_zero, List.set_cons_succ, b_law_packs, p_law_packs, pok_law_take, l_law_packs_L1]
/-! ## first_pieces -/
noncomputable def p_first_pieces_R1 (pr : PyData → PyData → PyData → M PyData)  : M (Lo (Unit)) :=
  ret (.nx ())
noncomputable def p_first_pieces_L1 (pr : PyData → PyData → PyData → M PyData) (v_pieces : PyData) (v_goal : PyData) (x : PyData) : (Unit) → M (Lo (Unit))
  | _ => mIte (mAnd (bn (lf (partO x)) fun i3 => bn (lf (pySl v_pieces i3 none)) fun t4 => bn (p_sum_rows t4 v_goal) fun t5 => bn (lf (negO (.int 1))) fun t6 => bn (lf (pyIx t5 t6)) fun t7 => lf (pyIn v_goal t7)) (bn (lf (pyIx v_pieces x)) fun t8 => lf (pyLeA t8 v_goal))) (bn (lf (pyIx v_pieces x)) fun t9 => bn (lf (pySub v_goal t9)) fun t10 => bn (lf (pyAdd x (.int 1))) fun t11 => bn (pr v_pieces t10 t11) fun v_rest_12 => mIte (lf (pyIsNot v_rest_12 .none)) (bn (lf (pyAdd (.tuple [x]) v_rest_12)) fun r13 => ret (.rt r13)) (p_first_pieces_R1 pr )) (p_first_pieces_R1 pr )
theorem l_first_pieces_L1 {c2 : Option Sv} {r : FD} {pr : PyData → PyData → PyData → M PyData} (hr : ∀ a0 a1 a2, callM r [.dat a0, .dat a1, .dat a2] = pr a0 a1 a2) (v_pieces : PyData) (v_goal : PyData) (xs : List PyData)  : forGo (gN 3) (first_pieces_L1 r) xs [some (.dat v_pieces), some (.dat v_goal), c2, none, none] = bR (forL (p_first_pieces_L1 pr v_pieces v_goal) xs ()) (fun s => nxD ((fun (s : Unit) => [some (.dat v_pieces), some (.dat v_goal), c2, none, none]) s)) retD :=
  forGo_L (fun (s : Unit) => [some (.dat v_pieces), some (.dat v_goal), c2, none, none]) (p_first_pieces_L1 pr v_pieces v_goal) (by
    rintro x s
    simp only [QS, QSD, QSD2, List.getElem?_cons_zero, List.getElem?_cons_succ, List.set_cons_zero, List.set_cons_succ, first_pieces_L1, p_first_pieces_L1, p_first_pieces_R1, pok_sum_rows, hr]) xs ()
noncomputable def p_first_pieces : Nat → PyData → PyData → PyData → M PyData
  | 0 => fun _ _ _ => fl
  | k + 1 => fun v_pieces v_goal v_start => (fun (pr : PyData → PyData → PyData → M PyData) => mIte (lf (pyEq v_goal (.int 0))) (ret (.tuple [])) (bn (lf (pyLen [v_pieces])) fun t1 => bn (lf (rng2O v_start t1)) fun xs2 => bR (forL (p_first_pieces_L1 pr v_pieces v_goal) xs2 ()) (fun s3 => ret .none) (fun r => ret r))) (p_first_pieces k)
theorem pok_first_pieces : ∀ (k : Nat) (v_pieces v_goal v_start : PyData), callM (d_first_pieces k) [.dat v_pieces, .dat v_goal, .dat v_start] = p_first_pieces k v_pieces v_goal v_start
  | 0, _, _, _ => id rfl
  | k + 1, v_pieces, v_goal, v_start => by
    have hr := pok_first_pieces k
    rw [d_first_pieces]
    refine (callM_fun ⟨rfl, rfl⟩).trans ?_
    show fnO (b_first_pieces (d_first_pieces k) [some (.dat v_pieces), some (.dat v_goal), some (.dat v_start), none, none]) = _
    simp only [QS, QSD, QSD2, List.getElem?_cons_zero, List.getElem?_cons_succ, List.set_cons_zero, List.set_cons_succ, b_first_pieces, p_first_pieces, p_first_pieces_R1, pok_sum_rows, hr, l_first_pieces_L1 hr]
/-! ## just_so -/
noncomputable def p_just_so (v_pieces v_b : PyData) : M PyData :=
  bn (p_sum_rows v_pieces v_b) fun v_rows_1 => mIte (bn (lf (negO (.int 1))) fun t2 => bn (lf (pyIx v_rows_1 t2)) fun t3 => lf (pyIn v_b t3)) (bn (p_first_pieces 14 v_pieces v_b (.int 0)) fun t4 => ret (.tuple [(.str (PySem.Str.ofString "pieces")), t4])) (ret (.tuple [(.str (PySem.Str.ofString "sums")), v_rows_1]))
theorem pok_just_so (v_pieces v_b : PyData) : callM d_just_so [.dat v_pieces, .dat v_b] = p_just_so v_pieces v_b := by
  rw [d_just_so]
  refine (callM_fun ⟨rfl, rfl⟩).trans ?_
  show fnO (b_just_so [some (.dat v_pieces), some (.dat v_b), none]) = _
  simp only [QS, QSD, QSD2, List.getElem?_cons_zero, List.getElem?_cons_succ, List.set_cons_zero, List.set_cons_succ, b_just_so, p_just_so, pok_sum_rows, pok_first_pieces]
/-! ## cost_far -/
noncomputable def p_cost_far (v_packs v_s : PyData) : M PyData :=
  bn (p_best_pack v_packs) fun t1 => un2 t1 fun v_size v_price => bn (p_turning_point v_packs) fun t2 => bn (lf (pyAdd t2 v_size)) fun v_edge_3 => bn (mIte (lf (pyGtA v_s v_edge_3)) (bn (lf (pySub v_s v_edge_3)) fun t4 => bn (lf (pyAdd t4 v_size)) fun t5 => bn (lf (pySub t5 (.int 1))) fun t6 => bn (lf (pyDiv t6 v_size)) fun v_more_7 => ret v_more_7) (ret (.int 0))) fun v_more_8 => bn (lf (pyMulB v_more_8 v_size)) fun t9 => bn (lf (pySub v_s t9)) fun t10 => bn (p_cost_ladder v_packs t10) fun t11 => bn (lf (negO (.int 1))) fun t12 => bn (lf (pyIx t11 t12)) fun t13 => bn (lf (pyMulB v_more_8 v_price)) fun t14 => lf (pyAdd t13 t14)
theorem pok_cost_far (v_packs v_s : PyData) : callM d_cost_far [.dat v_packs, .dat v_s] = p_cost_far v_packs v_s := by
  rw [d_cost_far]
  refine (callM_fun ⟨rfl, rfl⟩).trans ?_
  show fnO (b_cost_far [some (.dat v_packs), some (.dat v_s), none, none, none, none]) = _
  simp only [QS, QSD, QSD2, List.getElem?_cons_zero, List.getElem?_cons_succ, List.set_cons_zero, List.set_cons_succ, b_cost_far, p_cost_far, pok_best_pack, pok_turning_point, pok_cost_ladder]
/-! ## amount_of -/
noncomputable def p_amount_of (v_packs v_purchase : PyData) : M PyData :=
  bn (lf (seqO v_purchase)) fun xs1 => bn (lf (seqO v_packs)) fun xs2 => bn (cmpP (fun x3 => un2 x3 fun v_n u4 => un2 u4 fun v_size v__ => lf (pyMulB v_n v_size)) (zipD xs1 xs2)) fun l5 => lf (pySumA [(.list l5)])
theorem pok_amount_of (v_packs v_purchase : PyData) : callM d_amount_of [.dat v_packs, .dat v_purchase] = p_amount_of v_packs v_purchase := by
  rw [d_amount_of]
  refine (callM_fun ⟨rfl, rfl⟩).trans ?_
  show fnO (b_amount_of [some (.dat v_packs), some (.dat v_purchase), none, none, none]) = _
  simp only [QS, QSD, QSD2, List.getElem?_cons_zero, List.getElem?_cons_succ, List.set_cons_zero, List.set_cons_succ, b_amount_of, p_amount_of]
/-! ## cheapest -/
noncomputable def p_cheapest_W1T (v_packs : PyData) (v_costs : PyData) : (PyData × List PyData) → M Bool
  | (v_s, v_found) => lf (pyGtA v_s (.int 0))
noncomputable def p_cheapest_W1 (v_packs : PyData) (v_costs : PyData) : (PyData × List PyData) → M (Lo (PyData × List PyData))
  | (v_s, v_found) => bn (lf (seqO v_packs)) fun xs4 => bn (cmpF (fun x5 => un2 x5 fun v_i u6 => un2 u6 fun v_size v_price => mFil (bn (lf (pySub v_s v_size)) fun t7 => bn (lf (pyMax2 [(.int 0), t7])) fun t8 => bn (lf (pyIx v_costs t8)) fun t9 => bn (lf (pyAdd t9 v_price)) fun t10 => bn (lf (pyIx v_costs v_s)) fun t11 => lf (pyEq t10 t11)) (ret v_i)) (enumD 0 xs4)) fun l12 => bn (lf (pyIx (.list l12) (.int 0))) fun v_k_13 => bn (lf (pyIx (.list v_found) v_k_13)) fun t14 => bn (lf (augO (fun i j => i + j) t14 (.int 1))) fun t15 => bn (lf (setO v_found v_k_13 t15)) fun v_found_16 => bn (lf (pyIx v_packs v_k_13)) fun t17 => bn (lf (pyIx t17 (.int 0))) fun t18 => bn (lf (pySub v_s t18)) fun t19 => bn (lf (pyMax2 [(.int 0), t19])) fun v_s_20 => ret (.nx (v_s_20, v_found_16))
theorem l_cheapest_W1 {c5 c6 c7 : Option Sv} (v_packs : PyData) (v_costs : PyData) (v_s : PyData) (v_found : List PyData) : dWhile (dTst pyGtA (dVarO 1) (dC (.int 0))) cheapest_W1 [some (.dat v_packs), some (.dat v_s), some (.dat v_costs), some (.own v_found), none, c5, c6, c7] = bR (whP (p_cheapest_W1T v_packs v_costs) (p_cheapest_W1 v_packs v_costs) (v_s, v_found)) (fun s => nxD ((fun s => [some (.dat v_packs), some (.dat s.1), some (.dat v_costs), some (.own s.2), none, c5, c6, c7]) s)) retD :=
  dWhile_P (fun s => [some (.dat v_packs), some (.dat s.1), some (.dat v_costs), some (.own s.2), none, c5, c6, c7]) (p_cheapest_W1T v_packs v_costs) (p_cheapest_W1 v_packs v_costs) (by
    rintro ⟨v_s, v_found⟩
    simp only [QS, QSD, QSD2, List.getElem?_cons_zero, List.getElem?_cons_succ, List.set_cons_zero, List.set_cons_succ, cheapest_W1, p_cheapest_W1, p_cheapest_W1T, pok_cost_ladder]) (by
    rintro ⟨v_s, v_found⟩
    simp only [QS, QSD, QSD2, List.getElem?_cons_zero, List.getElem?_cons_succ, List.set_cons_zero, List.set_cons_succ, cheapest_W1, p_cheapest_W1, p_cheapest_W1T, pok_cost_ladder]) (v_s, v_found)
noncomputable def p_cheapest (v_packs v_s : PyData) : M PyData :=
  bn (p_cost_ladder v_packs v_s) fun v_costs_1 => bn (lf (pyLen [v_packs])) fun t2 => bn (lf (mulLO (.list [(.int 0)]) t2)) fun v_found_3 => bR (whP (p_cheapest_W1T v_packs v_costs_1) (p_cheapest_W1 v_packs v_costs_1) (v_s, v_found_3)) (fun s4 => lf (pyTuple [(.list s4.2)])) (fun r => ret r)
theorem pok_cheapest (v_packs v_s : PyData) : callM d_cheapest [.dat v_packs, .dat v_s] = p_cheapest v_packs v_s := by
  rw [d_cheapest]
  refine (callM_fun ⟨rfl, rfl⟩).trans ?_
  show fnO (b_cheapest [some (.dat v_packs), some (.dat v_s), none, none, none, none, none, none]) = _
  simp only [QS, QSD, QSD2, List.getElem?_cons_zero, List.getElem?_cons_succ, List.set_cons_zero, List.set_cons_succ, b_cheapest, p_cheapest, pok_cost_ladder, l_cheapest_W1]
/-! ## law -/
noncomputable def p_law_L2 (v_b : PyData) (x : PyData) : (PyData) → M (PyData)
  | v_pieces => un2 x fun v_one v_other => bn (lf (pyDiv v_b v_one)) fun t72 => bn (lf (pyMin2 [(.int 2), t72])) fun t73 => bn (lf (pyMulB (.tuple [v_one]) t73)) fun t74 => bn (lf (pyAdd v_pieces t74)) fun v_pieces_75 => ret v_pieces_75
theorem l_law_L2 {c0 c2 c3 c4 c5 c6 c7 c8 c9 c10 c11 c16 c17 c18 c19 c20 c21 c22 c23 : Option Sv} (v_b : PyData) (xs : List PyData) (v_pieces : PyData) : forGo (gT (gCons' (gN 14) (gCons' (gN 15) gNil'))) law_L2 xs [c0, some .box, c2, c3, c4, c5, c6, c7, c8, c9, c10, c11, some (.dat v_b), some (.dat v_pieces), none, none, c16, c17, c18, c19, c20, c21, c22, c23] = bn (forP (p_law_L2 v_b) xs v_pieces) fun s => nxD ((fun s => [c0, some .box, c2, c3, c4, c5, c6, c7, c8, c9, c10, c11, some (.dat v_b), some (.dat s), none, none, c16, c17, c18, c19, c20, c21, c22, c23]) s) :=
  forGo_P (fun s => [c0, some .box, c2, c3, c4, c5, c6, c7, c8, c9, c10, c11, some (.dat v_b), some (.dat s), none, none, c16, c17, c18, c19, c20, c21, c22, c23]) (p_law_L2 v_b) (by
    rintro x v_pieces
    simp only [QS, QSD, QSD2, List.getElem?_cons_zero, List.getElem?_cons_succ, List.set_cons_zero, List.set_cons_succ, law_L2, p_law_L2, pok_best_pack, pok_cost_ladder, pok_rounds_from, pok_least_over, pok_sum_rows, pok_front, pok_law_packs, pok_law_take, pok_floor, pok_just_so, pok_cost_far, pok_amount_of, pok_cheapest]) xs v_pieces
noncomputable def p_law_L1 (v_packs : PyData) (v_b : PyData) (v_pieces : PyData) (v_rows : PyData) (x : PyData) : (Unit) → M (Lo (Unit))
  | _ => bn (p_just_so v_pieces x) fun v_told_76 => mIte (mOr (mAnd (bn (lf (pyIx v_told_76 (.int 0))) fun t77 => lf (pyEq t77 (.str (PySem.Str.ofString "pieces")))) (bn (p_least_over v_packs x) fun t78 => lf (pyNe t78 (.int 0)))) (mOr (bn (lf (pyIx v_told_76 (.int 0))) fun t79 => bn (lf (pyEq t79 (.str (PySem.Str.ofString "pieces")))) fun c80 => bn (p_sum_rows v_pieces x) fun t81 => bn (lf (negO (.int 1))) fun t82 => bn (lf (pyIx t81 t82)) fun t83 => bn (lf (pyIn x t83)) fun c84 => lf (pyNe (.bool c80) (.bool c84))) (mAnd (lf (pyEq x v_b)) (bn (lf (pyIx v_told_76 (.int 0))) fun t85 => bn (lf (pyEq t85 (.str (PySem.Str.ofString "pieces")))) fun c86 => bn (lf (negO (.int 1))) fun t87 => bn (lf (pyIx v_rows t87)) fun t88 => bn (lf (pyIn v_b t88)) fun c89 => lf (pyNe (.bool c86) (.bool c89)))))) (ret (.rt (.bool false))) (ret (.nx ()))
theorem l_law_L1 {c0 c2 c4 c5 c6 c7 c8 c9 c10 c11 c14 c15 c19 c20 c21 c22 c23 : Option Sv} (v_packs : PyData) (v_b : PyData) (v_pieces : PyData) (v_rows : PyData) (xs : List PyData)  : forGo (gN 17) law_L1 xs [c0, some .box, c2, some (.dat v_packs), c4, c5, c6, c7, c8, c9, c10, c11, some (.dat v_b), some (.dat v_pieces), c14, c15, some (.dat v_rows), none, none, c19, c20, c21, c22, c23] = bR (forL (p_law_L1 v_packs v_b v_pieces v_rows) xs ()) (fun s => nxD ((fun (s : Unit) => [c0, some .box, c2, some (.dat v_packs), c4, c5, c6, c7, c8, c9, c10, c11, some (.dat v_b), some (.dat v_pieces), c14, c15, some (.dat v_rows), none, none, c19, c20, c21, c22, c23]) s)) retD :=
  forGo_L (fun (s : Unit) => [c0, some .box, c2, some (.dat v_packs), c4, c5, c6, c7, c8, c9, c10, c11, some (.dat v_b), some (.dat v_pieces), c14, c15, some (.dat v_rows), none, none, c19, c20, c21, c22, c23]) (p_law_L1 v_packs v_b v_pieces v_rows) (by
    rintro x s
    simp only [QS, QSD, QSD2, List.getElem?_cons_zero, List.getElem?_cons_succ, List.set_cons_zero, List.set_cons_succ, law_L1, p_law_L1, pok_best_pack, pok_cost_ladder, pok_rounds_from, pok_least_over, pok_sum_rows, pok_front, pok_law_packs, pok_law_take, pok_floor, pok_just_so, pok_cost_far, pok_amount_of, pok_cheapest, l_law_L2]) xs ()
noncomputable def p_law_L3  (x : PyData) : (Unit) → M (Lo (Unit))
  | _ => bn (p_law_packs (.int 4) (.int 30)) fun t2 => bn (p_law_take (.int 601)) fun t3 => un2 (.tuple [t2, t3]) fun v_packs v_s => bn (p_best_pack v_packs) fun t4 => un2 t4 fun v_size v_price => bn (p_cost_ladder v_packs v_s) fun v_costs_5 => mIte (mOr (bn (lf (rng1O v_s)) fun xs6 => bn (cmpP (fun x7 => bn (lf (pyIx v_costs_5 x7)) fun t9 => bn (lf (pyAdd x7 (.int 1))) fun t8 => bn (lf (pyIx v_costs_5 t8)) fun t10 => bn (lf (pyGtA t9 t10)) fun c11 => ret (.bool c11)) xs6) fun l12 => bn (lf (pyAny [(.list l12)])) fun t13 => lf (truD t13)) (bn (lf (pySub v_s v_size)) fun t14 => bn (lf (pyAdd t14 (.int 1))) fun t15 => bn (lf (rng1O t15)) fun xs16 => bn (cmpP (fun x17 => bn (lf (pyAdd x17 v_size)) fun t18 => bn (lf (pyIx v_costs_5 t18)) fun t20 => bn (lf (pyIx v_costs_5 x17)) fun t19 => bn (lf (pyAdd t19 v_price)) fun t21 => bn (lf (pyGtA t20 t21)) fun c22 => ret (.bool c22)) xs16) fun l23 => bn (lf (pyAny [(.list l23)])) fun t24 => lf (truD t24))) (ret (.rt (.bool false))) (bn (p_rounds_from v_packs) fun v_r_25 => mIte (mOr (bn (lf (pyMulB (.int 7) v_size)) fun t26 => bn (lf (pyAdd v_r_25 t26)) fun t27 => bn (lf (pyAdd t27 v_s)) fun t28 => bn (p_cost_far v_packs t28) fun t32 => bn (lf (pyAdd v_r_25 v_s)) fun t29 => bn (p_cost_far v_packs t29) fun t30 => bn (lf (pyMulB (.int 7) v_price)) fun t31 => bn (lf (pyAdd t30 t31)) fun t33 => lf (pyNe t32 t33)) (bn (p_cheapest v_packs v_s) fun t34 => bn (p_amount_of v_packs t34) fun t35 => lf (pyLtA t35 v_s))) (ret (.rt (.bool false))) (bn (p_floor v_packs) fun t37 => bn (lf (pyIx v_packs (.int 0))) fun t36 => bn (lf (pyIx t36 (.int 0))) fun t38 => un2 (.tuple [t37, t38]) fun v_entries v_m => bn (p_least_over v_packs v_s) fun v_rest_over_39 => mIte (mAnd (lf (pyGtA v_rest_over_39 (.int 0))) (bn (lf (seqO v_entries)) fun xs40 => bn (cmpP (fun x41 => vAnd (bn (lf (pyIsNot x41 .none)) fun c42 => ret (.bool c42)) (vAnd (bn (lf (pyLeA x41 v_s)) fun c43 => ret (.bool c43)) (bn (lf (pySub v_s x41)) fun t44 => bn (lf (pyDiv t44 v_m)) fun t45 => bn (lf (pyMulB t45 v_m)) fun t46 => bn (lf (pySub v_s x41)) fun t47 => bn (lf (pyEq t46 t47)) fun c48 => ret (.bool c48)))) xs40) fun l49 => bn (lf (pyAny [(.list l49)])) fun t50 => lf (truD t50))) (ret (.rt (.bool false))) (mIte (mNot (mAnd (lf (pyLeA (.int 0) v_rest_over_39)) (bn (lf (seqO v_entries)) fun xs51 => bn (cmpF (fun x52 => mFil (lf (pyIsNot x52 .none)) (ret x52)) xs51) fun l53 => bn (lf (pyAdd (.list [(.int 0)]) (.list l53))) fun t54 => bn (lf (pyMaxA [t54])) fun t55 => bn (lf (pyAdd v_m t55)) fun t56 => lf (pyLtA v_rest_over_39 t56)))) (ret (.rt (.bool false))) (mIte (mOr (bn (lf (pyAdd v_s v_rest_over_39)) fun t59 => bn (lf (pyAdd v_s v_rest_over_39)) fun t57 => bn (lf (pyDiv t57 v_m)) fun t58 => bn (lf (pyMulB t58 v_m)) fun t60 => bn (lf (pySub t59 t60)) fun t61 => bn (lf (pyIx v_entries t61)) fun t62 => lf (pyIs t62 .none)) (bn (lf (pyAdd v_s v_rest_over_39)) fun t65 => bn (lf (pyAdd v_s v_rest_over_39)) fun t63 => bn (lf (pyDiv t63 v_m)) fun t64 => bn (lf (pyMulB t64 v_m)) fun t66 => bn (lf (pySub t65 t66)) fun t67 => bn (lf (pyIx v_entries t67)) fun t68 => bn (lf (pyAdd v_s v_rest_over_39)) fun t69 => lf (pyGtA t68 t69))) (ret (.rt (.bool false))) (bn (lf (pyMin2 [v_s, (.int 60)])) fun v_b_70 => bn (lf (seqO v_packs)) fun xs71 => bn (forP (p_law_L2 v_b_70) xs71 (.tuple [])) fun s72 => bn (p_sum_rows s72 v_b_70) fun v_rows_73 => bn (lf (pyDiv v_b_70 (.int 2))) fun t74 => bn (lf (seqO (.tuple [v_b_70, t74]))) fun xs75 => bR (forL (p_law_L1 v_packs v_b_70 s72 v_rows_73) xs75 ()) (fun s76 => bn (p_front v_packs v_b_70) fun v_pairs_77 => mIte (mOr (mAnd (bn (lf (pyIx v_pairs_77 (.int 0))) fun t78 => bn (lf (pyIx t78 (.int 0))) fun t79 => lf (pyGtA t79 (.int 0))) (bn (lf (pyIx v_pairs_77 (.int 0))) fun t80 => bn (lf (pyIx t80 (.int 1))) fun t81 => lf (pyGtA t81 (.int 0)))) (mNot (bn (lf (seqO v_pairs_77)) fun xs82 => bn (cmpP (fun x83 => un2 x83 fun v_amount v_paid => bn (p_least_over v_packs v_amount) fun t84 => bn (lf (pyEq t84 (.int 0))) fun c85 => ret (.bool c85)) xs82) fun l86 => bn (lf (pyAll [(.list l86)])) fun t87 => lf (truD t87)))) (ret (.rt (.bool false))) (ret (.nx ()))) (fun r => ret (.rt r)))))))
theorem l_law_L3 {c0 c20 c21 c22 c23 : Option Sv}  (xs : List PyData)  : forGo (gN 2) law_L3 xs [c0, some .box, none, none, none, none, none, none, none, none, none, none, none, none, none, none, none, none, none, none, c20, c21, c22, c23] = bR (forL (p_law_L3 ) xs ()) (fun s => nxD ((fun (s : Unit) => [c0, some .box, none, none, none, none, none, none, none, none, none, none, none, none, none, none, none, none, none, none, c20, c21, c22, c23]) s)) retD :=
  forGo_L (fun (s : Unit) => [c0, some .box, none, none, none, none, none, none, none, none, none, none, none, none, none, none, none, none, none, none, c20, c21, c22, c23]) (p_law_L3 ) (by
    rintro x s
    simp only [QS, QSD, QSD2, List.getElem?_cons_zero, List.getElem?_cons_succ, List.set_cons_zero, List.set_cons_succ, law_L3, p_law_L3, pok_best_pack, pok_cost_ladder, pok_rounds_from, pok_least_over, pok_sum_rows, pok_front, pok_law_packs, pok_law_take, pok_floor, pok_just_so, pok_cost_far, pok_amount_of, pok_cheapest, l_law_L2, l_law_L1]) xs ()
noncomputable def bR_law : DS := (dWp [2, 3, 4, 5, 6, 7, 8, 9, 10, 11, 12, 13, 14, 15, 16, 17, 18, 19] (dSeq (dFor (dRng1 (dC (.int 3))) (gN 2) law_L3)
  (dRet (dC (.bool true)))))
noncomputable def p_law (ns : List Int) : M PyData :=
  bn (lf (rng1O (.int 3))) fun xs1 => bR (forL (p_law_L3 ) xs1 ()) (fun s2 => ret (.bool true)) (fun r => ret r)
theorem pokR_law (ns : List Int) : fnO (bR_law [some (.scr ns), some .box, none, none, none, none, none, none, none, none, none, none, none, none, none, none, none, none, none, none, none, none, none, none]) = p_law ns := by
  simp only [QS, QSD, QSD2, List.getElem?_cons_zero, List.getElem?_cons_succ, List.set_cons_zero, List.set_cons_succ, bR_law, p_law, pok_best_pack, pok_cost_ladder, pok_rounds_from, pok_least_over, pok_sum_rows, pok_front, pok_law_packs, pok_law_take, pok_floor, pok_just_so, pok_cost_far, pok_amount_of, pok_cheapest, l_law_L2, l_law_L1, l_law_L3]
theorem law_split {d : FD} {D : DS} {ns : List Int} {rest : Sl} {i : Nat} {B0 B1 : Bx} (h : d [.scr ns] B0 = some (.box, B1)) : dSeq (dAsgV i (dFnV d (dConsA (dVarV 0) dNilA))) D (some (.scr ns) :: rest) B0 = D ((some (.scr ns) :: rest).set i (some .box)) B1 := by
  have e1 : dConsA (dVarV 0) dNilA (some (.scr ns) :: rest) B0 = some ([.scr ns], B0) := rfl
  have e2 : dFnV d (dConsA (dVarV 0) dNilA) (some (.scr ns) :: rest) B0 = some (.box, B1) := by
    unfold dFnV
    rw [e1]
    exact h
  have e3 : dAsgV i (dFnV d (dConsA (dVarV 0) dNilA)) (some (.scr ns) :: rest) B0 = some (.nx ((some (.scr ns) :: rest).set i (some .box)) B1) := by
    unfold dAsgV
    rw [e2]
    rfl
  unfold dSeq
  rw [e3]
  rfl
theorem b_law_eq : b_law = dSeq (dAsgV 1 (dFnV d_law_tape (dConsA (dVarV 0) dNilA))) bR_law := by
  unfold b_law bR_law
  exact Eq.refl _
theorem pok_law {ns : List Int} {B0 B1 B2 : Bx} (h : d_law_tape [.scr ns] B0 = some (.box, B1)) (h2 : p_law ns B1 = some (.bool true, B2)) : d_law [.scr ns] B0 = some (.dat (.bool true), B2) := by
  have e := congrFun (pokR_law ns) B1
  rw [h2] at e
  have e2 : callM d_law [.scr ns] B0 = some (.bool true, B2) := by
    rw [d_law]
    refine (congrFun (callM_fun ⟨rfl, rfl⟩) B0).trans ?_
    rw [← e]
    have e3 : b_law [some (.scr ns), none, none, none, none, none, none, none, none, none, none, none, none, none, none, none, none, none, none, none, none, none, none, none] B0 = bR_law [some (.scr ns), some .box, none, none, none, none, none, none, none, none, none, none, none, none, none, none, none, none, none, none, none, none, none, none] B1 := by
      rw [b_law_eq, law_split h]
      simp only [List.set_cons_succ, List.set_cons_zero]
    exact congrArg (fun z => Option.bind z _) e3
  unfold callM at e2
  obtain ⟨⟨r, B3⟩, e3, e4⟩ := bnd e2
  rw [e3]
  cases r with
  | dat z => cases e4; rfl
  | own _ => cases e4
  | box => cases e4
  | cells => cases e4
  | dic _ => cases e4
  | fdc _ => cases e4
  | scr _ => cases e4
end Dn

set_option Elab.async false
set_option linter.all false
set_option autoImplicit false
set_option maxRecDepth 100000
set_option maxHeartbeats 2000000
set_option exponentiation.threshold 100000
/-! What the second layer's terms come to: values, lists gone through, loops. -/
namespace Dn
open PySem
section
variable {i j : Int} {x y : PyData} {xs ys : List PyData} {b c : Bool} {α β : Type}
theorem mulBI : pyMulB (.int i) (.int j) = pyMul (.int i) (.int j) := id rfl
theorem ltAI : pyLtA (.int i) (.int j) = some (decide (i < j)) := id rfl
theorem leAI : pyLeA (.int i) (.int j) = some (decide (i ≤ j)) := id rfl
theorem gtAI : pyGtA (.int i) (.int j) = some (decide (j < i)) := id rfl
theorem geAI : pyGeA (.int i) (.int j) = some (decide (j ≤ i)) := id rfl
theorem tru_b : truD (.bool b) = some b := id rfl
theorem tru_n : truD .none = some false := id rfl
theorem tru_i : truD (.int i) = some (i != 0) := id rfl
theorem tru_l : truD (.list xs) = some (!xs.isEmpty) := id rfl
theorem tru_t : truD (.tuple xs) = some (!xs.isEmpty) := id rfl
theorem len_l : pyLen [.list xs] = some (.int (xs.length : Int)) := id rfl
theorem len_t : pyLen [.tuple xs] = some (.int (xs.length : Int)) := id rfl
theorem tup_l : pyTuple [.list xs] = some (.tuple xs) := id rfl
theorem tup_t : pyTuple [.tuple xs] = some (.tuple xs) := id rfl
theorem lst_l : pyList [.list xs] = some xs := id rfl
theorem lst_t : pyList [.tuple xs] = some xs := id rfl
theorem int_i : pyInt [.int i] = some (.int i) := id rfl
theorem abs_i : pyAbs [.int i] = some (.int (if i < 0 then -i else i)) := id rfl
theorem sl_t {lo hi : Option Int} : pySl (.tuple xs) lo hi = some (.tuple (cutD xs lo hi)) := id rfl
theorem sl_l {lo hi : Option Int} : pySl (.list xs) lo hi = some (.list (cutD xs lo hi)) := id rfl
theorem mAnd_r {a : Bool} : mAnd (ret a) (ret b) = ret (a && b) := by cases a <;> rfl
theorem mOr_r {a : Bool} : mOr (ret a) (ret b) = ret (a || b) := by cases a <;> rfl
theorem vAnd_r {a : Bool} : vAnd (ret (.bool a)) (ret (.bool b)) = ret (.bool (a && b)) := by cases a <;> rfl
theorem vOr_r {a : Bool} : vOr (ret (.bool a)) (ret (.bool b)) = ret (.bool (a || b)) := by cases a <;> rfl
theorem mFil_r {a : Bool} {z : α} : mFil (ret a) (ret z) = ret (if a = true then some z else none) := by cases a <;> rfl
theorem mFil_t {e : M α} : mFil (ret true) e = bn e fun y => ret (some y) := id rfl
theorem mFil_f {e : M α} : mFil (ret false) e = ret none := id rfl
theorem mIteV_r {a : Bool} {z w : α} : mIteV (ret a) (ret z) (ret w) = ret (if a = true then z else w) := by cases a <;> rfl
theorem mIte_r {a : Bool} {m n : Bx → Option β} : mIte (ret a) m n = if a = true then m else n := by cases a <;> rfl
theorem tyt_n : isTy "tuple" .none = false := by unfold isTy tyName; decide
theorem tyl_n : isTy "list" .none = false := by unfold isTy tyName; decide
theorem tyb_n : isTy "bool" .none = false := by unfold isTy tyName; decide
theorem tyi_n : isTy "int" .none = false := by unfold isTy tyName; decide
theorem tys_n : isTy "str" .none = false := by unfold isTy tyName; decide
theorem tyt_b : isTy "tuple" (.bool b) = false := by show ("bool" == "tuple" || ("tuple" == "int" && "bool" == "bool")) = false; decide
theorem tyl_b : isTy "list" (.bool b) = false := by show ("bool" == "list" || ("list" == "int" && "bool" == "bool")) = false; decide
theorem tyb_b : isTy "bool" (.bool b) = true := by show ("bool" == "bool" || ("bool" == "int" && "bool" == "bool")) = true; decide
theorem tyi_b : isTy "int" (.bool b) = true := by show ("bool" == "int" || ("int" == "int" && "bool" == "bool")) = true; decide
theorem tys_b : isTy "str" (.bool b) = false := by show ("bool" == "str" || ("str" == "int" && "bool" == "bool")) = false; decide
theorem tyt_i : isTy "tuple" (.int i) = false := by show ("int" == "tuple" || ("tuple" == "int" && "int" == "bool")) = false; decide
theorem tyl_i : isTy "list" (.int i) = false := by show ("int" == "list" || ("list" == "int" && "int" == "bool")) = false; decide
theorem tyb_i : isTy "bool" (.int i) = false := by show ("int" == "bool" || ("bool" == "int" && "int" == "bool")) = false; decide
theorem tyi_i : isTy "int" (.int i) = true := by show ("int" == "int" || ("int" == "int" && "int" == "bool")) = true; decide
theorem tys_i : isTy "str" (.int i) = false := by show ("int" == "str" || ("str" == "int" && "int" == "bool")) = false; decide
theorem tyt_s {s : Str} : isTy "tuple" (.str s) = false := by show ("str" == "tuple" || ("tuple" == "int" && "str" == "bool")) = false; decide
theorem tyl_s {s : Str} : isTy "list" (.str s) = false := by show ("str" == "list" || ("list" == "int" && "str" == "bool")) = false; decide
theorem tyb_s {s : Str} : isTy "bool" (.str s) = false := by show ("str" == "bool" || ("bool" == "int" && "str" == "bool")) = false; decide
theorem tyi_s {s : Str} : isTy "int" (.str s) = false := by show ("str" == "int" || ("int" == "int" && "str" == "bool")) = false; decide
theorem tys_s {s : Str} : isTy "str" (.str s) = true := by show ("str" == "str" || ("str" == "int" && "str" == "bool")) = true; decide
theorem tyt_l : isTy "tuple" (.list xs) = false := by show ("list" == "tuple" || ("tuple" == "int" && "list" == "bool")) = false; decide
theorem tyl_l : isTy "list" (.list xs) = true := by show ("list" == "list" || ("list" == "int" && "list" == "bool")) = true; decide
theorem tyb_l : isTy "bool" (.list xs) = false := by show ("list" == "bool" || ("bool" == "int" && "list" == "bool")) = false; decide
theorem tyi_l : isTy "int" (.list xs) = false := by show ("list" == "int" || ("int" == "int" && "list" == "bool")) = false; decide
theorem tys_l : isTy "str" (.list xs) = false := by show ("list" == "str" || ("str" == "int" && "list" == "bool")) = false; decide
theorem tyt_t : isTy "tuple" (.tuple xs) = true := by show ("tuple" == "tuple" || ("tuple" == "int" && "tuple" == "bool")) = true; decide
theorem tyl_t : isTy "list" (.tuple xs) = false := by show ("tuple" == "list" || ("list" == "int" && "tuple" == "bool")) = false; decide
theorem tyb_t : isTy "bool" (.tuple xs) = false := by show ("tuple" == "bool" || ("bool" == "int" && "tuple" == "bool")) = false; decide
theorem tyi_t : isTy "int" (.tuple xs) = false := by show ("tuple" == "int" || ("int" == "int" && "tuple" == "bool")) = false; decide
theorem tys_t : isTy "str" (.tuple xs) = false := by show ("tuple" == "str" || ("str" == "int" && "tuple" == "bool")) = false; decide
end
theorem ix_l {xs : List PyData} {i : Int} : pyIx (.list xs) (.int i) = L2.atI xs i := id rfl
theorem ix_t {xs : List PyData} {i : Int} : pyIx (.tuple xs) (.int i) = L2.atI xs i := id rfl
theorem ret_app {α : Type} {x : α} {B : Bx} : ret x B = some (x, B) := id rfl
/-- the equations by which a term is reckoned -/
def QV := (And.intro (And.intro (And.intro (And.intro (And.intro (And.intro @bn_ret (And.intro @bn_fl @lf_some)) (And.intro @lf_none (And.intro @mIte_t @mIte_f))) (And.intro (And.intro @mIte_fl (And.intro @mIteV_t @mIteV_f)) (And.intro @mAnd_t (And.intro @mAnd_f @mOr_t)))) (And.intro (And.intro (And.intro @mOr_f (And.intro @mNot_r @vAnd_t)) (And.intro @vAnd_f (And.intro @vOr_t @vOr_f))) (And.intro (And.intro @un2_t (And.intro @un3_t @un4_t)) (And.intro @bR_nx (And.intro @bR_rt @negO_i))))) (And.intro (And.intro (And.intro (And.intro @notO_b (And.intro @augO_i @partO_i)) (And.intro @seqO_l (And.intro @seqO_t @revO_t))) (And.intro (And.intro @revLO_l (And.intro @addI @subI)) (And.intro @eqI (And.intro @neI @k_at0)))) (And.intro (And.intro (And.intro @k_at1 (And.intro @k_at2 @mulBI)) (And.intro @ltAI (And.intro @leAI @gtAI))) (And.intro (And.intro @geAI (And.intro @tru_b @tru_n)) (And.intro (And.intro @tru_i @tru_l) (And.intro @tru_t @len_l)))))) (And.intro (And.intro (And.intro (And.intro (And.intro @len_t (And.intro @tup_l @tup_t)) (And.intro @lst_l (And.intro @lst_t @int_i))) (And.intro (And.intro @abs_i (And.intro @sl_t @sl_l)) (And.intro @mAnd_r (And.intro @mOr_r @vAnd_r)))) (And.intro (And.intro (And.intro @vOr_r (And.intro @mFil_r @mFil_t)) (And.intro @mFil_f (And.intro @mIteV_r @mIte_r))) (And.intro (And.intro @tyt_n (And.intro @tyl_n @tyb_n)) (And.intro (And.intro @tyi_n @tys_n) (And.intro @tyt_b @tyl_b))))) (And.intro (And.intro (And.intro (And.intro @tyb_b (And.intro @tyi_b @tys_b)) (And.intro @tyt_i (And.intro @tyl_i @tyb_i))) (And.intro (And.intro @tyi_i (And.intro @tys_i @tyt_s)) (And.intro @tyl_s (And.intro @tyb_s @tyi_s)))) (And.intro (And.intro (And.intro @tys_s (And.intro @tyt_l @tyl_l)) (And.intro @tyb_l (And.intro @tyi_l @tys_l))) (And.intro (And.intro @tyt_t (And.intro @tyl_t @tyb_t)) (And.intro (And.intro @tyi_t @tys_t) (And.intro @ix_l @ix_t)))))))
theorem k_wp {vs : List Nat} {D : DS} {sl : Sl} {B : Bx} : dWp vs D sl B = D (wipeD sl vs) B := id rfl
/-! ### at a box -/
section
variable {α β : Type} {B B1 : Bx}
def iteO (o : Option (Bool × Bx)) (a b : Bx → Option β) : Option β := match o with
  | some (true, B) => a B
  | some (false, B) => b B
  | none => none
theorem iteO_t {a b : Bx → Option β} : iteO (some (true, B)) a b = a B := id rfl
theorem iteO_f {a b : Bx → Option β} : iteO (some (false, B)) a b = b B := id rfl
theorem a_bn {m : M α} {k : α → Bx → Option β} : bn m k B = (m B).bind fun p => k p.1 p.2 := id rfl
theorem a_ite {c : M Bool} {a b : Bx → Option β} : mIte c a b B = iteO (c B) a b := by
  unfold mIte bn iteO
  cases c B with
  | none => rfl
  | some p => obtain ⟨t, B1⟩ := p; cases t <;> rfl
theorem a_iteV {c : M Bool} {a b : M α} : mIteV c a b B = iteO (c B) a b := a_ite
theorem a_and {c d : M Bool} : mAnd c d B = iteO (c B) d (ret false) := a_ite
theorem a_or {c d : M Bool} : mOr c d B = iteO (c B) (ret true) d := a_ite
theorem a_not {c : M Bool} : mNot c B = iteO (c B) (ret false) (ret true) := by
  unfold mNot bn iteO
  cases c B with
  | none => rfl
  | some p => obtain ⟨t, B1⟩ := p; cases t <;> rfl
theorem a_lf {o : Option α} : lf o B = o.bind fun x => ret x B := by cases o <;> rfl
def vIteO (o : Option (PyData × Bx)) (a b : M PyData) : Option (PyData × Bx) := match o with
  | some (.bool true, B) => a B
  | some (.bool false, B) => b B
  | _ => none
theorem vIteO_t {a b : M PyData} : vIteO (some (.bool true, B)) a b = a B := id rfl
theorem vIteO_f {a b : M PyData} : vIteO (some (.bool false, B)) a b = b B := id rfl
theorem a_vAnd {a b : M PyData} : vAnd a b B = vIteO (a B) b (ret (.bool false)) := by
  unfold vAnd bn vIteO
  cases a B with
  | none => rfl
  | some p => obtain ⟨t, B1⟩ := p; cases t with
    | bool b => cases b <;> rfl
    | _ => rfl
theorem a_vOr {a b : M PyData} : vOr a b B = vIteO (a B) (ret (.bool true)) b := by
  unfold vOr bn vIteO
  cases a B with
  | none => rfl
  | some p => obtain ⟨t, B1⟩ := p; cases t with
    | bool b => cases b <;> rfl
    | _ => rfl
def bRO (o : Option (Lr α × Bx)) (k : α → Bx → Option β) (e : PyData → Bx → Option β) : Option β := match o with
  | some (.nx s, B) => k s B
  | some (.rt r, B) => e r B
  | none => none
theorem bRO_n {s : α} {k : α → Bx → Option β} {e : PyData → Bx → Option β} : bRO (some (.nx s, B)) k e = k s B := id rfl
theorem bRO_r {r : PyData} {k : α → Bx → Option β} {e : PyData → Bx → Option β} : bRO (some (.rt r, B)) k e = e r B := id rfl
theorem a_bR {m : M (Lr α)} {k : α → Bx → Option β} {e : PyData → Bx → Option β} : bR m k e B = bRO (m B) k e := by
  unfold bR bn bRO
  cases m B with
  | none => rfl
  | some p => obtain ⟨t, B1⟩ := p; cases t <;> rfl
end
def QE := (And.intro (And.intro (And.intro (And.intro @iteO_t @iteO_f) (And.intro @a_bn @a_ite)) (And.intro (And.intro @a_iteV @a_and) (And.intro @a_or @a_not))) (And.intro (And.intro (And.intro @a_lf @vIteO_t) (And.intro @vIteO_f @a_vAnd)) (And.intro (And.intro @a_vOr @bRO_n) (And.intro @bRO_r @a_bR))))
/-! ### lists gone through -/
section
variable {α β γ : Type}
theorem szlt1 {n : Nat} (h : n < 1000000) : n < sizeLine := szlt h
theorem mapP_ret {f : α → M β} (g : α → β) : ∀ (xs : List α), (∀ x ∈ xs, f x = ret (g x)) → mapP f xs = ret (xs.map g)
  | [], _ => rfl
  | x :: xs, h => by
    unfold mapP
    rw [h x List.mem_cons_self, bn_ret, mapP_ret g xs fun y hy => h y (List.mem_cons_of_mem _ hy), bn_ret]
    rfl
theorem mapP_map {f : β → M γ} (enc : α → β) (g : α → γ) (xs : List α) (h : ∀ a ∈ xs, f (enc a) = ret (g a)) : mapP f (xs.map enc) = ret (xs.map g) := by
  induction xs with
  | nil => rfl
  | cons x xs ih =>
    rw [List.map_cons]
    unfold mapP
    rw [h x List.mem_cons_self, bn_ret, ih fun y hy => h y (List.mem_cons_of_mem _ hy), bn_ret]
    rfl
theorem filP_map {f : β → M (Option γ)} (enc : α → β) (t : α → Bool) (g : α → γ) (xs : List α) (h : ∀ a ∈ xs, f (enc a) = ret (if t a = true then some (g a) else none)) : filP f (xs.map enc) = ret ((xs.filter t).map g) := by
  induction xs with
  | nil => rfl
  | cons x xs ih =>
    rw [List.map_cons]
    unfold filP
    rw [h x List.mem_cons_self, bn_ret, ih fun y hy => h y (List.mem_cons_of_mem _ hy), bn_ret]
    cases ht : t x with
    | true => rw [List.filter_cons_of_pos ht]; rfl
    | false => rw [List.filter_cons_of_neg (by rw [ht]; exact Bool.false_ne_true)]; rfl
theorem catP_map {f : β → M (List γ)} (enc : α → β) (g : α → List γ) (xs : List α) (h : ∀ a ∈ xs, f (enc a) = ret (g a)) : catP f (xs.map enc) = ret (xs.map g).flatten := by
  induction xs with
  | nil => rfl
  | cons x xs ih =>
    rw [List.map_cons]
    unfold catP
    rw [h x List.mem_cons_self, bn_ret, ih fun y hy => h y (List.mem_cons_of_mem _ hy), bn_ret]
    rfl
theorem cmpP_map {f : PyData → M PyData} (enc : α → PyData) (g : α → PyData) (xs : List α) (hl : xs.length < 1000000) (h : ∀ a ∈ xs, f (enc a) = ret (g a)) : cmpP f (xs.map enc) = ret (xs.map g) := by
  unfold cmpP
  rw [if_pos (by rw [List.length_map]; exact szlt hl)]
  exact mapP_map enc g xs h
theorem cmpP_ret {f : PyData → M PyData} (g : PyData → PyData) (xs : List PyData) (hl : xs.length < 1000000) (h : ∀ a ∈ xs, f a = ret (g a)) : cmpP f xs = ret (xs.map g) := by
  unfold cmpP
  rw [if_pos (szlt hl)]
  exact mapP_ret g xs h
theorem cmpF_map {f : PyData → M (Option PyData)} (enc : α → PyData) (t : α → Bool) (g : α → PyData) (xs : List α) (hl : xs.length < 1000000) (h : ∀ a ∈ xs, f (enc a) = ret (if t a = true then some (g a) else none)) : cmpF f (xs.map enc) = ret ((xs.filter t).map g) := by
  unfold cmpF
  rw [if_pos (by rw [List.length_map]; exact szlt hl)]
  exact filP_map enc t g xs h
/-- over a range -/
theorem rngD_map (lo : Int) (n : Nat) : rngD lo n = (List.range n).map fun (i : Nat) => PyData.int (lo + (i : Int)) := rfl
theorem rngD0 (n : Nat) : rngD 0 n = (List.range n).map fun (i : Nat) => PyData.int (i : Int) := by
  unfold rngD
  congr 1
  funext i
  rw [Int.zero_add]
theorem cmpP_rng {f : PyData → M PyData} (g : Nat → PyData) (n : Nat) (hl : n < 1000000) (h : ∀ i, i < n → f (.int (i : Int)) = ret (g i)) : cmpP f (rngD 0 n) = ret ((List.range n).map g) := by
  rw [rngD0]
  exact cmpP_map _ g _ (by rw [List.length_range]; exact hl) fun i hi => h i (List.mem_range.mp hi)
theorem cmpF_rng {f : PyData → M (Option PyData)} (t : Nat → Bool) (g : Nat → PyData) (n : Nat) (hl : n < 1000000) (h : ∀ i, i < n → f (.int (i : Int)) = ret (if t i = true then some (g i) else none)) : cmpF f (rngD 0 n) = ret (((List.range n).filter t).map g) := by
  rw [rngD0]
  exact cmpF_map _ t g _ (by rw [List.length_range]; exact hl) fun i hi => h i (List.mem_range.mp hi)
theorem rng1_ok {n : Nat} (h : n < 1000000) : rng1O (.int (n : Int)) = some (rngD 0 n) := by
  unfold rng1O
  simp only [rng_ok h, if_true, Int.toNat_natCast]
theorem rng1_int {i : Int} (h1 : -1000000 < i) (h : i < 1000000) : rng1O (.int i) = some (rngD 0 i.toNat) := by
  unfold rng1O
  simp only [rng_okI h1 h, if_true]
theorem rng2_ok {i j : Int} (h1 : -1000000 < i) (h : i < 1000000) (h3 : -1000000 < j) (h4 : j < 1000000) : rng2O (.int i) (.int j) = some (rngD i (j - i).toNat) := by
  unfold rng2O
  simp only [rng_ok2 h1 h h3 h4, if_true]
theorem rg1_ok {n : Nat} (h : n < 1000000) : rg1O (.int (n : Int)) = some (0, (n : Int)) := by
  unfold rg1O
  exact if_pos (decide_eq_true (by omega))
theorem rgD0 (n : Nat) : rgD 0 (n : Int) = (List.range n).map fun (i : Nat) => PyData.int (i : Int) := by
  unfold rgD
  rw [show ((n : Int) - 0).toNat = n by omega, rngD0]
/-! ### loops -/
theorem forP_map {f : PyData → γ → M γ} (enc : α → PyData) (g : γ → α → γ) (xs : List α) : ∀ (s : γ), (∀ a ∈ xs, ∀ s, f (enc a) s = ret (g s a)) → forP f (xs.map enc) s = ret (xs.foldl g s) := by
  induction xs with
  | nil => intro s _; rfl
  | cons x xs ih =>
    intro s h
    rw [List.map_cons]
    unfold forP
    rw [h x List.mem_cons_self, bn_ret, ih _ fun a ha => h a (List.mem_cons_of_mem _ ha)]
    rfl
theorem forP_st {f : PyData → γ → M γ} (I : Nat → γ → Bx → Prop) (xs : List PyData) : ∀ (k : Nat) (s : γ) (B : Bx), (∀ i x s B, xs[i]? = some x → I (k + i) s B → ∃ s' B', f x s B = some (s', B') ∧ I (k + i + 1) s' B') → I k s B → ∃ s' B', forP f xs s B = some (s', B') ∧ I (k + xs.length) s' B' := by
  induction xs with
  | nil => intro k s B _ h0; exact ⟨s, B, rfl, h0⟩
  | cons x xs ih =>
    intro k s B h h0
    obtain ⟨s1, B1, e1, h1⟩ := h 0 x s B rfl h0
    obtain ⟨s2, B2, e2, h2⟩ := ih (k + 1) s1 B1 (fun i y s B hy hi => by
      have := h (i + 1) y s B hy (by rw [show k + (i + 1) = k + 1 + i by omega]; exact hi)
      rw [show k + (i + 1) + 1 = k + 1 + i + 1 by omega] at this
      exact this) h1
    refine ⟨s2, B2, ?_, by rw [List.length_cons, show k + (xs.length + 1) = k + 1 + xs.length by omega]; exact h2⟩
    unfold forP
    rw [bn_run e1]
    exact e2
theorem forP_inv {f : PyData → γ → M γ} (I : Nat → γ → Prop) (xs : List PyData) : ∀ (k : Nat) (s : γ), (∀ i x s, xs[i]? = some x → I (k + i) s → ∃ s', f x s = ret s' ∧ I (k + i + 1) s') → I k s → ∃ s', forP f xs s = ret s' ∧ I (k + xs.length) s' := by
  induction xs with
  | nil => intro k s _ h0; exact ⟨s, rfl, h0⟩
  | cons x xs ih =>
    intro k s h h0
    obtain ⟨s1, e1, h1⟩ := h 0 x s rfl h0
    obtain ⟨s2, e2, h2⟩ := ih (k + 1) s1 (fun i y s hy hi => by
      have := h (i + 1) y s hy (by rw [show k + (i + 1) = k + 1 + i by omega]; exact hi)
      rw [show k + (i + 1) + 1 = k + 1 + i + 1 by omega] at this
      exact this) h1
    refine ⟨s2, ?_, by rw [List.length_cons, show k + (xs.length + 1) = k + 1 + xs.length by omega]; exact h2⟩
    unfold forP
    rw [e1, bn_ret]
    exact e2
theorem forP_rng {f : PyData → γ → M γ} (I : Nat → γ → Prop) (lo : Int) (n : Nat) (s : γ) (h : ∀ i s, i < n → I i s → ∃ s', f (.int (lo + (i : Int))) s = ret s' ∧ I (i + 1) s') (h0 : I 0 s) : ∃ s', forP f (rngD lo n) s = ret s' ∧ I n s' := by
  obtain ⟨s', e, h2⟩ := forP_inv (f := f) I (rngD lo n) 0 s (fun i x s hx hi => by
    obtain ⟨h1, rfl⟩ := rngD_get hx
    rw [Nat.zero_add] at hi ⊢
    exact h i s h1 hi) h0
  rw [rngD_length, Nat.zero_add] at h2
  exact ⟨s', e, h2⟩
theorem forP_rng0 {f : PyData → γ → M γ} (I : Nat → γ → Prop) (n : Nat) (s : γ) (h : ∀ i s, i < n → I i s → ∃ s', f (.int (i : Int)) s = ret s' ∧ I (i + 1) s') (h0 : I 0 s) : ∃ s', forP f (rngD 0 n) s = ret s' ∧ I n s' :=
  forP_rng I 0 n s (fun i s hi hI => by rw [Int.zero_add]; exact h i s hi hI) h0
theorem forP_enc {f : PyData → γ → M γ} (enc : α → PyData) (I : Nat → γ → Prop) (xs : List α) (s : γ) (h : ∀ i a s, xs[i]? = some a → I i s → ∃ s', f (enc a) s = ret s' ∧ I (i + 1) s') (h0 : I 0 s) : ∃ s', forP f (xs.map enc) s = ret s' ∧ I xs.length s' := by
  obtain ⟨s', e, h2⟩ := forP_inv (f := f) I (xs.map enc) 0 s (fun i x s hx hi => by
    rw [List.getElem?_map] at hx
    obtain ⟨a, ha, rfl⟩ := mpd hx
    rw [Nat.zero_add] at hi ⊢
    exact h i a s ha hi) h0
  rw [List.length_map, Nat.zero_add] at h2
  exact ⟨s', e, h2⟩
theorem forL_st {f : PyData → γ → M (Lo γ)} (I : Nat → γ → Bx → Prop) (xs : List PyData) : ∀ (k : Nat) (s : γ) (B : Bx), (∀ i x s B, xs[i]? = some x → I (k + i) s B → ∃ s' B', (f x s B = some (.nx s', B') ∨ f x s B = some (.ct s', B')) ∧ I (k + i + 1) s' B') → I k s B → ∃ s' B', forL f xs s B = some (.nx s', B') ∧ I (k + xs.length) s' B' := by
  induction xs with
  | nil => intro k s B _ h0; exact ⟨s, B, rfl, h0⟩
  | cons x xs ih =>
    intro k s B h h0
    obtain ⟨s1, B1, e1, h1⟩ := h 0 x s B rfl h0
    obtain ⟨s2, B2, e2, h2⟩ := ih (k + 1) s1 B1 (fun i y s B hy hi => by
      have := h (i + 1) y s B hy (by rw [show k + (i + 1) = k + 1 + i by omega]; exact hi)
      rw [show k + (i + 1) + 1 = k + 1 + i + 1 by omega] at this
      exact this) h1
    refine ⟨s2, B2, ?_, by rw [List.length_cons, show k + (xs.length + 1) = k + 1 + xs.length by omega]; exact h2⟩
    unfold forL
    rcases e1 with e1 | e1
    · rw [bn_run e1]; exact e2
    · rw [bn_run e1]; exact e2
theorem forL_opt {f : PyData → γ → M (Lo γ)} (enc : α → PyData) (g : γ → α → Option γ) (r : PyData) (xs : List α) : ∀ (s : γ), (∀ a ∈ xs, ∀ s, f (enc a) s = ret (match g s a with | some s' => .nx s' | none => .rt r)) → forL f (xs.map enc) s = ret (match xs.foldlM g s with | some s' => .nx s' | none => .rt r) := by
  induction xs with
  | nil => intro s _; rfl
  | cons x xs ih =>
    intro s h
    rw [List.map_cons, List.foldlM_cons]
    unfold forL
    rw [h x List.mem_cons_self, bn_ret]
    cases hg : g s x with
    | none => rfl
    | some s' => exact ih s' fun a ha => h a (List.mem_cons_of_mem _ ha)
theorem forL_all {f : PyData → Unit → M (Lo Unit)} (enc : α → PyData) (t : α → Bool) (r : PyData) (xs : List α) (h : ∀ a ∈ xs, f (enc a) () = ret (if t a = true then .nx () else .rt r)) : forL f (xs.map enc) () = ret (if xs.all t = true then .nx () else .rt r) := by
  induction xs with
  | nil => rfl
  | cons x xs ih =>
    rw [List.map_cons, List.all_cons]
    unfold forL
    rw [h x List.mem_cons_self, bn_ret]
    cases ht : t x with
    | true => simp only [if_true, Bool.true_and]; exact ih fun a ha => h a (List.mem_cons_of_mem _ ha)
    | false => simp only [Bool.false_eq_true, if_false, Bool.false_and]
theorem forL_rng {f : PyData → Unit → M (Lo Unit)} (t : Nat → Bool) (r : PyData) (lo : Int) (n : Nat) (h : ∀ i, i < n → f (.int (lo + (i : Int))) () = ret (if t i = true then .nx () else .rt r)) : forL f (rngD lo n) () = ret (if (List.range n).all t = true then .nx () else .rt r) :=
  forL_all (fun (i : Nat) => PyData.int (lo + (i : Int))) t r (List.range n) fun i hi => h i (List.mem_range.mp hi)
theorem mapP_st {f : α → M β} (J : Bx → Prop) (P : β → Prop) : ∀ (xs : List α) (B : Bx), (∀ x ∈ xs, ∀ B, J B → ∃ y B', f x B = some (y, B') ∧ P y ∧ J B') → J B → ∃ ys B', mapP f xs B = some (ys, B') ∧ ys.length = xs.length ∧ (∀ y ∈ ys, P y) ∧ J B'
  | [], B, _, hB => ⟨[], B, rfl, rfl, fun _ h => absurd h List.not_mem_nil, hB⟩
  | x :: xs, B, h, hB => by
    obtain ⟨y, B1, e1, p1, j1⟩ := h x List.mem_cons_self B hB
    obtain ⟨ys, B2, e2, l2, p2, j2⟩ := mapP_st J P xs B1 (fun z hz => h z (List.mem_cons_of_mem _ hz)) j1
    refine ⟨y :: ys, B2, ?_, by rw [List.length_cons, List.length_cons, l2], fun z hz => ?_, j2⟩
    · unfold mapP
      rw [bn_run e1, bn_run e2]
      rfl
    · rcases List.mem_cons.mp hz with e | e
      · rw [e]; exact p1
      · exact p2 z e
theorem cmpP_st {f : PyData → M PyData} (J : Bx → Prop) (P : PyData → Prop) (xs : List PyData) (B : Bx) (hl : xs.length < 1000000) (h : ∀ x ∈ xs, ∀ B, J B → ∃ y B', f x B = some (y, B') ∧ P y ∧ J B') (hB : J B) : ∃ ys B', cmpP f xs B = some (ys, B') ∧ ys.length = xs.length ∧ (∀ y ∈ ys, P y) ∧ J B' := by
  unfold cmpP
  rw [if_pos (szlt hl)]
  exact mapP_st J P xs B h hB
theorem whP_ret {T : γ → M Bool} {st : γ → M (Lo γ)} (I : γ → Prop) (μ : γ → Nat) (h : ∀ s, I s → T s = ret false ∨ (T s = ret true ∧ ∃ s', st s = ret (.nx s') ∧ I s' ∧ μ s' < μ s)) : ∀ (n : Nat) (s : γ), μ s ≤ n → I s → ∃ s', whP T st s = ret (.nx s') ∧ I s' ∧ T s' = ret false := by
  intro n
  induction n with
  | zero =>
    intro s hn hs
    rcases h s hs with e | ⟨e, s', e2, h2, h3⟩
    · exact ⟨s, funext fun B => whP_end (by rw [e]; rfl), hs, e⟩
    · omega
  | succ n ih =>
    intro s hn hs
    rcases h s hs with e | ⟨e, s', e2, h2, h3⟩
    · exact ⟨s, funext fun B => whP_end (by rw [e]; rfl), hs, e⟩
    · obtain ⟨s2, e3, h4, h5⟩ := ih s' (by omega) h2
      exact ⟨s2, funext fun B => whP_turn (B1 := B) (B2 := B) (by rw [e]; rfl) (by rw [e2]; rfl) (congrFun e3 B), h4, h5⟩
end
/-! ### rows of numbers -/
def nD (xs : List Nat) : List PyData := xs.map fun (x : Nat) => PyData.int (x : Int)
theorem nD_len (xs : List Nat) : (nD xs).length = xs.length := by simp [nD]
theorem at_map {α : Type} (enc : α → PyData) {xs : List α} {i : Nat} {a : α} (h : xs[i]? = some a) : L2.atI (xs.map enc) (i : Int) = some (enc a) := L2.atI_nat (by rw [List.getElem?_map, h]; rfl)
theorem at_nD {xs : List Nat} {i : Nat} (h : i < xs.length) : L2.atI (nD xs) (i : Int) = some (.int (xs.getD i 0 : Nat)) := by
  refine L2.atI_nat ?_
  unfold nD
  rw [List.getElem?_map, List.getD_eq_getElem?_getD, List.getElem?_eq_getElem h]
  rfl
theorem nD_app (xs ys : List Nat) : nD xs ++ nD ys = nD (xs ++ ys) := by simp [nD]
theorem nD_snoc (xs : List Nat) (a : Nat) : nD xs ++ [.int (a : Int)] = nD (xs ++ [a]) := by simp [nD]
theorem nD_emp (xs : List Nat) : (nD xs).isEmpty = xs.isEmpty := by cases xs <;> rfl
theorem nD_ints (v : List Nat) : nD v = (v.map fun (x : Nat) => (x : Int)).map PyData.int := by
  unfold nD
  rw [List.map_map]
  rfl
theorem nD_inj {a b : List Nat} (h : nD a = nD b) : a = b := by
  induction a generalizing b with
  | nil => cases b with
    | nil => rfl
    | cons y r => cases h
  | cons x r ih => cases b with
    | nil => cases h
    | cons y q =>
      unfold nD at h
      rw [List.map_cons, List.map_cons] at h
      injection h with h1 h2
      injection h1 with h1
      rw [ih h2, Int.ofNat.inj h1]
theorem ints_nD (xs : List Nat) : intsOf (nD xs) = some (xs.map fun (x : Nat) => (x : Int)) := by
  rw [nD_ints, intsOf_map]
theorem sum_cast (xs : List Nat) : (xs.map fun (x : Nat) => (x : Int)).sum = ((xs.sum : Nat) : Int) := by
  induction xs with
  | nil => rfl
  | cons x r ih => rw [List.map_cons, List.sum_cons, ih, List.sum_cons]; omega
theorem sumL_nD (xs : List Nat) : pySumA [.list (nD xs)] = some (.int (xs.sum : Nat)) := by
  show (intsOf (nD xs)).map _ = _
  rw [ints_nD, Option.map_some, sum_cast]
theorem sumT_nD (xs : List Nat) : pySumA [.tuple (nD xs)] = some (.int (xs.sum : Nat)) := by
  show (intsOf (nD xs)).map _ = _
  rw [ints_nD, Option.map_some, sum_cast]
theorem all_bools {α : Type} (g : α → Bool) (xs : List α) : pyAll [.list (xs.map fun x => PyData.bool (g x))] = some (.bool (xs.all g)) := by
  have e : pyAll [.list (xs.map fun x => PyData.bool (g x))] = (bolsOf (xs.map fun x => PyData.bool (g x))).map fun ns => PyData.bool (ns.all id) := rfl
  have e2 : (xs.map fun x => PyData.bool (g x)) = (xs.map g).map PyData.bool := by rw [List.map_map]; rfl
  rw [e, e2, bolsOf_map, Option.map_some, List.all_map]
  rfl
theorem any_bools {α : Type} (g : α → Bool) (xs : List α) : pyAny [.list (xs.map fun x => PyData.bool (g x))] = some (.bool (xs.any g)) := by
  have e : pyAny [.list (xs.map fun x => PyData.bool (g x))] = (bolsOf (xs.map fun x => PyData.bool (g x))).map fun ns => PyData.bool (ns.any id) := rfl
  have e2 : (xs.map fun x => PyData.bool (g x)) = (xs.map g).map PyData.bool := by rw [List.map_map]; rfl
  rw [e, e2, bolsOf_map, Option.map_some, List.any_map]
  rfl
theorem addL {xs ys : List PyData} (h : xs.length + ys.length ≤ 1000000) : pyAdd (.list xs) (.list ys) = some (.list (xs ++ ys)) := if_pos (sz h)
theorem addT {xs ys : List PyData} (h : xs.length + ys.length ≤ 1000000) : pyAdd (.tuple xs) (.tuple ys) = some (.tuple (xs ++ ys)) := if_pos (sz h)
theorem appOk {xs : List PyData} {x : PyData} (h : xs.length < 1000000) : appO xs x = some (xs ++ [x]) := appO_ok (szlt h)
theorem extOk {xs zs : List PyData} (h : xs.length + zs.length ≤ 1000000) : extO xs (.list zs) = some (xs ++ zs) := extO_ok (sz h)
theorem extBOk {xs zs : List PyData} (h : xs.length + zs.length ≤ 1000000) : extBO xs (.list zs) = some (xs ++ zs) := extBO_l (sz h)
theorem extBOkT {xs zs : List PyData} (h : xs.length + zs.length ≤ 1000000) : extBO xs (.tuple zs) = some (xs ++ zs) := extBO_t (sz h)
theorem szOk {xs : List PyData} (h : xs.length ≤ 1000000) : szO xs = some xs := if_pos (sz h)
theorem sum_app (xs ys : List Nat) : (xs ++ ys).sum = xs.sum + ys.sum := List.sum_append
/-! cuts -/
theorem cut_to {xs : List PyData} (i : Nat) : cutD xs none (some (i : Int)) = xs.take i := by
  unfold cutD
  rw [HT.sIx_none, HT.sIx_nat, Nat.sub_zero, List.drop_zero]
  rcases Nat.le_total i xs.length with h | h
  · rw [Nat.min_eq_left h]
  · rw [Nat.min_eq_right h, List.take_length, List.take_of_length_le h]
theorem cut_from {xs : List PyData} (i : Nat) : cutD xs (some (i : Int)) none = xs.drop i := by
  unfold cutD
  rw [HT.sIx_none, HT.sIx_nat]
  rcases Nat.le_total i xs.length with h | h
  · rw [Nat.min_eq_left h]
    exact List.take_of_length_le (by rw [List.length_drop]; exact Nat.le_refl _)
  · rw [Nat.min_eq_right h, List.drop_length, List.drop_of_length_le h]
    simp
theorem cut_last1 (xs : List PyData) : cutD xs none (some (-1)) = xs.dropLast := by
  unfold cutD
  rw [HT.sIx_none]
  have e : HT.sIx xs.length xs.length (some (-1)) = xs.length - 1 := by
    show (if (-1 : Int) < 0 then ((-1 : Int) + (xs.length : Int)).toNat else min (-1 : Int).toNat xs.length) = _
    rw [if_pos (by decide)]
    omega
  rw [e, List.drop_zero, Nat.sub_zero, List.dropLast_eq_take]
theorem cut_lastn (xs : List PyData) : cutD xs (some (-1)) none = xs.drop (xs.length - 1) := by
  unfold cutD
  rw [HT.sIx_none]
  have e : HT.sIx xs.length 0 (some (-1)) = xs.length - 1 := by
    show (if (-1 : Int) < 0 then ((-1 : Int) + (xs.length : Int)).toNat else min (-1 : Int).toNat xs.length) = _
    rw [if_pos (by decide)]
    omega
  rw [e]
  exact List.take_of_length_le (by rw [List.length_drop]; exact Nat.le_refl _)
theorem cut_len (xs : List PyData) (lo hi : Option Int) : (cutD xs lo hi).length ≤ xs.length := by
  unfold cutD
  rw [List.length_take, List.length_drop]
  omega
theorem cut_mem {xs : List PyData} {lo hi : Option Int} {x : PyData} (h : x ∈ cutD xs lo hi) : x ∈ xs := List.mem_of_mem_drop (List.mem_of_mem_take h)
theorem nD_take (xs : List Nat) (n : Nat) : (nD xs).take n = nD (xs.take n) := by unfold nD; rw [List.map_take]
theorem nD_drop (xs : List Nat) (n : Nat) : (nD xs).drop n = nD (xs.drop n) := by unfold nD; rw [List.map_drop]
/-! equality -/
theorem canLayAll {xs : List PyData} (h : ∀ x ∈ xs, x.canLay0 = true) : PyData.canLayAll0 xs = true := by
  induction xs with
  | nil => rfl
  | cons x r ih =>
    unfold PyData.canLayAll0
    rw [h x List.mem_cons_self, ih fun y hy => h y (List.mem_cons_of_mem _ hy)]
    rfl
theorem depthAll {xs : List PyData} {n : Nat} (h : ∀ x ∈ xs, x.depth ≤ n) : PyData.depthAll xs ≤ n := by
  induction xs with
  | nil => exact Nat.zero_le _
  | cons x r ih =>
    unfold PyData.depthAll
    exact Nat.max_le.mpr ⟨h x List.mem_cons_self, ih fun y hy => h y (List.mem_cons_of_mem _ hy)⟩
/-- a value that can be compared -/
def okD (d : PyData) : Prop := d.canLay0 = true ∧ d.depth ≤ 60
theorem ok_int (i : Int) : okD (.int i) := ⟨rfl, Nat.zero_le _⟩
theorem ok_nD (xs : List Nat) : ∀ x ∈ nD xs, okD x := fun x hx => by
  obtain ⟨n, _, rfl⟩ := List.mem_map.mp hx
  exact ok_int _
theorem sh_of {d : PyData} (h : okD d) : SeqAt.shaped d = true := by
  unfold SeqAt.shaped
  rw [h.1, decide_eq_true (Nat.le_trans h.2 (by decide))]
  rfl
theorem sh_list {xs : List PyData} (h : ∀ x ∈ xs, okD x) : SeqAt.shaped (.list xs) = true := by
  unfold SeqAt.shaped PyData.canLay0 PyData.depth
  rw [canLayAll fun x hx => (h x hx).1]
  have := depthAll fun x hx => (h x hx).2
  rw [decide_eq_true (by omega)]
  rfl
theorem sh_tup {xs : List PyData} (h : ∀ x ∈ xs, okD x) : SeqAt.shaped (.tuple xs) = true := by
  unfold SeqAt.shaped PyData.canLay0 PyData.depth
  rw [canLayAll fun x hx => (h x hx).1]
  have := depthAll fun x hx => (h x hx).2
  rw [decide_eq_true (by omega)]
  rfl
theorem eqv_all_nil (xs : List PyData) : PyData.eqvAll xs [] = xs.isEmpty := by cases xs <;> rfl
theorem eqTN {xs : List PyData} (h : ∀ x ∈ xs, okD x) : pyEq (.tuple xs) (.tuple []) = some xs.isEmpty := by
  unfold pyEq
  rw [if_pos ⟨sh_tup h, sh_tup (fun x hx => absurd hx List.not_mem_nil)⟩]
  unfold PyData.eqv
  rw [eqv_all_nil]
theorem eqLN {xs : List PyData} (h : ∀ x ∈ xs, okD x) : pyEq (.list xs) (.list []) = some xs.isEmpty := by
  unfold pyEq
  rw [if_pos ⟨sh_list h, sh_list (fun x hx => absurd hx List.not_mem_nil)⟩]
  unfold PyData.eqv
  rw [eqv_all_nil]
theorem ne_of_eq {x y : PyData} {b : Bool} (h : pyEq x y = some b) : pyNe x y = some (!b) := by
  unfold pyEq at h
  unfold pyNe
  split at h
  · rename_i hc
    rw [if_pos hc, Option.some.inj h]
  · cases h
theorem eqBB (a b : Bool) : pyEq (.bool a) (.bool b) = some (a == b) := by
  unfold pyEq
  rw [if_pos ⟨sh_bool, sh_bool⟩, eqv_bb]
theorem eqv_ints : ∀ (a b : List Int), PyData.eqvAll (a.map PyData.int) (b.map PyData.int) = decide (a = b)
  | [], [] => rfl
  | [], y :: ys => rfl
  | x :: xs, [] => rfl
  | x :: xs, y :: ys => by
    simp only [List.map_cons]
    unfold PyData.eqvAll
    rw [eqv_ints xs ys, eqv_ii]
    by_cases h : x = y
    · subst h; simp
    · simp [h]
theorem eqv_nD (a b : List Nat) : PyData.eqvAll (nD a) (nD b) = decide (a = b) := by
  rw [nD_ints, nD_ints, eqv_ints, decide_eq_decide]
  constructor
  · intro h
    have := congrArg (List.map PyData.int) h
    rw [← nD_ints, ← nD_ints] at this
    exact nD_inj this
  · intro h; rw [h]
theorem eqv_tup (a b : List PyData) : PyData.eqv (.tuple a) (.tuple b) = PyData.eqvAll a b := by unfold PyData.eqv; rfl
theorem eqv_list (a b : List PyData) : PyData.eqv (.list a) (.list b) = PyData.eqvAll a b := by unfold PyData.eqv; rfl
theorem eqv_cons (x y : PyData) (xs ys : List PyData) : PyData.eqvAll (x :: xs) (y :: ys) = (PyData.eqv x y && PyData.eqvAll xs ys) := by rw [PyData.eqvAll]
end Dn

set_option Elab.async false
set_option linter.all false
set_option autoImplicit false
set_option maxRecDepth 100000
set_option maxHeartbeats 2000000
/-! The order of data: rows, rows of rows; what sorted and min come to. -/
namespace Dn
open PySem
/-- a strict order, total -/
structure Lin {α : Type} (lt : α → α → Bool) : Prop where
  irr : ∀ x, lt x x = false
  trans : ∀ x y z, lt x y = true → lt y z = true → lt x z = true
  tot : ∀ x y, lt x y = false → lt y x = false → x = y
namespace Lin
variable {α : Type} {lt : α → α → Bool}
theorem asym (h : Lin lt) {x y : α} (e : lt x y = true) : lt y x = false := by
  cases q : lt y x with
  | false => rfl
  | true =>
    have := h.trans x y x e q
    rw [h.irr] at this
    cases this
/-- not after is handed on -/
theorem ntrans (h : Lin lt) {x y z : α} (a : lt y x = false) (b : lt z y = false) : lt z x = false := by
  cases q : lt z x with
  | false => rfl
  | true =>
    cases r : lt x y with
    | true =>
      have := h.trans z x y q r
      rw [b] at this; cases this
    | false =>
      have e := h.tot x y r a
      subst e
      rw [b] at q; cases q
end Lin
def lex {α : Type} [DecidableEq α] (lt : α → α → Bool) : List α → List α → Bool
  | [], [] => false
  | [], _ :: _ => true
  | _ :: _, [] => false
  | x :: xs, y :: ys => if x = y then lex lt xs ys else lt x y
theorem lin_lex {α : Type} [DecidableEq α] {lt : α → α → Bool} (h : Lin lt) : Lin (lex lt) where
  irr := fun x => by
    induction x with
    | nil => rfl
    | cons a r ih => unfold lex; rw [if_pos rfl]; exact ih
  trans := fun x => by
    induction x with
    | nil =>
      intro y z h1 h2
      cases z with
      | nil => cases y <;> cases h2
      | cons _ _ => rfl
    | cons a r ih =>
      intro y z h1 h2
      cases y with
      | nil => cases h1
      | cons b s =>
        cases z with
        | nil => cases h2
        | cons c t =>
          unfold lex at h1 h2 ⊢
          by_cases e1 : a = b
          · subst e1
            rw [if_pos rfl] at h1
            by_cases e2 : a = c
            · rw [if_pos e2] at h2 ⊢; exact ih s t h1 h2
            · rw [if_neg e2] at h2 ⊢; exact h2
          · rw [if_neg e1] at h1
            by_cases e2 : b = c
            · subst e2
              rw [if_neg e1]; exact h1
            · rw [if_neg e2] at h2
              have h3 := h.trans a b c h1 h2
              by_cases e3 : a = c
              · subst e3
                rw [h.irr] at h3; cases h3
              · rw [if_neg e3]; exact h3
  tot := fun x => by
    induction x with
    | nil => intro y h1 h2; cases y with
      | nil => rfl
      | cons _ _ => cases h1
    | cons a r ih =>
      intro y h1 h2
      cases y with
      | nil => cases h2
      | cons b s =>
        unfold lex at h1 h2
        by_cases e1 : a = b
        · subst e1
          rw [if_pos rfl] at h1 h2
          rw [ih s h1 h2]
        · rw [if_neg e1] at h1
          rw [if_neg (fun z => e1 z.symm)] at h2
          exact absurd (h.tot a b h1 h2) e1
def ltN (a b : Nat) : Bool := decide (a < b)
def ltI' (a b : Int) : Bool := decide (a < b)
theorem lin_N : Lin ltN where
  irr := fun x => decide_eq_false (Nat.lt_irrefl x)
  trans := fun x y z h1 h2 => decide_eq_true (Nat.lt_trans (of_decide_eq_true h1) (of_decide_eq_true h2))
  tot := fun x y h1 h2 => by
    have := of_decide_eq_false h1
    have := of_decide_eq_false h2
    omega
theorem lin_I : Lin ltI' where
  irr := fun x => decide_eq_false (Int.lt_irrefl x)
  trans := fun x y z h1 h2 => decide_eq_true (Int.lt_trans (of_decide_eq_true h1) (of_decide_eq_true h2))
  tot := fun x y h1 h2 => by
    have := of_decide_eq_false h1
    have := of_decide_eq_false h2
    omega
/-- data of one kind, and their order -/
structure Enc {α : Type} [DecidableEq α] (enc : α → PyData) (lt : α → α → Bool) : Prop where
  ord : ∀ a b, PySem.W.dataLt (enc a) (enc b) = lt a b
  eqv : ∀ a b, PyData.eqv (enc a) (enc b) = decide (a = b)
  al : ∀ a b, PySem.W.alike (enc a) (enc b) = true
theorem rowLt_map {α : Type} [DecidableEq α] {enc : α → PyData} {lt : α → α → Bool} (E : Enc enc lt) : ∀ a b : List α, PySem.W.rowLt (a.map enc) (b.map enc) = lex lt a b
  | [], [] => PyProof.Rows.lex_irrefl _
  | [], y :: ys => by
    show PySem.W.rowLt [] (enc y :: ys.map enc) = true
    unfold PySem.W.rowLt
    rw [PySem.W.toks_all_cons]
    simp only [PySem.W.keyToksAll]
    rw [PyProof.Rows.lex_diff (O := PyProof.Rows.itemOrd) (by simp)]
    rfl
  | x :: xs, [] => by
    show PySem.W.rowLt (enc x :: xs.map enc) [] = false
    unfold PySem.W.rowLt
    rw [PySem.W.toks_all_cons]
    simp only [PySem.W.keyToksAll]
    rw [PyProof.Rows.lex_diff (O := PyProof.Rows.itemOrd) (by simp)]
    rfl
  | x :: xs, y :: ys => by
    show PySem.W.rowLt (enc x :: xs.map enc) (enc y :: ys.map enc) = _
    unfold PySem.W.rowLt
    rw [PySem.W.dataLt_cons (E.al x y), E.ord, E.eqv]
    unfold lex
    by_cases h : x = y
    · rw [if_pos h, if_pos (decide_eq_true h)]
      exact rowLt_map E xs ys
    · rw [if_neg h, if_neg (by rw [decide_eq_false h]; exact Bool.false_ne_true)]
theorem eqv_map {α : Type} [DecidableEq α] {enc : α → PyData} {lt : α → α → Bool} (E : Enc enc lt) : ∀ a b : List α, PyData.eqvAll (a.map enc) (b.map enc) = decide (a = b)
  | [], [] => rfl
  | [], _ :: _ => rfl
  | _ :: _, [] => rfl
  | x :: xs, y :: ys => by
    rw [List.map_cons, List.map_cons, eqv_cons, E.eqv, eqv_map E xs ys]
    by_cases h : x = y
    · subst h; simp
    · simp [h]
theorem alike_map {α : Type} [DecidableEq α] {enc : α → PyData} {lt : α → α → Bool} (E : Enc enc lt) : ∀ a b : List α, PySem.W.alikeAll (a.map enc) (b.map enc) = true
  | [], [] => rfl
  | [], _ :: _ => rfl
  | _ :: _, [] => rfl
  | x :: xs, y :: ys => by
    rw [List.map_cons, List.map_cons]
    unfold PySem.W.alikeAll
    rw [E.al, alike_map E xs ys]
    rfl
theorem enc_tup {α : Type} [DecidableEq α] {enc : α → PyData} {lt : α → α → Bool} (E : Enc enc lt) : Enc (fun (a : List α) => .tuple (a.map enc)) (lex lt) where
  ord := rowLt_map E
  eqv := fun a b => by rw [eqv_tup, eqv_map E]
  al := fun a b => by unfold PySem.W.alike; exact alike_map E a b
theorem enc_int : Enc PyData.int ltI' where
  ord := fun a b => PySem.W.dataLt_int a b
  eqv := fun a b => by
    rw [eqv_ii]
    by_cases h : a = b
    · subst h; simp
    · simp [h]
  al := fun _ _ => rfl
theorem enc_nat : Enc (fun (n : Nat) => PyData.int (n : Int)) ltN where
  ord := fun a b => by
    rw [PySem.W.dataLt_int]
    exact decide_eq_decide.mpr (by omega)
  eqv := fun a b => by
    rw [eqv_ii]
    by_cases h : a = b
    · subst h; simp
    · have : ((a : Int) == (b : Int)) = false := by
        rw [beq_eq_false_iff_ne]; omega
      rw [this, decide_eq_false h]
  al := fun _ _ => rfl
/-- a row of numbers | a row of rows -/
def rowD (r : List Nat) : PyData := .tuple (nD r)
def rowsD (r : List (List Nat)) : PyData := .tuple (r.map rowD)
def ltR : List Nat → List Nat → Bool := lex ltN
def ltC : List (List Nat) → List (List Nat) → Bool := lex ltR
theorem lin_R : Lin ltR := lin_lex lin_N
theorem lin_C : Lin ltC := lin_lex lin_R
theorem enc_row : Enc rowD ltR := enc_tup enc_nat
theorem enc_rows : Enc rowsD ltC := enc_tup enc_row
/-- pairs -/
theorem enc_pair {α β : Type} [DecidableEq α] [DecidableEq β] {f : α → PyData} {g : β → PyData} {lt : α → α → Bool} {lu : β → β → Bool} (E : Enc f lt) (G : Enc g lu) (irr : ∀ x, lu x x = false) : Enc (fun (p : α × β) => .tuple [f p.1, g p.2]) (fun p q => if p.1 = q.1 then lu p.2 q.2 else lt p.1 q.1) where
  ord := fun a b => by
    rw [PySem.W.dataLt_pair (E.al _ _) (G.al _ _), E.eqv, G.eqv, E.ord, G.ord]
    by_cases h : a.1 = b.1
    · rw [if_pos (decide_eq_true h), if_pos h]
      by_cases h2 : a.2 = b.2
      · rw [if_pos (decide_eq_true h2), h2, irr]
      · rw [if_neg (by rw [decide_eq_false h2]; exact Bool.false_ne_true)]
    · rw [if_neg (by rw [decide_eq_false h]; exact Bool.false_ne_true), if_neg h]
  eqv := fun a b => by
    obtain ⟨a1, a2⟩ := a
    obtain ⟨b1, b2⟩ := b
    rw [eqv_tup, eqv_cons, eqv_cons, E.eqv, G.eqv]
    by_cases h : a1 = b1
    · subst h
      by_cases h2 : a2 = b2
      · subst h2; simp [PyData.eqvAll]
      · simp [h2]
    · simp [h]
  al := fun a b => by
    unfold PySem.W.alike PySem.W.alikeAll PySem.W.alikeAll PySem.W.alikeAll
    rw [E.al, G.al]
    rfl
theorem lin_pair {α β : Type} [DecidableEq α] {lt : α → α → Bool} {lu : β → β → Bool} (h : Lin lt) (g : Lin lu) : Lin (fun (p q : α × β) => if p.1 = q.1 then lu p.2 q.2 else lt p.1 q.1) where
  irr := fun x => by rw [if_pos rfl]; exact g.irr _
  trans := fun x y z h1 h2 => by
    by_cases e1 : x.1 = y.1
    · rw [if_pos e1] at h1
      by_cases e2 : y.1 = z.1
      · rw [if_pos e2] at h2
        rw [if_pos (e1.trans e2)]
        exact g.trans _ _ _ h1 h2
      · rw [if_neg e2] at h2
        rw [if_neg (by rw [e1]; exact e2), e1]
        exact h2
    · rw [if_neg e1] at h1
      by_cases e2 : y.1 = z.1
      · rw [if_neg (by rw [← e2]; exact e1), ← e2]
        exact h1
      · rw [if_neg e2] at h2
        have h3 := h.trans _ _ _ h1 h2
        by_cases e3 : x.1 = z.1
        · rw [e3, h.irr] at h3; cases h3
        · rw [if_neg e3]; exact h3
  tot := fun x y h1 h2 => by
    by_cases e1 : x.1 = y.1
    · rw [if_pos e1] at h1
      rw [if_pos e1.symm] at h2
      exact Prod.ext e1 (g.tot _ _ h1 h2)
    · rw [if_neg e1] at h1
      rw [if_neg (fun z => e1 z.symm)] at h2
      exact absurd (h.tot _ _ h1 h2) e1
/-! sorted -/
def leOf {α : Type} (lt : α → α → Bool) (a b : α) : Bool := !lt b a
theorem sortD_map {α : Type} [DecidableEq α] {enc : α → PyData} {lt : α → α → Bool} (E : Enc enc lt) (xs : List α) : sortD (xs.map enc) = (xs.mergeSort (leOf lt)).map enc := by
  unfold sortD
  rw [List.map_mergeSort (r := leOf lt) (s := PySem.W.dataLe false id)]
  intro a _ b _
  show (!lt b a) = (!PySem.W.dataLt (enc b) (enc a))
  rw [E.ord]
theorem sorted_pw {α : Type} {lt : α → α → Bool} (h : Lin lt) (xs : List α) : (xs.mergeSort (leOf lt)).Pairwise fun a b => lt b a = false := by
  have := List.pairwise_mergeSort (le := leOf lt) (fun a b c h1 h2 => by
    unfold leOf at *
    rw [Bool.not_eq_true'] at *
    exact h.ntrans h1 h2) (fun a b => by
    unfold leOf
    cases q : lt b a with
    | false => rfl
    | true => rw [h.asym q]; rfl) xs
  exact this.imp fun {a b} z => by
    unfold leOf at z
    rwa [Bool.not_eq_true'] at z
/-- sorted of what is ascending already -/
theorem sort_id {α : Type} {lt : α → α → Bool} {xs : List α} (hs : xs.Pairwise fun a b => lt b a = false) : xs.mergeSort (leOf lt) = xs :=
  List.mergeSort_of_pairwise (hs.imp fun {a b} z => by unfold leOf; rw [z]; rfl)
/-- rows that are both in order and hold the same are the same -/
theorem sort_uniq {α : Type} {lt : α → α → Bool} (h : Lin lt) : ∀ {xs ys : List α}, xs.Perm ys → xs.Pairwise (fun a b => lt b a = false) → ys.Pairwise (fun a b => lt b a = false) → xs = ys
  | [], ys, p, _, _ => (p.symm.eq_nil).symm
  | x :: xs, ys, p, hx, hy => by
    cases ys with
    | nil => exact absurd p.length_eq (by simp)
    | cons y ys =>
      rw [List.pairwise_cons] at hx hy
      have e : x = y := by
        have m1 : x ∈ y :: ys := p.subset List.mem_cons_self
        have m2 : y ∈ x :: xs := p.symm.subset List.mem_cons_self
        rcases List.mem_cons.mp m1 with z | z
        · exact z
        · rcases List.mem_cons.mp m2 with w | w
          · exact w.symm
          · exact h.tot x y (hy.1 x z) (hx.1 y w)
      subst e
      rw [sort_uniq h (p.cons_inv) hx.2 hy.2]
theorem sort_perm {α : Type} {lt : α → α → Bool} (h : Lin lt) {xs ys : List α} (p : xs.Perm ys) : xs.mergeSort (leOf lt) = ys.mergeSort (leOf lt) :=
  sort_uniq h ((List.mergeSort_perm _ _).trans (p.trans (List.mergeSort_perm _ _).symm)) (sorted_pw h xs) (sorted_pw h ys)
/-- the first of the sorted ones -/
theorem sort_head {α : Type} {lt : α → α → Bool} (h : Lin lt) {xs : List α} {x : α} (hm : x ∈ xs) (hl : ∀ y ∈ xs, lt y x = false) : ∃ r, xs.mergeSort (leOf lt) = x :: r := by
  have hp := List.mergeSort_perm xs (leOf lt)
  have hs := sorted_pw h xs
  cases e : xs.mergeSort (leOf lt) with
  | nil =>
    rw [e] at hp
    rw [hp.symm.eq_nil] at hm
    cases hm
  | cons y r =>
    rw [e] at hp hs
    rw [List.pairwise_cons] at hs
    have my : y ∈ xs := hp.subset List.mem_cons_self
    have mx : x ∈ y :: r := hp.symm.subset hm
    rcases List.mem_cons.mp mx with z | z
    · exact ⟨r, by rw [z]⟩
    · exact ⟨r, by rw [h.tot x y (hs.1 x z) (hl y my)]⟩
/-! which data can be sorted -/
theorem sortOk_tup {α : Type} [DecidableEq α] {enc : α → PyData} {lt : α → α → Bool} (E : Enc enc lt) (hd : ∀ a, (enc a).depth ≤ 59) (xs : List (List α)) (hne : ∀ x ∈ xs, x ≠ []) : sortOk (xs.map fun (a : List α) => PyData.tuple (a.map enc)) = true := by
  unfold sortOk
  rw [Bool.and_eq_true, Bool.and_eq_true, Bool.or_eq_true]
  refine ⟨⟨?_, ?_⟩, .inl ?_⟩
  · rw [List.all_eq_true]
    intro d h
    rw [List.all_eq_true]
    intro e h2
    obtain ⟨a, _, rfl⟩ := List.mem_map.mp h
    obtain ⟨b, _, rfl⟩ := List.mem_map.mp h2
    exact (enc_tup E).al a b
  · rw [List.all_eq_true]
    intro d h
    obtain ⟨a, _, rfl⟩ := List.mem_map.mp h
    refine decide_eq_true ?_
    unfold PyData.depth
    have := depthAll (xs := a.map enc) (n := 59) fun x hx => by
      obtain ⟨b, _, rfl⟩ := List.mem_map.mp hx
      exact hd b
    omega
  · rw [List.all_eq_true]
    intro d h
    obtain ⟨a, ha, rfl⟩ := List.mem_map.mp h
    cases a with
    | nil => exact absurd rfl (hne _ ha)
    | cons y r => rfl
theorem sortOk_int {α : Type} (f : α → Int) (xs : List α) : sortOk (xs.map fun a => PyData.int (f a)) = true := by
  unfold sortOk
  rw [Bool.and_eq_true, Bool.and_eq_true, Bool.or_eq_true]
  refine ⟨⟨?_, ?_⟩, .inr ?_⟩
  · rw [List.all_eq_true]
    intro d h
    rw [List.all_eq_true]
    intro e h2
    obtain ⟨a, _, rfl⟩ := List.mem_map.mp h
    obtain ⟨b, _, rfl⟩ := List.mem_map.mp h2
    rfl
  · rw [List.all_eq_true]
    intro d h
    obtain ⟨a, _, rfl⟩ := List.mem_map.mp h
    rfl
  · rw [List.all_eq_true]
    intro d h
    obtain ⟨a, _, rfl⟩ := List.mem_map.mp h
    rfl
theorem depth_row (r : List Nat) : (rowD r).depth ≤ 1 := by
  unfold rowD PyData.depth
  have := depthAll (xs := nD r) (n := 0) fun x hx => by
    obtain ⟨n, _, rfl⟩ := List.mem_map.mp hx
    exact Nat.le_refl _
  omega
theorem depth_rows (r : List (List Nat)) : (rowsD r).depth ≤ 2 := by
  unfold rowsD PyData.depth
  have := depthAll (xs := r.map rowD) (n := 1) fun x hx => by
    obtain ⟨n, _, rfl⟩ := List.mem_map.mp hx
    exact depth_row n
  omega
theorem lay_row (r : List Nat) : (rowD r).canLay0 = true := by
  unfold rowD PyData.canLay0
  exact canLayAll fun x hx => by
    obtain ⟨n, _, rfl⟩ := List.mem_map.mp hx
    rfl
theorem lay_rows (r : List (List Nat)) : (rowsD r).canLay0 = true := by
  unfold rowsD PyData.canLay0
  exact canLayAll fun x hx => by
    obtain ⟨n, _, rfl⟩ := List.mem_map.mp hx
    exact lay_row n
theorem ok_row (r : List Nat) : okD (rowD r) := ⟨lay_row r, Nat.le_trans (depth_row r) (by decide)⟩
theorem ok_rows (r : List (List Nat)) : okD (rowsD r) := ⟨lay_rows r, Nat.le_trans (depth_rows r) (by decide)⟩
theorem srt_ints {xs : List Nat} : pySortedB [.list (nD xs)] = some (nD (xs.mergeSort (leOf ltN))) := by
  show (if sortOk (nD xs) = true ∨ (nD xs).length ≤ 1 then some (sortD (nD xs)) else none) = _
  rw [if_pos (.inl (sortOk_int (fun (n : Nat) => (n : Int)) xs))]
  exact congrArg some (sortD_map enc_nat xs)
theorem srt_intsT {xs : List Nat} : pySortedB [.tuple (nD xs)] = some (nD (xs.mergeSort (leOf ltN))) := srt_ints
/-- a row is that of all numbers from 0 on if it is so sorted -/
theorem sort_range {xs : List Nat} {n : Nat} : xs.mergeSort (leOf ltN) = List.range n ↔ xs.Perm (List.range n) := by
  have hr : (List.range n).Pairwise fun a b => ltN b a = false := List.pairwise_lt_range.imp fun {a b} h => decide_eq_false (by omega)
  constructor
  · intro h
    rw [← h]
    exact (List.mergeSort_perm _ _).symm
  · intro h
    exact sort_uniq lin_N ((List.mergeSort_perm _ _).trans h) (sorted_pw lin_N xs) hr
/-! min, max of data -/
theorem bestOk_map {α : Type} [DecidableEq α] {enc : α → PyData} {lt : α → α → Bool} (E : Enc enc lt) (hok : ∀ a, okD (enc a)) (hn : ∀ a, enc a ≠ .none) (xs : List α) : bestOk (xs.map enc) = true := by
  unfold bestOk
  rw [Bool.and_eq_true, Bool.and_eq_true, Bool.and_eq_true]
  refine ⟨⟨⟨?_, ?_⟩, ?_⟩, ?_⟩
  · rw [List.all_eq_true]
    intro d h
    rw [List.all_eq_true]
    intro e h2
    obtain ⟨a, _, rfl⟩ := List.mem_map.mp h
    obtain ⟨b, _, rfl⟩ := List.mem_map.mp h2
    exact E.al a b
  · rw [List.all_eq_true]
    intro d h
    obtain ⟨a, _, rfl⟩ := List.mem_map.mp h
    exact decide_eq_true (hok a).2
  · rw [List.all_eq_true]
    intro d h
    obtain ⟨a, _, rfl⟩ := List.mem_map.mp h
    have := hn a
    cases e : enc a with
    | none => exact absurd e this
    | _ => rfl
  · rw [List.all_eq_true]
    intro d h
    obtain ⟨a, _, rfl⟩ := List.mem_map.mp h
    exact (hok a).1
def pickL {α : Type} (lt : α → α → Bool) (x : α) (xs : List α) : α := xs.foldl (fun a y => if lt y a = true then y else a) x
theorem minD_map {α : Type} [DecidableEq α] {enc : α → PyData} {lt : α → α → Bool} (E : Enc enc lt) : ∀ (xs : List α) (x : α), PySem.W.minD (enc x) (xs.map enc) = enc (pickL lt x xs)
  | [], x => rfl
  | y :: ys, x => by
    show PySem.W.minD (if PySem.W.dataLt (enc y) (enc x) = true then enc y else enc x) (ys.map enc) = enc (pickL lt (if lt y x = true then y else x) ys)
    rw [E.ord]
    cases lt y x with
    | true => simp only [if_true]; exact minD_map E ys y
    | false => simp only [Bool.false_eq_true, if_false]; exact minD_map E ys x
theorem pick_mem {α : Type} {lt : α → α → Bool} : ∀ (xs : List α) (x : α), pickL lt x xs ∈ x :: xs
  | [], x => List.mem_cons_self
  | y :: ys, x => by
    have := pick_mem (lt := lt) ys (if lt y x = true then y else x)
    show pickL lt (if lt y x = true then y else x) ys ∈ x :: y :: ys
    rcases List.mem_cons.mp this with e | e
    · rw [e]
      split
      · exact List.mem_cons_of_mem _ List.mem_cons_self
      · exact List.mem_cons_self
    · exact List.mem_cons_of_mem _ (List.mem_cons_of_mem _ e)
theorem pick_le {α : Type} {lt : α → α → Bool} (h : Lin lt) : ∀ (xs : List α) (x : α), ∀ y ∈ x :: xs, lt y (pickL lt x xs) = false
  | [], x, y, hy => by
    rw [List.mem_singleton.mp hy]
    exact h.irr _
  | z :: zs, x, y, hy => by
    show lt y (pickL lt (if lt z x = true then z else x) zs) = false
    have ih := pick_le h zs (if lt z x = true then z else x)
    have h0 := ih _ List.mem_cons_self
    rcases List.mem_cons.mp hy with e | hy
    · subst e
      refine h.ntrans h0 ?_
      cases q : lt z y with
      | true => simp only [if_true]; exact h.asym q
      | false => simp only [Bool.false_eq_true, if_false]; exact h.irr _
    · rcases List.mem_cons.mp hy with e | hy
      · subst e
        refine h.ntrans h0 ?_
        cases q : lt y x with
        | true => simp only [if_true]; exact h.irr _
        | false => simp only [Bool.false_eq_true, if_false]; exact q
      · exact ih y (List.mem_cons_of_mem _ hy)
/-- min of rows of numbers (a row that is no row of ints is not mistaken for one) -/
theorem minA_data {α : Type} [DecidableEq α] {enc : α → PyData} {lt : α → α → Bool} (E : Enc enc lt) (hok : ∀ a, okD (enc a)) (hn : ∀ a, enc a ≠ .none) (hi : ∀ a i, enc a ≠ .int i) (x : α) (xs : List α) : pyMinA [.list ((x :: xs).map enc)] = some (enc (pickL lt x xs)) := by
  have e0 : intsOf (enc x :: xs.map enc) = none := by
    cases e : enc x with
    | int i => exact absurd e (hi x i)
    | _ => rfl
  have e1 : pyMin1 [.list ((x :: xs).map enc)] = none := by
    show (intsOf (enc x :: xs.map enc)).bind _ = none
    rw [e0]
    rfl
  unfold pyMinA
  rw [e1]
  show pyBest PySem.W.minD [.list (enc x :: xs.map enc)] = _
  unfold pyBest
  simp only
  rw [if_pos (show bestOk (enc x :: xs.map enc) = true from bestOk_map E hok hn (x :: xs)), minD_map E]
theorem minA_nat (x : Nat) (xs : List Nat) : pyMinA [.list (nD (x :: xs))] = some (.int ((xs.foldl min x : Nat) : Int)) := by
  have e1 : pyMin1 [.list (nD (x :: xs))] = some (.int ((xs.foldl min x : Nat) : Int)) := by
    show (intsOf (nD (x :: xs))).bind _ = _
    rw [ints_nD]
    show some (PyData.int ((xs.map fun (y : Nat) => (y : Int)).foldl min (x : Int))) = _
    congr 2
    induction xs generalizing x with
    | nil => rfl
    | cons y ys ih =>
      simp only [List.map_cons, List.foldl_cons]
      rw [show min (x : Int) (y : Int) = ((min x y : Nat) : Int) by omega]
      exact ih (min x y)
  unfold pyMinA
  rw [e1]
  rfl
theorem maxA_nat (x : Nat) (xs : List Nat) : pyMaxA [.list (nD (x :: xs))] = some (.int ((xs.foldl max x : Nat) : Int)) := by
  have e1 : pyMax1 [.list (nD (x :: xs))] = some (.int ((xs.foldl max x : Nat) : Int)) := by
    show (intsOf (nD (x :: xs))).bind _ = _
    rw [ints_nD]
    show some (PyData.int ((xs.map fun (y : Nat) => (y : Int)).foldl max (x : Int))) = _
    congr 2
    induction xs generalizing x with
    | nil => rfl
    | cons y ys ih =>
      simp only [List.map_cons, List.foldl_cons]
      rw [show max (x : Int) (y : Int) = ((max x y : Nat) : Int) by omega]
      exact ih (max x y)
  unfold pyMaxA
  rw [e1]
  rfl
theorem eq_rows (E : ∀ a b : PyData, True) (x y : PyData) (hx : okD x) (hy : okD y) : pyEq x y = some (PyData.eqv x y) := by
  unfold pyEq
  rw [if_pos ⟨sh_of hx, sh_of hy⟩]
theorem eq_ok {x y : PyData} (hx : okD x) (hy : okD y) : pyEq x y = some (PyData.eqv x y) := eq_rows (fun _ _ => trivial) x y hx hy
theorem eqL_nD (a b : List Nat) : pyEq (.list (nD a)) (.list (nD b)) = some (decide (a = b)) := by
  unfold pyEq
  rw [if_pos ⟨sh_list (ok_nD a), sh_list (ok_nD b)⟩, eqv_list, eqv_nD]
end Dn

set_option Elab.async false
set_option linter.all false
set_option autoImplicit false
set_option maxRecDepth 100000
set_option maxHeartbeats 2000000
/-! Small things that many laws want (first written for k84, where they lie in its own texts). -/
namespace Dn
open PySem
namespace G
/-! the least of some numbers -/
def mn : List Nat → Nat
  | [] => 0
  | x :: r => r.foldl min x
theorem foldl_min_le : ∀ (r : List Nat) (x : Nat), r.foldl min x ≤ x ∧ ∀ y ∈ r, r.foldl min x ≤ y
  | [], x => ⟨Nat.le_refl x, fun _ h => absurd h List.not_mem_nil⟩
  | z :: r, x => by
    obtain ⟨h1, h2⟩ := foldl_min_le r (min x z)
    rw [List.foldl_cons]
    refine ⟨Nat.le_trans h1 (Nat.min_le_left _ _), fun y hy => ?_⟩
    rcases List.mem_cons.mp hy with e | e
    · rw [e]; exact Nat.le_trans h1 (Nat.min_le_right _ _)
    · exact h2 y e
theorem foldl_min_mem : ∀ (r : List Nat) (x : Nat), r.foldl min x ∈ x :: r
  | [], x => List.mem_cons_self
  | z :: r, x => by
    rw [List.foldl_cons]
    have := foldl_min_mem r (min x z)
    rcases List.mem_cons.mp this with e | e
    · rw [e]
      rcases Nat.le_total x z with h | h
      · rw [Nat.min_eq_left h]; exact List.mem_cons_self
      · rw [Nat.min_eq_right h]; exact List.mem_cons_of_mem _ List.mem_cons_self
    · exact List.mem_cons_of_mem _ (List.mem_cons_of_mem _ e)
theorem mn_le {xs : List Nat} {x : Nat} (h : x ∈ xs) : mn xs ≤ x := by
  cases xs with
  | nil => cases h
  | cons y r =>
    obtain ⟨h1, h2⟩ := foldl_min_le r y
    rcases List.mem_cons.mp h with e | e
    · rw [e]; exact h1
    · exact h2 x e
theorem mn_mem {xs : List Nat} (h : xs ≠ []) : mn xs ∈ xs := by
  cases xs with
  | nil => exact absurd rfl h
  | cons y r => exact foldl_min_mem r y
theorem mn_eq {xs : List Nat} {x : Nat} (h : x ∈ xs) (h2 : ∀ y ∈ xs, x ≤ y) : mn xs = x := Nat.le_antisymm (mn_le h) (h2 _ (mn_mem (by rintro rfl; cases h)))
theorem mn_nat (xs : List Nat) (h : xs ≠ []) : pyMinA [.list (nD xs)] = some (.int (mn xs : Nat)) := by
  cases xs with
  | nil => exact absurd rfl h
  | cons x r => exact minA_nat x r
theorem nD_ex {P : Nat → Prop} : ∀ {ys : List PyData}, (∀ y ∈ ys, ∃ x : Nat, y = .int (x : Int) ∧ P x) → ∃ ws : List Nat, ys = nD ws ∧ ∀ x ∈ ws, P x
  | [], _ => ⟨[], rfl, fun _ h => absurd h List.not_mem_nil⟩
  | y :: ys, h => by
    obtain ⟨x, rfl, hx⟩ := h y List.mem_cons_self
    obtain ⟨ws, rfl, hw⟩ := nD_ex (P := P) fun z hz => h z (List.mem_cons_of_mem _ hz)
    refine ⟨x :: ws, rfl, fun z hz => ?_⟩
    rcases List.mem_cons.mp hz with e | e
    · rw [e]; exact hx
    · exact hw z e
theorem forL_yes {f : PyData → Unit → M (Lo Unit)} : ∀ (xs : List PyData), (∀ a ∈ xs, f a () = ret (.nx ())) → forL f xs () = ret (.nx ())
  | [], _ => rfl
  | x :: xs, h => by
    show bn (f x ()) _ = _
    rw [h x List.mem_cons_self, bn_ret]
    exact forL_yes xs fun a ha => h a (List.mem_cons_of_mem _ ha)
theorem at_last {xs : List PyData} (h : 0 < xs.length) : L2.atI xs (-1) = xs[xs.length - 1]? := by
  unfold L2.atI L2.ixN
  rw [if_neg (by omega), if_pos (by omega)]
  show xs[_]? = _
  congr 1
  omega
theorem rep_one (d : PyData) (k : Nat) (h : k ≤ 1000) : pyMulB (.tuple [d]) (.int (k : Int)) = some (.tuple (List.replicate k d)) := by
  have e : repD [d] (k : Int) = List.replicate k d := by
    unfold repD
    rw [Int.toNat_natCast]
    clear h
    induction k with
    | zero => rfl
    | succ k ih => rw [List.replicate_succ, List.flatten_cons, ih, List.replicate_succ]; rfl
  show (if -(2 ^ 63) ≤ (k : Int) ∧ (k : Int) ≤ 1000 ∧ [d].length ≤ 1000 then some (PyData.tuple (repD [d] (k : Int))) else none) = _
  rw [if_pos ⟨by omega, by omega, (show 1 ≤ 1000 by decide)⟩, e]
theorem all_nil {P : PyData → Prop} : ∀ x ∈ ([] : List PyData), P x := fun x hx => absurd hx List.not_mem_nil
theorem all_cons' {P : PyData → Prop} {a : PyData} {l : List PyData} (h1 : P a) (h2 : ∀ x ∈ l, P x) : ∀ x ∈ a :: l, P x := fun x hx => by
  rcases List.mem_cons.mp hx with e | e
  · rw [e]; exact h1
  · exact h2 x e

end G
end Dn

set_option Elab.async false
set_option linter.all false
set_option autoImplicit false
set_option maxRecDepth 100000
set_option maxHeartbeats 2000000
/-! More that many laws want. -/
namespace Dn
open PySem
namespace G
theorem max2_nat {a b : Nat} : pyMax2 [.int 0, .int ((a : Int) - (b : Int))] = some (.int ((a - b : Nat) : Int)) := by
  show some (PyData.int _) = _
  congr 2
  split <;> omega
theorem rep_ext (d : PyData) : ∀ k, (List.replicate k [d]).flatten = List.replicate k d
  | 0 => rfl
  | k + 1 => by rw [List.replicate_succ, List.flatten_cons, rep_ext d k, List.replicate_succ]; rfl
theorem repD_one (d : PyData) (k : Nat) : repD [d] (k : Int) = List.replicate k d := by
  unfold repD
  rw [Int.toNat_natCast, rep_ext]
theorem mulLO_ok {xs : List PyData} {k : Int} (h : -(2 ^ 63) ≤ k ∧ k < 2 ^ 63 ∧ xs.length * k.toNat ≤ sizeLine) : mulLO (.list xs) (.int k) = some (repD xs k) := if_pos h
theorem mulLO_one (d : PyData) (k : Nat) (h : k ≤ 1000000) : mulLO (.list [d]) (.int (k : Int)) = some (List.replicate k d) := by
  rw [← repD_one]
  exact mulLO_ok (xs := [d]) (k := (k : Int)) ⟨by omega, by omega, sz (by rw [Int.toNat_natCast]; show 1 * _ ≤ _; omega)⟩
theorem repL_one (d : PyData) (k : Nat) (h : k ≤ 1000000) : pyMulB (.list [d]) (.int (k : Int)) = some (.list (List.replicate k d)) := by
  unfold pyMulB
  simp only
  rw [if_pos ⟨by omega, by omega, sz (by rw [List.length_singleton, Int.toNat_natCast]; omega)⟩, repD_one]
theorem enum_map {α : Type} (enc : α → PyData) : ∀ (xs : List α) (k : Nat), enumD k (xs.map enc) = (xs.zipIdx k).map fun p => PyData.tuple [.int (p.2 : Int), enc p.1]
  | [], _ => rfl
  | x :: r, k => by
    show PyData.tuple [.int (k : Nat), enc x] :: enumD (k + 1) (r.map enc) = _
    rw [enum_map enc r (k + 1)]
    rfl
theorem set_map {α : Type} (enc : α → PyData) {xs : List α} {i : Nat} {x : α} (h : i < xs.length) : setO (xs.map enc) (.int (i : Int)) (enc x) = some ((xs.set i x).map enc) := by
  show (L2.ixN (xs.map enc).length (i : Int)).map _ = _
  unfold L2.ixN
  rw [if_pos (by omega), if_pos (by rw [List.length_map]; omega)]
  show some ((xs.map enc).set i (enc x)) = _
  rw [List.map_set]
/-- a loop whose turns go down in a well-founded order -/
theorem whP_abs {α γ : Type} {T : γ → M Bool} {st : γ → M (Lo γ)} (enc : α → γ) (I : α → Prop) {r : α → α → Prop} (wf : WellFounded r) (h : ∀ a, I a → T (enc a) = ret false ∨ (T (enc a) = ret true ∧ ∃ a', st (enc a) = ret (.nx (enc a')) ∧ I a' ∧ r a' a)) : ∀ a, I a → ∃ a', whP T st (enc a) = ret (.nx (enc a')) ∧ I a' ∧ T (enc a') = ret false := by
  intro a
  induction a using wf.induction with
  | h a ih =>
    intro ha
    rcases h a ha with e | ⟨e, a', e2, h2, h3⟩
    · exact ⟨a, funext fun B => whP_end (by rw [e]; rfl), ha, e⟩
    · obtain ⟨a2, e3, h4, h5⟩ := ih a' h3 h2
      exact ⟨a2, funext fun B => whP_turn (B1 := B) (B2 := B) (by rw [e]; rfl) (by rw [e2]; rfl) (congrFun e3 B), h4, h5⟩
end G
end Dn

set_option Elab.async false
set_option linter.all false
set_option autoImplicit false
set_option maxRecDepth 100000
set_option maxHeartbeats 2000000
/-! Packs: the plain part (ladders, entries, fronts). -/
namespace Dn
namespace Pk
open G
abbrev Ps := List (Nat × Nat)
/-- packs: sizes from 1 on -/
def Ok (ps : Ps) : Prop := ps ≠ [] ∧ ∀ p ∈ ps, 1 ≤ p.1
/-! ### the ladder of costs -/
def la (ps : Ps) : Nat → List Nat
  | 0 => [0]
  | t + 1 => la ps t ++ [mn (ps.map fun p => (la ps t).getD (t + 1 - p.1) 0 + p.2)]
theorem la_len (ps : Ps) : ∀ t, (la ps t).length = t + 1
  | 0 => rfl
  | t + 1 => by
    unfold la
    rw [List.length_append, la_len ps t]
    rfl
def C (ps : Ps) (t : Nat) : Nat := (la ps t).getD t 0
theorem getD_app {a b : List Nat} {k : Nat} (h : k < a.length) : (a ++ b).getD k 0 = a.getD k 0 := by
  rw [List.getD_eq_getElem?_getD, List.getD_eq_getElem?_getD, List.getElem?_append_left h]
theorem la_get (ps : Ps) : ∀ t k, k ≤ t → (la ps t).getD k 0 = C ps k
  | 0, k, h => by
    have : k = 0 := by omega
    subst this; rfl
  | t + 1, k, h => by
    by_cases z : k = t + 1
    · subst z; rfl
    · show (la ps t ++ _).getD k 0 = _
      rw [getD_app (by rw [la_len]; omega)]
      exact la_get ps t k (by omega)
theorem la_map (ps : Ps) : ∀ t, la ps t = (List.range (t + 1)).map (C ps) := fun t => by
  refine List.ext_getElem? fun i => ?_
  by_cases h : i < t + 1
  · have := la_get ps t i (by omega)
    rw [List.getElem?_map, List.getElem?_range h, List.getElem?_eq_getElem (by rw [la_len]; exact h)]
    rw [List.getD_eq_getElem?_getD, List.getElem?_eq_getElem (by rw [la_len]; exact h)] at this
    exact congrArg some this
  · rw [List.getElem?_eq_none (by rw [la_len]; omega), List.getElem?_eq_none (by rw [List.length_map, List.length_range]; omega)]
theorem C0 (ps : Ps) : C ps 0 = 0 := rfl
theorem C_succ {ps : Ps} (h : Ok ps) (t : Nat) : C ps (t + 1) = mn (ps.map fun p => C ps (t + 1 - p.1) + p.2) := by
  have e : C ps (t + 1) = mn (ps.map fun p => (la ps t).getD (t + 1 - p.1) 0 + p.2) := by
    show (la ps t ++ [_]).getD (t + 1) 0 = _
    rw [List.getD_eq_getElem?_getD, List.getElem?_append_right (by rw [la_len]; exact Nat.le_refl _), la_len, Nat.sub_self]
    rfl
  rw [e]
  congr 1
  refine List.map_congr_left fun p hp => ?_
  have := h.2 p hp
  rw [la_get ps t _ (by omega)]
theorem C_le {ps : Ps} (h : Ok ps) {p : Nat × Nat} (hp : p ∈ ps) (t : Nat) (ht : 0 < t) : C ps t ≤ C ps (t - p.1) + p.2 := by
  obtain ⟨t, rfl⟩ : ∃ k, t = k + 1 := ⟨t - 1, by omega⟩
  rw [C_succ h]
  exact mn_le (List.mem_map.mpr ⟨p, hp, rfl⟩)
theorem C_ex {ps : Ps} (h : Ok ps) (t : Nat) (ht : 0 < t) : ∃ p ∈ ps, C ps t = C ps (t - p.1) + p.2 := by
  obtain ⟨t, rfl⟩ : ∃ k, t = k + 1 := ⟨t - 1, by omega⟩
  have := mn_mem (xs := ps.map fun p => C ps (t + 1 - p.1) + p.2) (fun z => h.1 (List.map_eq_nil_iff.mp z))
  obtain ⟨p, hp, e⟩ := List.mem_map.mp this
  exact ⟨p, hp, by rw [C_succ h]; exact e.symm⟩
theorem C_mono {ps : Ps} (h : Ok ps) : ∀ t, C ps t ≤ C ps (t + 1) := by
  intro t
  induction t using Nat.strongRecOn with
  | ind t ih =>
    rcases Nat.eq_zero_or_pos t with z | z
    · subst z; rw [C0]; exact Nat.zero_le _
    · obtain ⟨p, hp, e⟩ := C_ex h (t + 1) (by omega)
      have h1 := h.2 p hp
      have h2 := C_le h hp t z
      rw [e]
      by_cases q : p.1 ≤ t
      · have := ih (t - p.1) (by omega)
        rw [show t - p.1 + 1 = t + 1 - p.1 by omega] at this
        omega
      · rw [show t + 1 - p.1 = 0 by omega]
        rw [show t - p.1 = 0 by omega] at h2
        exact h2
theorem C_add {ps : Ps} (h : Ok ps) {p : Nat × Nat} (hp : p ∈ ps) (k : Nat) : C ps (k + p.1) ≤ C ps k + p.2 := by
  have h1 := h.2 p hp
  have := C_le h hp (k + p.1) (by omega)
  rw [Nat.add_sub_cancel] at this
  exact this
/-! ### the best pack -/
def better (b p : Nat × Nat) : Nat × Nat := if p.2 * b.1 < b.2 * p.1 then p else b
def best : Ps → Nat × Nat
  | [] => (0, 0)
  | p :: r => r.foldl better p
theorem fold_mem : ∀ (r : Ps) (p : Nat × Nat), r.foldl better p ∈ p :: r
  | [], p => List.mem_cons_self
  | q :: r, p => by
    rw [List.foldl_cons]
    have := fold_mem r (better p q)
    rcases List.mem_cons.mp this with e | e
    · rw [e]
      unfold better
      split
      · exact List.mem_cons_of_mem _ List.mem_cons_self
      · exact List.mem_cons_self
    · exact List.mem_cons_of_mem _ (List.mem_cons_of_mem _ e)
theorem best_mem {ps : Ps} (h : ps ≠ []) : best ps ∈ ps := by
  cases ps with
  | nil => exact absurd rfl h
  | cons p r => exact fold_mem r p
def lastS (ps : Ps) : Nat := (ps.getLastD (0, 0)).1
/-- the turning point -/
def tp (ps : Ps) : Nat := ((best ps).1 - 1) * lastS ps
/-! ### far needs -/
def cf (ps : Ps) (n : Nat) : Nat :=
  let m := if n > tp ps + (best ps).1 then (n - (tp ps + (best ps).1) + (best ps).1 - 1) / (best ps).1 else 0
  C ps (n - m * (best ps).1) + m * (best ps).2
theorem cf_lo {ps : Ps} {n : Nat} (h : n ≤ tp ps + (best ps).1) : cf ps n = C ps n := by
  unfold cf
  rw [if_neg (by omega)]
  simp
theorem cf_hi {ps : Ps} {n : Nat} (h : tp ps + (best ps).1 < n) : cf ps n = C ps (n - (n - (tp ps + (best ps).1) + (best ps).1 - 1) / (best ps).1 * (best ps).1) + (n - (tp ps + (best ps).1) + (best ps).1 - 1) / (best ps).1 * (best ps).2 := by
  unfold cf
  rw [if_pos h]
/-- from r on one more best pack is all that a size more takes -/
def Turn (ps : Ps) (r : Nat) : Prop := ∀ n, r ≤ n → n ≤ tp ps → C ps (n + (best ps).1) = C ps n + (best ps).2
theorem cf_step {ps : Ps} (h : Ok ps) {r n : Nat} (ht : Turn ps r) (hn : r ≤ n) : cf ps (n + (best ps).1) = cf ps n + (best ps).2 := by
  have h1 := h.2 _ (best_mem h.1)
  have hr : ∀ n, r ≤ n → n ≤ tp ps → C ps (n + (best ps).1) = C ps n + (best ps).2 := ht
  generalize hB : best ps = B at *
  obtain ⟨d, p⟩ := B
  simp only at h1 hr
  generalize hT : tp ps = T at *
  have lo : ∀ m, m ≤ T + d → cf ps m = C ps m := fun m hm => cf_lo (by rw [hB, hT]; exact hm)
  have hi : ∀ m, T + d < m → cf ps m = C ps (m - (m - (T + d) + d - 1) / d * d) + (m - (T + d) + d - 1) / d * p := fun m hm => by
    have := cf_hi (ps := ps) (n := m) (by rw [hB, hT]; exact hm)
    rw [hB, hT] at this
    exact this
  show cf ps (n + d) = cf ps n + p
  by_cases z : n ≤ T
  · rw [lo (n + d) (by omega), lo n (by omega)]
    exact hr n hn z
  · by_cases z2 : n ≤ T + d
    · rw [lo n z2, hi (n + d) (by omega)]
      have e : (n + d - (T + d) + d - 1) / d = 1 := by
        rw [Nat.div_eq_iff (by omega)]
        omega
      rw [e, Nat.one_mul, Nat.one_mul, Nat.add_sub_cancel]
    · rw [hi n (by omega), hi (n + d) (by omega)]
      have e : (n + d - (T + d) + d - 1) / d = (n - (T + d) + d - 1) / d + 1 := by
        rw [show n + d - (T + d) + d - 1 = (n - (T + d) + d - 1) + d by omega, Nat.add_div_right _ (by omega)]
      rw [e, Nat.add_mul, Nat.add_mul, Nat.one_mul, Nat.one_mul]
      have q : (n - (T + d) + d - 1) / d * d ≤ n - (T + d) + d - 1 := Nat.div_mul_le_self _ _
      rw [show n + d - ((n - (T + d) + d - 1) / d * d + d) = n - (n - (T + d) + d - 1) / d * d by omega]
      omega
theorem cf_steps {ps : Ps} (h : Ok ps) {r n : Nat} (ht : Turn ps r) (hn : r ≤ n) : ∀ k, cf ps (n + k * (best ps).1) = cf ps n + k * (best ps).2
  | 0 => by simp
  | k + 1 => by
    have := cf_step h ht (n := n + k * (best ps).1) (by omega)
    rw [show n + (k + 1) * (best ps).1 = n + k * (best ps).1 + (best ps).1 by rw [Nat.add_mul]; omega, this, cf_steps h ht hn k, Nat.add_mul]
    omega
/-! ### entries -/
abbrev Es := List (Option Nat)
def ge (es : Es) (r : Nat) : Option Nat := es.getD r none
def cN (es : Es) : Nat := (es.map fun o => match o with | none => 1 | some _ => 0).sum
def sV (es : Es) : Nat := (es.map fun o => match o with | none => 0 | some a => a).sum
theorem sum_set {α : Type} (f : α → Nat) : ∀ (xs : List α) (i : Nat) (x y : α), xs[i]? = some y → ((xs.set i x).map f).sum + f y = (xs.map f).sum + f x
  | [], i, x, y, h => by cases h
  | z :: xs, 0, x, y, h => by
    cases h
    simp only [List.set_cons_zero, List.map_cons, List.sum_cons]
    omega
  | z :: xs, i + 1, x, y, h => by
    have := sum_set f xs i x y h
    simp only [List.set_cons_succ, List.map_cons, List.sum_cons]
    omega
theorem ge_at {es : Es} {r : Nat} (h : r < es.length) : es[r]? = some (ge es r) := by
  unfold ge
  rw [List.getD_eq_getElem?_getD, List.getElem?_eq_getElem h]
  rfl
theorem ge_set {es : Es} {i r : Nat} {o : Option Nat} (h : i < es.length) : ge (es.set i o) r = if r = i then o else ge es r := by
  unfold ge
  rw [List.getD_eq_getElem?_getD, List.getD_eq_getElem?_getD]
  by_cases z : r = i
  · subst z
    rw [if_pos rfl, List.getElem?_set_self h]
    rfl
  · rw [if_neg z, List.getElem?_set_ne (Ne.symm z)]
structure Good (m : Nat) (es : Es) : Prop where
  len : es.length = m
  zero : ge es 0 = some 0
  res : ∀ r a, ge es r = some a → a % m = r
def Le (es' es : Es) : Prop := ∀ r a, ge es r = some a → ∃ a', a' ≤ a ∧ ge es' r = some a'
theorem Le.refl (es : Es) : Le es es := fun r a h => ⟨a, Nat.le_refl _, h⟩
theorem Le.trans {a b c : Es} (x : Le a b) (y : Le b c) : Le a c := fun r v h => by
  obtain ⟨v1, h1, e1⟩ := y r v h
  obtain ⟨v2, h2, e2⟩ := x r v1 e1
  exact ⟨v2, by omega, e2⟩
def Lt (es' es : Es) : Prop := cN es' < cN es ∨ (cN es' = cN es ∧ sV es' < sV es)
theorem Lt.trans {a b c : Es} (x : Lt a b) (y : Lt b c) : Lt a c := by
  unfold Lt at *
  omega
/-- one place looked at -/
def stp (m d : Nat) (es : Es) (r : Nat) : Es × Bool := match ge es r with
  | none => (es, false)
  | some a => match ge es ((a + d) % m) with
    | none => (es.set ((a + d) % m) (some (a + d)), true)
    | some c => if a + d < c then (es.set ((a + d) % m) (some (a + d)), true) else (es, false)
def Cl1 (m d : Nat) (es : Es) (r : Nat) : Prop := ∀ a, ge es r = some a → ∃ b, b ≤ a + d ∧ ge es ((a + d) % m) = some b
theorem set_ok {m d : Nat} {es : Es} (hm : 0 < m) (g : Good m es) (hd : 0 < d) {r a : Nat} (ha : ge es r = some a) (hb : ∀ c, ge es ((a + d) % m) = some c → a + d < c) :
    Good m (es.set ((a + d) % m) (some (a + d))) ∧ Le (es.set ((a + d) % m) (some (a + d))) es ∧ Lt (es.set ((a + d) % m) (some (a + d))) es := by
  have hi : (a + d) % m < es.length := by rw [g.len]; exact Nat.mod_lt _ hm
  have h0 : (a + d) % m ≠ 0 := fun z => by
    have := hb 0 (by rw [z]; exact g.zero)
    omega
  refine ⟨⟨by rw [List.length_set]; exact g.len, ?_, fun q b e => ?_⟩, fun q b e => ?_, ?_⟩
  · rw [ge_set hi, if_neg (fun z => h0 z.symm)]
    exact g.zero
  · rw [ge_set hi] at e
    by_cases z : q = (a + d) % m
    · rw [if_pos z] at e
      cases e
      exact z.symm
    · rw [if_neg z] at e
      exact g.res q b e
  · rw [ge_set hi]
    by_cases z : q = (a + d) % m
    · rw [if_pos z]
      subst z
      exact ⟨a + d, Nat.le_of_lt (hb b e), rfl⟩
    · rw [if_neg z]
      exact ⟨b, Nat.le_refl _, e⟩
  · have e := ge_at hi
    have s1 := sum_set (fun o : Option Nat => match o with | none => 1 | some _ => 0) es ((a + d) % m) (some (a + d)) _ e
    have s2 := sum_set (fun o : Option Nat => match o with | none => 0 | some a => a) es ((a + d) % m) (some (a + d)) _ e
    unfold Lt cN sV
    cases q : ge es ((a + d) % m) with
    | none =>
      rw [q] at s1
      simp only at s1
      omega
    | some c =>
      rw [q] at s1 s2
      have := hb c q
      simp only at s1 s2
      omega
theorem stp_ok {m d : Nat} {es : Es} (hm : 0 < m) (hd : 0 < d) (g : Good m es) (r : Nat) : Good m (stp m d es r).1 ∧ Le (stp m d es r).1 es ∧ ((stp m d es r).2 = true → Lt (stp m d es r).1 es) ∧ ((stp m d es r).2 = false → (stp m d es r).1 = es ∧ Cl1 m d es r) := by
  unfold stp
  cases ha : ge es r with
  | none => exact ⟨g, Le.refl _, (fun z => by cases z), fun _ => ⟨rfl, fun a e => by rw [ha] at e; cases e⟩⟩
  | some a =>
    simp only
    cases hc : ge es ((a + d) % m) with
    | none =>
      obtain ⟨h1, h2, h3⟩ := set_ok hm g hd ha (fun c e => by rw [hc] at e; cases e)
      exact ⟨h1, h2, fun _ => h3, (fun z => by cases z)⟩
    | some c =>
      simp only
      by_cases z : a + d < c
      · rw [if_pos z]
        obtain ⟨h1, h2, h3⟩ := set_ok hm g hd ha (fun c' e => by rw [hc] at e; cases e; exact z)
        exact ⟨h1, h2, fun _ => h3, (fun z => by cases z)⟩
      · rw [if_neg z]
        refine ⟨g, Le.refl _, (fun z => by cases z), fun _ => ⟨rfl, fun a' e => ?_⟩⟩
        rw [ha] at e
        cases e
        exact ⟨c, by omega, hc⟩
/-- all places looked at, up to one -/
structure Pass (m d : Nat) (es0 : Es) (k : Nat) (es : Es) (ch : Bool) : Prop where
  good : Good m es
  le : Le es es0
  lt : ch = true → Lt es es0
  eq : ch = false → es = es0 ∧ ∀ r, r < k → Cl1 m d es0 r
theorem pass_zero {m d : Nat} {es : Es} (g : Good m es) : Pass m d es 0 es false := ⟨g, Le.refl _, fun z => (by cases z), fun _ => ⟨rfl, fun r h => absurd h (Nat.not_lt_zero _)⟩⟩
theorem pass_step {m d k : Nat} {es0 es : Es} {ch : Bool} (hm : 0 < m) (hd : 0 < d) (p : Pass m d es0 k es ch) : Pass m d es0 (k + 1) (stp m d es k).1 (ch || (stp m d es k).2) := by
  obtain ⟨h1, h2, h3, h4⟩ := stp_ok hm hd p.good k
  refine ⟨h1, h2.trans p.le, fun z => ?_, fun z => ?_⟩
  · cases q : (stp m d es k).2 with
    | true =>
      have a := h3 q
      cases c : ch with
      | true => exact a.trans (p.lt c)
      | false => rw [(p.eq c).1] at a ⊢; exact a
    | false =>
      rw [q, Bool.or_false] at z
      rw [(h4 q).1]
      exact p.lt z
  · rw [Bool.or_eq_false_iff] at z
    obtain ⟨e1, e2⟩ := p.eq z.1
    obtain ⟨e3, e4⟩ := h4 z.2
    subst e1
    refine ⟨e3, fun r hr => ?_⟩
    rcases Nat.lt_or_ge r k with y | y
    · exact e2 r y
    · have : r = k := by omega
      subst this
      exact e4
/-- amounts that the entries cover -/
def Cov (m : Nat) (es : Es) (P : Nat → Prop) : Prop := ∀ a, P a → ∃ b, b ≤ a ∧ ge es (a % m) = some b
def more (P : Nat → Prop) (p : Nat × Nat) : Nat → Prop := fun a => ∃ b n, P b ∧ a = b + n * p.1
def Closed (m d : Nat) (es : Es) : Prop := ∀ r, r < m → Cl1 m d es r
theorem cov_more {m : Nat} {es0 es : Es} {P : Nat → Prop} {p : Nat × Nat} (hm : 0 < m) (g : Good m es) (c : Cov m es0 P) (l : Le es es0) (cl : Closed m p.1 es) : Cov m es (more P p) := by
  rintro a ⟨b, n, hb, rfl⟩
  induction n with
  | zero =>
    obtain ⟨v, h1, e1⟩ := c b hb
    obtain ⟨w, h2, e2⟩ := l _ _ e1
    rw [Nat.zero_mul, Nat.add_zero]
    exact ⟨w, by omega, e2⟩
  | succ n ih =>
    obtain ⟨v, h1, e1⟩ := ih
    obtain ⟨w, h2, e2⟩ := cl _ (Nat.mod_lt _ hm) v e1
    have hr := g.res _ _ e1
    refine ⟨w, by rw [Nat.add_mul]; omega, ?_⟩
    rw [show b + (n + 1) * p.1 = b + n * p.1 + p.1 by rw [Nat.add_mul]; omega, Nat.add_mod, ← hr, ← Nat.add_mod]
    exact e2
/-- amounts of purchases -/
def P0 (m : Nat) : Nat → Prop := fun a => ∃ n, a = n * m
def Mk (ps : Ps) : Nat → Prop := ps.tail.foldl more (P0 (ps.headD (0, 0)).1)
theorem fold_more_in : ∀ {qs : Ps} {P : Nat → Prop} {a : Nat}, P a → qs.foldl more P a
  | [], _, _, h => h
  | q :: qs, P, a, h => fold_more_in (qs := qs) (P := more P q) ⟨a, 0, h, by simp⟩
theorem more_add {P : Nat → Prop} {q : Nat × Nat} {d : Nat} (h : ∀ a, P a → P (a + d)) : ∀ a, more P q a → more P q (a + d) := by
  rintro a ⟨b, n, hb, rfl⟩
  exact ⟨b + d, n, h b hb, by omega⟩
theorem fold_more_add : ∀ {qs : Ps} {P : Nat → Prop} {d : Nat}, (∀ a, P a → P (a + d)) → ∀ a, qs.foldl more P a → qs.foldl more P (a + d)
  | [], _, _, h => h
  | q :: qs, P, d, h => fold_more_add (qs := qs) (more_add h)
theorem fold_more_mem : ∀ {qs : Ps} {P : Nat → Prop} {p : Nat × Nat}, p ∈ qs → ∀ a, qs.foldl more P a → qs.foldl more P (a + p.1)
  | q :: qs, P, p, h => by
    rcases List.mem_cons.mp h with e | e
    · subst e
      refine fold_more_add (qs := qs) (P := more P p) fun a => ?_
      rintro ⟨b, n, hb, rfl⟩
      exact ⟨b, n + 1, hb, by rw [Nat.add_mul]; omega⟩
    · exact fold_more_mem (qs := qs) e
theorem Mk_zero (ps : Ps) : Mk ps 0 := fold_more_in ⟨0, by simp⟩
theorem Mk_add {ps : Ps} {p : Nat × Nat} (hp : p ∈ ps) {a : Nat} (h : Mk ps a) : Mk ps (a + p.1) := by
  cases ps with
  | nil => cases hp
  | cons q r =>
    rcases List.mem_cons.mp hp with e | e
    · subst e
      refine fold_more_add (qs := r) (P := P0 p.1) ?_ a h
      rintro a ⟨n, rfl⟩
      exact ⟨n + 1, by rw [Nat.add_mul]; omega⟩
    · exact fold_more_mem (qs := r) e a h
theorem Mk_sum {ps : Ps} : ∀ {l : List Nat}, (∀ x ∈ l, ∃ p ∈ ps, p.1 = x) → Mk ps l.sum
  | [], _ => Mk_zero ps
  | x :: l, h => by
    obtain ⟨p, hp, e⟩ := h x List.mem_cons_self
    have := Mk_add hp (Mk_sum (l := l) fun y hy => h y (List.mem_cons_of_mem _ hy))
    rw [List.sum_cons, ← e, Nat.add_comm]
    exact this
/-! ### what is left over -/
/-- entries that are right -/
structure Ent (ps : Ps) (m : Nat) (es : Es) : Prop where
  good : Good m es
  cov : Cov m es (Mk ps)
def wv (m s e : Nat) : Nat := if s ≤ e then e - s else (((e : Int) - (s : Int)) % (m : Int)).toNat
theorem wv_lt {m s e : Nat} (hm : 0 < m) (h : e < s) : wv m s e < m ∧ ((s + wv m s e) % m = e % m) := by
  unfold wv
  rw [if_neg (by omega)]
  have h1 := Int.emod_nonneg ((e : Int) - (s : Int)) (b := (m : Int)) (by omega)
  have h2 := Int.emod_lt_of_pos ((e : Int) - (s : Int)) (b := (m : Int)) (by omega)
  refine ⟨by omega, ?_⟩
  have h3 := Int.mul_ediv_add_emod ((e : Int) - (s : Int)) (m : Int)
  have h4 : ((s + (((e : Int) - (s : Int)) % (m : Int)).toNat : Nat) : Int) % (m : Int) = ((e : Nat) : Int) % (m : Int) := by
    rw [Int.natCast_add, Int.toNat_of_nonneg h1, ← Int.add_emod_emod]
    rw [Int.add_emod_emod, Int.add_emod_emod]
    congr 1
    omega
  omega
theorem wv_mod {m s e : Nat} (hm : 0 < m) : (s + wv m s e) % m = e % m ∧ e ≤ s + wv m s e := by
  by_cases h : s ≤ e
  · unfold wv
    rw [if_pos h, show s + (e - s) = e by omega]
    exact ⟨rfl, Nat.le_refl _⟩
  · exact ⟨(wv_lt hm (by omega)).2, by omega⟩
theorem wv_zero {m s e : Nat} (hm : 0 < m) (h : e ≤ s) (hr : e % m = s % m) : wv m s e = 0 := by
  unfold wv
  by_cases z : s ≤ e
  · rw [if_pos z]; omega
  · rw [if_neg z]
    have : ((e : Int) - (s : Int)) % (m : Int) = 0 := by
      rw [Int.sub_emod, show ((e : Int) % (m : Int)) = ((s : Int) % (m : Int)) by omega, Int.sub_self]
      rfl
    rw [this]
    rfl
def ents (es : Es) : List Nat := es.filterMap id
theorem mem_ents {es : Es} {a : Nat} : a ∈ ents es ↔ ∃ r, r < es.length ∧ ge es r = some a := by
  unfold ents
  rw [List.mem_filterMap]
  constructor
  · rintro ⟨o, h1, h2⟩
    obtain ⟨r, hr, e⟩ := List.mem_iff_getElem.mp h1
    refine ⟨r, hr, ?_⟩
    have := ge_at hr
    rw [List.getElem?_eq_getElem hr, e] at this
    rw [← Option.some.inj this]
    exact h2
  · rintro ⟨r, hr, e⟩
    exact ⟨some a, List.mem_of_getElem? (by rw [ge_at hr, e]), rfl⟩
/-- the least amount left over -/
def lo (m s : Nat) (es : Es) : Nat := mn ((ents es).map (wv m s))
theorem ents_ne {m : Nat} {es : Es} (g : Good m es) (hm : 0 < m) : (0 : Nat) ∈ ents es := mem_ents.mpr ⟨0, by rw [g.len]; exact hm, g.zero⟩
theorem lo_mem {m s : Nat} {es : Es} (g : Good m es) (hm : 0 < m) : ∃ r e, r < m ∧ ge es r = some e ∧ lo m s es = wv m s e := by
  have := mn_mem (xs := (ents es).map (wv m s)) (fun z => by have := ents_ne g hm; rw [List.map_eq_nil_iff.mp z] at this; cases this)
  obtain ⟨e, he, q⟩ := List.mem_map.mp this
  obtain ⟨r, hr, h⟩ := mem_ents.mp he
  exact ⟨r, e, by rw [← g.len]; exact hr, h, q.symm⟩
theorem lo_le {m s : Nat} {es : Es} {r e : Nat} (g : Good m es) (hr : r < m) (h : ge es r = some e) : lo m s es ≤ wv m s e :=
  mn_le (List.mem_map.mpr ⟨e, mem_ents.mpr ⟨r, by rw [g.len]; exact hr, h⟩, rfl⟩)
theorem lo_lt {m s : Nat} {es : Es} (g : Good m es) (hm : 0 < m) : lo m s es < m := by
  have h1 := lo_le (s := s) g hm g.zero
  rcases Nat.eq_zero_or_pos s with z | z
  · subst z
    have : wv m 0 0 = 0 := rfl
    omega
  · have := (wv_lt (e := 0) hm z).1
    omega
theorem lo_zero {ps : Ps} {m s : Nat} {es : Es} (E : Ent ps m es) (hm : 0 < m) (h : Mk ps s) : lo m s es = 0 := by
  obtain ⟨b, h1, h2⟩ := E.cov s h
  have h3 := lo_le (s := s) E.good (Nat.mod_lt _ hm) h2
  rw [wv_zero hm h1 (E.good.res _ _ h2)] at h3
  omega
end Pk
end Dn

set_option Elab.async false
set_option linter.all false
set_option autoImplicit false
set_option maxRecDepth 100000
set_option maxHeartbeats 2000000
/-! Lengths that come out just so: the plain part. -/
namespace Dn
namespace Sr
/-- what is in a row, and that with a piece more, up to a bound -/
def nxt (b : Nat) (row : List Nat) (p : Nat) : List Nat := (List.range (b + 1)).filter fun x => decide (x ∈ row) || (decide (p ≤ x) && decide (x - p ∈ row))
def fin (b : Nat) (ws : List Nat) : List Nat := ws.foldl (nxt b) [0]
/-- all rows -/
def rws (b : Nat) (row : List Nat) : List Nat → List (List Nat)
  | [] => [row]
  | p :: ps => row :: rws b (nxt b row p) ps
theorem rws_snoc (b : Nat) : ∀ (ws : List Nat) (row : List Nat) (p : Nat), rws b row (ws ++ [p]) = rws b row ws ++ [nxt b (ws.foldl (nxt b) row) p]
  | [], _, _ => rfl
  | w :: ws, row, p => by
    show row :: rws b (nxt b row w) (ws ++ [p]) = row :: (rws b (nxt b row w) ws ++ _)
    rw [rws_snoc b ws]
    rfl
theorem rws_len (b : Nat) : ∀ (ws : List Nat) (row : List Nat), (rws b row ws).length = ws.length + 1
  | [], _ => rfl
  | w :: ws, row => by
    show (rws b (nxt b row w) ws).length + 1 = _
    rw [rws_len b ws]
    rfl
theorem rws_at (b : Nat) : ∀ (ws : List Nat) (row : List Nat) (k : Nat), k ≤ ws.length → (rws b row ws)[k]? = some ((ws.take k).foldl (nxt b) row)
  | [], row, k, h => by
    have : k = 0 := by simpa using h
    subst this
    rfl
  | w :: ws, row, 0, h => rfl
  | w :: ws, row, k + 1, h => by
    show (rws b (nxt b row w) ws)[k]? = _
    rw [rws_at b ws _ k (by simpa using h)]
    rfl
theorem rws_last (b : Nat) (ws : List Nat) : (rws b [0] ws)[ws.length]? = some (fin b ws) := by
  rw [rws_at b ws [0] ws.length (Nat.le_refl _), List.take_length]
  rfl
theorem mem_nxt {b p x : Nat} {row : List Nat} : x ∈ nxt b row p ↔ x ≤ b ∧ (x ∈ row ∨ p ≤ x ∧ x - p ∈ row) := by
  unfold nxt
  rw [List.mem_filter, List.mem_range, Bool.or_eq_true, Bool.and_eq_true, decide_eq_true_eq, decide_eq_true_eq, decide_eq_true_eq]
  constructor
  · rintro ⟨h1, h2⟩; exact ⟨by omega, h2⟩
  · rintro ⟨h1, h2⟩; exact ⟨by omega, h2⟩
/-- ascending, up to a bound -/
def Row (b : Nat) (row : List Nat) : Prop := row.Pairwise (· < ·) ∧ ∀ x ∈ row, x ≤ b
theorem nxt_row (b p : Nat) (row : List Nat) : Row b (nxt b row p) := by
  refine ⟨List.Pairwise.filter _ List.pairwise_lt_range, fun x h => (mem_nxt.mp h).1⟩
theorem row0 (b : Nat) : Row b [0] := ⟨List.pairwise_singleton _ _, fun x h => by rw [List.mem_singleton.mp h]; omega⟩
theorem fold_row (b : Nat) : ∀ (ws : List Nat) (row : List Nat), Row b row → Row b (ws.foldl (nxt b) row)
  | [], _, h => h
  | w :: ws, row, _ => fold_row b ws _ (nxt_row b w row)
theorem fin_row (b : Nat) (ws : List Nat) : Row b (fin b ws) := fold_row b ws _ (row0 b)
theorem rws_row (b : Nat) : ∀ (ws : List Nat) (row : List Nat), Row b row → ∀ r ∈ rws b row ws, Row b r
  | [], row, h, r, hr => by rw [List.mem_singleton.mp hr]; exact h
  | w :: ws, row, h, r, hr => by
    rcases List.mem_cons.mp hr with e | e
    · rw [e]; exact h
    · exact rws_row b ws _ (nxt_row b w row) r e
theorem mem_fold {b : Nat} : ∀ {ws row : List Nat} {x : Nat}, Row b row → (x ∈ ws.foldl (nxt b) row ↔ x ≤ b ∧ ∃ y ∈ row, ∃ l : List Nat, l.Sublist ws ∧ y + l.sum = x)
  | [], row, x, h => by
    constructor
    · intro hx
      exact ⟨h.2 x hx, x, hx, [], List.Sublist.refl _, by simp⟩
    · rintro ⟨_, y, hy, l, hl, e⟩
      rw [List.sublist_nil.mp hl] at e
      simp at e
      rw [← e]; exact hy
  | w :: ws, row, x, h => by
    show x ∈ ws.foldl (nxt b) (nxt b row w) ↔ _
    rw [mem_fold (nxt_row b w row)]
    constructor
    · rintro ⟨h1, y, hy, l, hl, e⟩
      refine ⟨h1, ?_⟩
      obtain ⟨h2, h3 | ⟨h3, h4⟩⟩ := mem_nxt.mp hy
      · exact ⟨y, h3, l, hl.cons _, e⟩
      · exact ⟨y - w, h4, w :: l, hl.cons₂ _, by rw [List.sum_cons]; omega⟩
    · rintro ⟨h1, y, hy, l, hl, e⟩
      refine ⟨h1, ?_⟩
      rcases List.sublist_cons_iff.mp hl with h2 | ⟨r, rfl, h2⟩
      · exact ⟨y, mem_nxt.mpr ⟨h.2 y hy, .inl hy⟩, l, h2, e⟩
      · rw [List.sum_cons] at e
        exact ⟨y + w, mem_nxt.mpr ⟨by omega, .inr ⟨by omega, by rw [Nat.add_sub_cancel]; exact hy⟩⟩, r, h2, by omega⟩
theorem mem_fin {b : Nat} {ws : List Nat} {x : Nat} : x ∈ fin b ws ↔ x ≤ b ∧ ∃ l : List Nat, l.Sublist ws ∧ l.sum = x := by
  unfold fin
  rw [mem_fold (row0 b)]
  constructor
  · rintro ⟨h1, y, hy, l, hl, e⟩
    rw [List.mem_singleton.mp hy] at e
    exact ⟨h1, l, hl, by omega⟩
  · rintro ⟨h1, l, hl, e⟩
    exact ⟨h1, 0, List.mem_singleton.mpr rfl, l, hl, by omega⟩
/-! ### sets of pieces, as ascending rows of indices -/
def Sub (j n : Nat) (s : List Nat) : Prop := s.Pairwise (· < ·) ∧ ∀ i ∈ s, j ≤ i ∧ i < n
def sm (ws s : List Nat) : Nat := (s.map fun i => ws.getD i 0).sum
theorem sub_nil (j n : Nat) : Sub j n [] := ⟨List.Pairwise.nil, fun _ h => by cases h⟩
theorem sub_cons {j n a : Nat} {t : List Nat} : Sub j n (a :: t) ↔ j ≤ a ∧ a < n ∧ Sub (a + 1) n t := by
  unfold Sub
  rw [List.pairwise_cons]
  constructor
  · rintro ⟨⟨h1, h2⟩, h3⟩
    obtain ⟨h4, h5⟩ := h3 a List.mem_cons_self
    exact ⟨h4, h5, h2, fun i hi => ⟨h1 i hi, (h3 i (List.mem_cons_of_mem _ hi)).2⟩⟩
  · rintro ⟨h1, h2, h3, h4⟩
    refine ⟨⟨fun i hi => (h4 i hi).1, h3⟩, fun i hi => ?_⟩
    rcases List.mem_cons.mp hi with e | e
    · rw [e]; exact ⟨h1, h2⟩
    · have := h4 i e
      omega
theorem sub_len : ∀ {s : List Nat} {j n : Nat}, Sub j n s → s.length ≤ n - j
  | [], _, _, _ => Nat.zero_le _
  | a :: t, j, n, h => by
    obtain ⟨h1, h2, h3⟩ := sub_cons.mp h
    have := sub_len h3
    rw [List.length_cons]
    omega
theorem row_len {b : Nat} {row : List Nat} (h : Row b row) : row.length ≤ b + 1 := sub_len (j := 0) (n := b + 1) ⟨h.1, fun x hx => by have := h.2 x hx; omega⟩
theorem sub_mono {i j n : Nat} {s : List Nat} (h : Sub j n s) (hij : i ≤ j) : Sub i n s := ⟨h.1, fun x hx => by have := h.2 x hx; omega⟩
theorem sub_lists {ws : List Nat} : ∀ {s : List Nat} {j : Nat}, Sub j ws.length s → (s.map fun i => ws.getD i 0).Sublist (ws.drop j)
  | [], j, _ => List.nil_sublist _
  | a :: t, j, h => by
    obtain ⟨h1, h2, h3⟩ := sub_cons.mp h
    have ih := sub_lists h3
    have e : ws.drop a = ws.getD a 0 :: ws.drop (a + 1) := by
      rw [List.drop_eq_getElem_cons h2, List.getD_eq_getElem?_getD, List.getElem?_eq_getElem h2]
      rfl
    refine List.Sublist.trans ?_ (List.drop_sublist_drop_left ws h1)
    rw [e]
    exact ih.cons₂ _
theorem list_subs {ws : List Nat} : ∀ (m j : Nat), j + m = ws.length → ∀ {l : List Nat}, l.Sublist (ws.drop j) → ∃ s, Sub j ws.length s ∧ s.map (fun i => ws.getD i 0) = l
  | 0, j, h, l, hl => by
    rw [List.drop_of_length_le (by omega)] at hl
    rw [List.sublist_nil.mp hl]
    exact ⟨[], sub_nil _ _, rfl⟩
  | m + 1, j, h, l, hl => by
    have h2 : j < ws.length := by omega
    have e : ws.drop j = ws.getD j 0 :: ws.drop (j + 1) := by
      rw [List.drop_eq_getElem_cons h2, List.getD_eq_getElem?_getD, List.getElem?_eq_getElem h2]
      rfl
    rw [e] at hl
    rcases List.sublist_cons_iff.mp hl with h3 | ⟨r, rfl, h3⟩
    · obtain ⟨s, h4, h5⟩ := list_subs m (j + 1) (by omega) h3
      exact ⟨s, sub_mono h4 (by omega), h5⟩
    · obtain ⟨s, h4, h5⟩ := list_subs m (j + 1) (by omega) h3
      exact ⟨j :: s, sub_cons.mpr ⟨Nat.le_refl _, h2, h4⟩, by rw [List.map_cons, h5]⟩
theorem fin_sub {b : Nat} {ws : List Nat} {x : Nat} : x ∈ fin b ws ↔ x ≤ b ∧ ∃ s, Sub 0 ws.length s ∧ sm ws s = x := by
  rw [mem_fin]
  constructor
  · rintro ⟨h1, l, hl, e⟩
    obtain ⟨s, h2, h3⟩ := list_subs (ws := ws) ws.length 0 (by omega) (l := l) (by rw [List.drop_zero]; exact hl)
    exact ⟨h1, s, h2, by unfold sm; rw [h3]; exact e⟩
  · rintro ⟨h1, s, h2, e⟩
    have := sub_lists h2
    rw [List.drop_zero] at this
    exact ⟨h1, _, this, e⟩
theorem fin_drop {ws : List Nat} {g j : Nat} {s : List Nat} (h : Sub j ws.length s) (e : sm ws s = g) : g ∈ fin g (ws.drop j) :=
  mem_fin.mpr ⟨Nat.le_refl _, _, sub_lists h, e⟩
/-- all sets, by the law -/
def ev : Nat → List (List Nat)
  | 0 => [[]]
  | n + 1 => ev n ++ (ev n).map (· ++ [n])
theorem ev_len : ∀ n, (ev n).length = 2 ^ n
  | 0 => rfl
  | n + 1 => by
    unfold ev
    rw [List.length_append, List.length_map, ev_len n, Nat.pow_succ]
    omega
theorem mem_ev : ∀ {n : Nat} {s : List Nat}, s ∈ ev n ↔ Sub 0 n s
  | 0, s => by
    constructor
    · intro h
      rw [List.mem_singleton.mp h]
      exact sub_nil _ _
    · intro h
      cases s with
      | nil => exact List.mem_singleton.mpr rfl
      | cons a t => have := (sub_cons.mp h).2.1; omega
  | n + 1, s => by
    unfold ev
    rw [List.mem_append, List.mem_map]
    constructor
    · rintro (h | ⟨t, h, rfl⟩)
      · have := mem_ev.mp h
        exact ⟨this.1, fun i hi => by have := this.2 i hi; omega⟩
      · have := mem_ev.mp h
        refine ⟨List.pairwise_append.mpr ⟨this.1, List.pairwise_singleton _ _, fun a ha c hc => ?_⟩, fun i hi => ?_⟩
        · rw [List.mem_singleton.mp hc]; exact (this.2 a ha).2
        · rcases List.mem_append.mp hi with e | e
          · have := this.2 i e; omega
          · rw [List.mem_singleton.mp e]; omega
    · rintro ⟨h1, h2⟩
      rcases List.eq_nil_or_concat s with e | ⟨t, a, e⟩
      · subst e
        exact .inl (mem_ev.mpr (sub_nil _ _))
      · rw [List.concat_eq_append] at e
        subst e
        obtain ⟨h3, _, h4⟩ := List.pairwise_append.mp h1
        have ha := h2 a (List.mem_append_right _ (List.mem_singleton.mpr rfl))
        by_cases z : a = n
        · subst z
          exact .inr ⟨t, mem_ev.mpr ⟨h3, fun i hi => ⟨Nat.zero_le _, h4 i hi a (List.mem_singleton.mpr rfl)⟩⟩, rfl⟩
        · refine .inl (mem_ev.mpr ⟨h1, fun i hi => ⟨Nat.zero_le _, ?_⟩⟩)
          rcases List.mem_append.mp hi with e | e
          · have := h4 i e a (List.mem_singleton.mpr rfl); omega
          · rw [List.mem_singleton.mp e]; omega
theorem ev_at {n : Nat} {s : List Nat} (h : s ∈ ev n) : s.length ≤ n := sub_len (mem_ev.mp h)
/-- the first of the sets from j on that are together as long as the goal -/
def Fst (ws : List Nat) (j g : Nat) : Option (List Nat) → Prop
  | none => ∀ s, Sub j ws.length s → sm ws s ≠ g
  | some s => Sub j ws.length s ∧ sm ws s = g ∧ ∀ s', Sub j ws.length s' → sm ws s' = g → ltR s' s = false
theorem sm_cons (ws : List Nat) (a : Nat) (t : List Nat) : sm ws (a :: t) = ws.getD a 0 + sm ws t := by unfold sm; rw [List.map_cons, List.sum_cons]
theorem sm_nil (ws : List Nat) : sm ws [] = 0 := rfl
theorem sm_pos {ws : List Nat} (hw : ∀ i, i < ws.length → 1 ≤ ws.getD i 0) {j : Nat} {s : List Nat} (h : Sub j ws.length s) (e : sm ws s = 0) : s = [] := by
  cases s with
  | nil => rfl
  | cons a t =>
    rw [sm_cons] at e
    have := hw a (sub_cons.mp h).2.1
    omega
theorem fst_zero {ws : List Nat} {j : Nat} : Fst ws j 0 (some []) := ⟨sub_nil _ _, rfl, fun s' _ _ => by cases s' <;> rfl⟩
theorem fst_end {ws : List Nat} {j g : Nat} (hj : ws.length ≤ j) (hg : 0 < g) : Fst ws j g none := fun s h e => by
  cases s with
  | nil => rw [sm_nil] at e; omega
  | cons a t => have := sub_cons.mp h; omega
/-- the piece j is taken -/
theorem fst_take {ws : List Nat} {j g : Nat} {r : List Nat} (hj : j < ws.length) (hle : ws.getD j 0 ≤ g) (hg : 0 < g) (h : Fst ws (j + 1) (g - ws.getD j 0) (some r)) : Fst ws j g (some (j :: r)) := by
  obtain ⟨h1, h2, h3⟩ := h
  refine ⟨sub_cons.mpr ⟨Nat.le_refl _, hj, h1⟩, by rw [sm_cons, h2]; omega, fun s' hs e => ?_⟩
  cases s' with
  | nil => rw [sm_nil] at e; omega
  | cons a t =>
    obtain ⟨q1, q2, q3⟩ := sub_cons.mp hs
    show (if a = j then ltR t r else ltN a j) = false
    by_cases z : a = j
    · rw [if_pos z]
      subst z
      rw [sm_cons] at e
      exact h3 t q3 (by omega)
    · rw [if_neg z]
      exact decide_eq_false (by omega)
/-- no set begins with the piece j -/
theorem fst_skip {ws : List Nat} {j g : Nat} {o : Option (List Nat)} (hg : 0 < g) (hn : ∀ t, Sub (j + 1) ws.length t → sm ws (j :: t) ≠ g) (h : Fst ws (j + 1) g o) : Fst ws j g o := by
  have up : ∀ s, Sub j ws.length s → sm ws s = g → Sub (j + 1) ws.length s := fun s hs e => by
    cases s with
    | nil => rw [sm_nil] at e; omega
    | cons a t =>
      obtain ⟨q1, q2, q3⟩ := sub_cons.mp hs
      by_cases z : a = j
      · subst z
        exact absurd e (hn t q3)
      · exact sub_cons.mpr ⟨by omega, q2, q3⟩
  cases o with
  | none => exact fun s hs e => h s (up s hs e) e
  | some s =>
    obtain ⟨h1, h2, h3⟩ := h
    exact ⟨sub_mono h1 (by omega), h2, fun s' hs e => h3 s' (up s' hs e) e⟩
/-! ### rows that hold what they have to -/
def closed (b : Nat) : List Nat → List (List Nat) → Bool
  | [], _ => true
  | p :: ps, v :: u :: vs => (nxt b v p).all (fun x => decide (x ∈ u)) && closed b ps (u :: vs)
  | _ :: _, _ => false
theorem nxt_sub {b p : Nat} {v u : List Nat} (h : ∀ x ∈ v, x ∈ u) : ∀ x ∈ nxt b v p, x ∈ nxt b u p := fun x hx => by
  obtain ⟨h1, h2⟩ := mem_nxt.mp hx
  refine mem_nxt.mpr ⟨h1, ?_⟩
  rcases h2 with h2 | ⟨h2, h3⟩
  · exact .inl (h _ h2)
  · exact .inr ⟨h2, h _ h3⟩
theorem fold_sub {b : Nat} : ∀ {ws v u : List Nat}, (∀ x ∈ v, x ∈ u) → ∀ x ∈ ws.foldl (nxt b) v, x ∈ ws.foldl (nxt b) u
  | [], _, _, h => h
  | w :: ws, v, u, h => fold_sub (ws := ws) (nxt_sub h)
theorem closed_fold {b : Nat} : ∀ {ws : List Nat} {v : List Nat} {vs : List (List Nat)}, closed b ws (v :: vs) = true → (v :: vs).length = ws.length + 1 → ∀ x ∈ ws.foldl (nxt b) v, ∀ u, (v :: vs)[ws.length]? = some u → x ∈ u
  | [], v, vs, _, _, x, hx, u, hu => by cases hu; exact hx
  | w :: ws, v, vs, h, hl, x, hx, u, hu => by
    cases vs with
    | nil => cases hl
    | cons v2 vs =>
      unfold closed at h
      rw [Bool.and_eq_true, List.all_eq_true] at h
      refine closed_fold (ws := ws) h.2 (by simpa using hl) x (fold_sub (fun y hy => ?_) x hx) u hu
      exact of_decide_eq_true (h.1 y hy)
end Sr
end Dn

set_option Elab.async false
set_option linter.all false
set_option autoImplicit false
set_option maxRecDepth 100000
set_option maxHeartbeats 4000000
set_option exponentiation.threshold 100000
/-! Lengths that come out just so (the texts of k86b, k86c, k86d that do not speak of judges). -/
namespace Dn
open PySem G Sr
theorem in_nD (i : Nat) (xs : List Nat) : pyIn (.int (i : Int)) (.tuple (nD xs)) = some (xs.any fun z => z == i) := by
  have e : (nD xs).any (fun z => PyData.eqv z (.int (i : Int))) = xs.any fun z => z == i := by
    unfold nD
    rw [List.any_map]
    congr 1
    funext z
    show PyData.eqv (.int (z : Int)) (.int (i : Int)) = _
    rw [eqv_ii, Bool.eq_iff_iff, beq_iff_eq, beq_iff_eq]
    omega
  unfold pyIn
  show (if SeqAt.shaped (.int (i : Int)) = true ∧ SeqAt.shaped (.list (nD xs)) = true then some ((nD xs).any fun z => PyData.eqv z (.int (i : Int))) else none) = _
  rw [if_pos ⟨sh_of (ok_int _), sh_list (ok_nD xs)⟩, e]
theorem notin_nD (i : Nat) (xs : List Nat) : pyNotIn (.int (i : Int)) (.tuple (nD xs)) = some (!xs.any fun z => z == i) := by
  unfold pyNotIn
  rw [in_nD]
  rfl
def castI (v : List Nat) : List Int := v.map fun (x : Nat) => (x : Int)
theorem cast_asc {v : List Nat} (h : v.Pairwise (· < ·)) : (castI v).Pairwise (· < ·) := by
  unfold castI
  rw [List.pairwise_map]
  exact h.imp fun {a b} z => by omega
theorem cast_mem {v : List Nat} {k : Int} : k ∈ castI v ↔ ∃ x : Nat, x ∈ v ∧ (x : Int) = k := List.mem_map
theorem nD_cast (v : List Nat) : nD v = (castI v).map PyData.int := nD_ints v
/-- a set of ints, sorted -/
theorem sd_row {ns : List Int} {v : List Nat} (hv : v.Pairwise (· < ·)) (h : ∀ k : Int, k ∈ ns ↔ k ∈ castI v) : (sdI ns).map PyData.int = nD v := by
  rw [nD_cast, asc_ext (sdI_asc ns) (cast_asc hv) fun k => by rw [sdI_mem, h]]
theorem srt_setL {xs v : List Nat} (hl : xs.length ≤ 4000) (hv : v.Pairwise (· < ·)) (h : ∀ x, x ∈ xs ↔ x ∈ v) : srtSetAO (.list (nD xs)) = some (nD v) := by
  show (intsOf (nD xs)).bind _ = _
  rw [ints_nD, Option.bind_some, if_pos (by rw [List.length_map]; exact hl)]
  rw [sd_row (ns := xs.map fun (x : Nat) => (x : Int)) hv fun k => ?_]
  rw [cast_mem, List.mem_map]
  constructor
  · rintro ⟨x, h1, h2⟩; exact ⟨x, (h x).mp h1, h2⟩
  · rintro ⟨x, h1, h2⟩; exact ⟨x, (h x).mpr h1, h2⟩
theorem srt_setT {xs v : List Nat} (hl : xs.length ≤ 4000) (hv : v.Pairwise (· < ·)) (h : ∀ x, x ∈ xs ↔ x ∈ v) : srtSetAO (.tuple (nD xs)) = some (nD v) := srt_setL hl hv h
theorem next_ok {b p : Nat} {row : List Nat} (hb : b ≤ 1000) (h : Row b row) : p_next_sums (.tuple (nD row)) (.int (p : Int)) (.int (b : Int)) = ret (.tuple (nD (nxt b row p))) := by
  have hl := row_len h
  have e1 := cmpF_map (f := fun x3 => mFil (bn (lf (pyAdd x3 (.int (p : Int)))) fun t4 => lf (pyLeA t4 (.int (b : Int)))) (lf (pyAdd x3 (.int (p : Int))))) (fun (x : Nat) => PyData.int (x : Int)) (fun x => decide (x + p ≤ b)) (fun x => PyData.int ((x + p : Nat) : Int)) row (by omega) fun x _ => by
    have q : decide (((x : Int) + (p : Int)) ≤ (b : Int)) = decide (x + p ≤ b) := decide_eq_decide.mpr (by omega)
    simp only [QV, if_true, if_false, reduceIte, Bool.false_eq_true, Bool.not_true, Bool.not_false, Bool.and_true, Bool.true_and, Bool.and_false, Bool.false_and, Bool.or_true, Bool.true_or, Bool.or_false, Bool.false_or, Bool.and_self, Bool.or_self, reduceCtorEq, decide_true, decide_false, List.length_cons, List.length_nil, List.length_map, List.length_range, nD_len, rngD_length, Nat.reduceAdd, Int.toNat_natCast, List.map_cons, List.map_nil, List.isEmpty_cons, List.isEmpty_nil, List.nil_append, List.cons_append, Int.reduceNeg, q, Int.natCast_add]
  have e1' : cmpF (fun x3 => mFil (bn (lf (pyAdd x3 (.int (p : Int)))) fun t4 => lf (pyLeA t4 (.int (b : Int)))) (lf (pyAdd x3 (.int (p : Int))))) (nD row) = ret (nD ((row.filter fun x => decide (x + p ≤ b)).map (· + p))) := by
    refine e1.trans ?_
    unfold nD
    rw [List.map_map]
    rfl
  have hf : (row.filter fun x => decide (x + p ≤ b)).length ≤ row.length := List.length_filter_le _ _
  have e2 : pyAdd (.list (nD row)) (.list (nD ((row.filter fun x => decide (x + p ≤ b)).map (· + p)))) = some (.list (nD (row ++ (row.filter fun x => decide (x + p ≤ b)).map (· + p)))) := by
    rw [addL (by rw [nD_len, nD_len, List.length_map]; omega), nD_app]
  have e3 := srt_setL (xs := row ++ (row.filter fun x => decide (x + p ≤ b)).map (· + p)) (v := nxt b row p) (by rw [List.length_append, List.length_map]; omega) (nxt_row b p row).1 fun x => by
    rw [List.mem_append, List.mem_map, mem_nxt]
    constructor
    · rintro (h1 | ⟨y, h1, rfl⟩)
      · exact ⟨h.2 x h1, .inl h1⟩
      · rw [List.mem_filter, decide_eq_true_eq] at h1
        exact ⟨h1.2, .inr ⟨by omega, by rw [Nat.add_sub_cancel]; exact h1.1⟩⟩
    · rintro ⟨h1, h2 | ⟨h2, h3⟩⟩
      · exact .inl h2
      · exact .inr ⟨x - p, List.mem_filter.mpr ⟨h3, decide_eq_true (by omega)⟩, by omega⟩
  rw [p_next_sums]
  simp only [QV, if_true, if_false, reduceIte, Bool.false_eq_true, Bool.not_true, Bool.not_false, Bool.and_true, Bool.true_and, Bool.and_false, Bool.false_and, Bool.or_true, Bool.true_or, Bool.or_false, Bool.false_or, Bool.and_self, Bool.or_self, reduceCtorEq, decide_true, decide_false, List.length_cons, List.length_nil, List.length_map, List.length_range, nD_len, rngD_length, Nat.reduceAdd, Int.toNat_natCast, List.map_cons, List.map_nil, List.isEmpty_cons, List.isEmpty_nil, List.nil_append, List.cons_append, Int.reduceNeg, e1', e2, e3]
theorem at_last' {xs : List PyData} {a : PyData} {k : Nat} (hl : xs.length = k + 1) (h : xs[k]? = some a) : L2.atI xs (-1) = some a := by
  rw [at_last (by omega), hl]
  exact h
theorem rowsD_at {r : List (List Nat)} {k : Nat} {v : List Nat} (h : r[k]? = some v) : (r.map rowD)[k]? = some (.tuple (nD v)) := by
  rw [List.getElem?_map, h]
  rfl
theorem rws_end (b : Nat) (ws : List Nat) : L2.atI ((rws b [0] ws).map rowD) (-1) = some (.tuple (nD (fin b ws))) :=
  at_last' (k := ws.length) (by rw [List.length_map, rws_len]) (rowsD_at (rws_last b ws))
theorem rws_step (b : Nat) (ws : List Nat) (i a : Nat) (ha : ws[i]? = some a) : rws b [0] (ws.take (i + 1)) = rws b [0] (ws.take i) ++ [nxt b (fin b (ws.take i)) a] := by
  rw [List.take_succ, ha, Option.toList_some, rws_snoc]
  rfl
/-- the rows, by the program -/
theorem sums_ok {b : Nat} (hb : b ≤ 1000) (ws : List Nat) (hn : ws.length ≤ 100) : p_sum_rows (.tuple (nD ws)) (.int (b : Int)) = ret (.tuple ((rws b [0] ws).map rowD)) := by
  obtain ⟨s, e, h⟩ := forP_enc (f := p_sum_rows_L1 (.int (b : Int))) (fun (x : Nat) => PyData.int (x : Int)) (fun i s => s = (rws b [0] (ws.take i)).map rowD) ws [.tuple [.int 0]] (fun i a s ha hI => by
    subst hI
    refine ⟨_, ?_, rfl⟩
    have hi : i ≤ ws.length := by
      rcases Nat.lt_or_ge i ws.length with z | z
      · omega
      · rw [List.getElem?_eq_none z] at ha; cases ha
    have g1 := rws_end b (ws.take i)
    have g2 := next_ok (p := a) hb (fin_row b (ws.take i))
    have g3 := appOk (xs := (rws b [0] (ws.take i)).map rowD) (x := .tuple (nD (nxt b (fin b (ws.take i)) a))) (by rw [List.length_map, rws_len, List.length_take]; omega)
    rw [p_sum_rows_L1]
    simp only [QV, if_true, if_false, reduceIte, Bool.false_eq_true, Bool.not_true, Bool.not_false, Bool.and_true, Bool.true_and, Bool.and_false, Bool.false_and, Bool.or_true, Bool.true_or, Bool.or_false, Bool.false_or, Bool.and_self, Bool.or_self, reduceCtorEq, decide_true, decide_false, List.length_cons, List.length_nil, List.length_map, List.length_range, nD_len, rngD_length, Nat.reduceAdd, Int.toNat_natCast, List.map_cons, List.map_nil, List.isEmpty_cons, List.isEmpty_nil, List.nil_append, List.cons_append, Int.reduceNeg, g1, g2, g3, rws_step b ws i a ha, List.map_append]
    rfl) rfl
  subst h
  rw [List.take_length] at e
  have e' : forP (p_sum_rows_L1 (.int (b : Int))) (nD ws) [.tuple [.int 0]] = ret _ := e
  rw [p_sum_rows]
  simp only [QV, if_true, if_false, reduceIte, Bool.false_eq_true, Bool.not_true, Bool.not_false, Bool.and_true, Bool.true_and, Bool.and_false, Bool.false_and, Bool.or_true, Bool.true_or, Bool.or_false, Bool.false_or, Bool.and_self, Bool.or_self, reduceCtorEq, decide_true, decide_false, List.length_cons, List.length_nil, List.length_map, List.length_range, nD_len, rngD_length, Nat.reduceAdd, Int.toNat_natCast, List.map_cons, List.map_nil, List.isEmpty_cons, List.isEmpty_nil, List.nil_append, List.cons_append, Int.reduceNeg, e']
theorem inB (i : Nat) (xs : List Nat) : pyIn (.int (i : Int)) (.tuple (nD xs)) = some (decide (i ∈ xs)) := by
  rw [in_nD]
  congr 1
  rw [Bool.eq_iff_iff, List.any_eq_true, decide_eq_true_eq]
  constructor
  · rintro ⟨x, h1, h2⟩
    rw [← eq_of_beq h2]; exact h1
  · intro h
    exact ⟨i, h, beq_self_eq_true i⟩
theorem notinB (i : Nat) (xs : List Nat) : pyNotIn (.int (i : Int)) (.tuple (nD xs)) = some (!decide (i ∈ xs)) := by
  unfold pyNotIn
  rw [inB]
  rfl
def encF : Option (List Nat) → PyData
  | none => .none
  | some s => .tuple (nD s)
def loF : Option (List Nat) → Lr Unit
  | none => .nx ()
  | some s => .rt (.tuple (nD s))
theorem isnot_n : pyIsNot (.none) .none = some false := rfl
theorem isnot_t {xs : List PyData} : pyIsNot (.tuple xs) .none = some true := rfl
theorem first_loop (ws : List Nat) (hn : ws.length ≤ 12) (pr : PyData → PyData → PyData → M PyData) (g : Nat) (hg : 0 < g) (hg2 : g ≤ 1000)
    (j0 : Nat)
    (ih : ∀ (j g : Nat), j0 < j → j ≤ ws.length → g ≤ 1000 → ∃ o, pr (.tuple (nD ws)) (.int (g : Int)) (.int (j : Int)) = ret (encF o) ∧ Fst ws j g o) : ∀ (m j : Nat), j0 ≤ j → j + m = ws.length → ∃ o, forL (p_first_pieces_L1 pr (.tuple (nD ws)) (.int (g : Int))) (rngD (j : Int) m) () = ret (loF o) ∧ Fst ws j g o := by
  intro m
  induction m with
  | zero => intro j _ hj; exact ⟨none, rfl, fst_end (by omega) hg⟩
  | succ m ihm =>
    intro j hj0 hj
    have hlt : j < ws.length := by omega
    obtain ⟨o2, e2, f2⟩ := ihm (j + 1) (by omega) (by omega)
    have er : rngD (j : Int) (m + 1) = .int (j : Int) :: rngD ((j + 1 : Nat) : Int) m := by
      unfold rngD
      rw [List.range_succ_eq_map, List.map_cons, List.map_map]
      congr 1
      refine List.map_congr_left fun i _ => ?_
      show PyData.int ((j : Int) + ((i + 1 : Nat) : Int)) = PyData.int (((j + 1 : Nat) : Int) + (i : Int))
      congr 1
      omega
    have c1 : cutD (nD ws) (some (j : Int)) none = nD (ws.drop j) := (cut_from j).trans (nD_drop ws j)
    have g1 := sums_ok hg2 (ws.drop j) (by rw [List.length_drop]; omega)
    have g2 := rws_end g (ws.drop j)
    have g3 := inB g (fin g (ws.drop j))
    have g4 := at_nD (xs := ws) hlt
    have skip : (∀ t, Sub (j + 1) ws.length t → sm ws (j :: t) ≠ g) → p_first_pieces_L1 pr (.tuple (nD ws)) (.int (g : Int)) (.int (j : Int)) () = ret (.nx ()) → ∃ o, forL (p_first_pieces_L1 pr (.tuple (nD ws)) (.int (g : Int))) (rngD (j : Int) (m + 1)) () = ret (loF o) ∧ Fst ws j g o := fun hs he => by
      refine ⟨o2, ?_, fst_skip hg hs f2⟩
      rw [er]
      show bn (p_first_pieces_L1 pr (.tuple (nD ws)) (.int (g : Int)) (.int (j : Int)) ()) _ = _
      rw [he, bn_ret]
      exact e2
    by_cases h1 : g ∈ fin g (ws.drop j)
    · rw [decide_eq_true h1] at g3
      by_cases h2 : ws.getD j 0 ≤ g
      · have q : decide (((ws.getD j 0 : Nat) : Int) ≤ (g : Int)) = true := decide_eq_true (by omega)
        have q2 : (g : Int) - ((ws.getD j 0 : Nat) : Int) = ((g - ws.getD j 0 : Nat) : Int) := by omega
        obtain ⟨o, e1, f1⟩ := ih (j + 1) (g - ws.getD j 0) (by omega) (by omega) (by omega)
        rw [show ((j + 1 : Nat) : Int) = (j : Int) + 1 by omega] at e1
        cases o with
        | some r =>
          have hr : r.length ≤ 12 := by have := sub_len f1.1; omega
          have g5 : pyAdd (.tuple [.int (j : Int)]) (.tuple (nD r)) = some (.tuple (nD (j :: r))) := addT (xs := [.int (j : Int)]) (by rw [nD_len]; show 1 + _ ≤ _; omega)
          refine ⟨some (j :: r), ?_, fst_take hlt h2 hg f1⟩
          rw [er]
          show bn (p_first_pieces_L1 pr (.tuple (nD ws)) (.int (g : Int)) (.int (j : Int)) ()) _ = _
          have : p_first_pieces_L1 pr (.tuple (nD ws)) (.int (g : Int)) (.int (j : Int)) () = ret (.rt (.tuple (nD (j :: r)))) := by
            rw [p_first_pieces_L1]
            simp only [QV, if_true, if_false, reduceIte, Bool.false_eq_true, Bool.not_true, Bool.not_false, Bool.and_true, Bool.true_and, Bool.and_false, Bool.false_and, Bool.or_true, Bool.true_or, Bool.or_false, Bool.false_or, Bool.and_self, Bool.or_self, reduceCtorEq, decide_true, decide_false, List.length_cons, List.length_nil, List.length_map, List.length_range, nD_len, rngD_length, Nat.reduceAdd, Int.toNat_natCast, List.map_cons, List.map_nil, List.isEmpty_cons, List.isEmpty_nil, List.nil_append, List.cons_append, Int.reduceNeg, c1, g1, g2, g3, g4, q, q2, e1, encF, isnot_t, g5]
          rw [this, bn_ret]
          rfl
        | none =>
          refine skip (fun t ht e => ?_) ?_
          · rw [sm_cons] at e
            exact f1 t ht (by omega)
          · rw [p_first_pieces_L1]
            simp only [QV, if_true, if_false, reduceIte, Bool.false_eq_true, Bool.not_true, Bool.not_false, Bool.and_true, Bool.true_and, Bool.and_false, Bool.false_and, Bool.or_true, Bool.true_or, Bool.or_false, Bool.false_or, Bool.and_self, Bool.or_self, reduceCtorEq, decide_true, decide_false, List.length_cons, List.length_nil, List.length_map, List.length_range, nD_len, rngD_length, Nat.reduceAdd, Int.toNat_natCast, List.map_cons, List.map_nil, List.isEmpty_cons, List.isEmpty_nil, List.nil_append, List.cons_append, Int.reduceNeg, c1, g1, g2, g3, g4, q, q2, e1, encF, isnot_n, p_first_pieces_R1]
      · have q : decide (((ws.getD j 0 : Nat) : Int) ≤ (g : Int)) = false := decide_eq_false (by omega)
        refine skip (fun t ht e => ?_) ?_
        · rw [sm_cons] at e; omega
        · rw [p_first_pieces_L1]
          simp only [QV, if_true, if_false, reduceIte, Bool.false_eq_true, Bool.not_true, Bool.not_false, Bool.and_true, Bool.true_and, Bool.and_false, Bool.false_and, Bool.or_true, Bool.true_or, Bool.or_false, Bool.false_or, Bool.and_self, Bool.or_self, reduceCtorEq, decide_true, decide_false, List.length_cons, List.length_nil, List.length_map, List.length_range, nD_len, rngD_length, Nat.reduceAdd, Int.toNat_natCast, List.map_cons, List.map_nil, List.isEmpty_cons, List.isEmpty_nil, List.nil_append, List.cons_append, Int.reduceNeg, c1, g1, g2, g3, g4, q, p_first_pieces_R1]
    · rw [decide_eq_false h1] at g3
      refine skip (fun t ht e => ?_) ?_
      · exact h1 (fin_drop (sub_cons.mpr ⟨Nat.le_refl _, hlt, ht⟩) e)
      · rw [p_first_pieces_L1]
        simp only [QV, if_true, if_false, reduceIte, Bool.false_eq_true, Bool.not_true, Bool.not_false, Bool.and_true, Bool.true_and, Bool.and_false, Bool.false_and, Bool.or_true, Bool.true_or, Bool.or_false, Bool.false_or, Bool.and_self, Bool.or_self, reduceCtorEq, decide_true, decide_false, List.length_cons, List.length_nil, List.length_map, List.length_range, nD_len, rngD_length, Nat.reduceAdd, Int.toNat_natCast, List.map_cons, List.map_nil, List.isEmpty_cons, List.isEmpty_nil, List.nil_append, List.cons_append, Int.reduceNeg, c1, g1, g2, g3, p_first_pieces_R1]
theorem first_ok (ws : List Nat) (hn : ws.length ≤ 12) : ∀ (k j g : Nat), ws.length + 1 ≤ j + k → j ≤ ws.length → g ≤ 1000 → ∃ o, p_first_pieces k (.tuple (nD ws)) (.int (g : Int)) (.int (j : Int)) = ret (encF o) ∧ Fst ws j g o := by
  intro k
  induction k with
  | zero => intro j g h1 h2; omega
  | succ k ih =>
    intro j g h1 h2 h3
    rw [p_first_pieces]
    rcases Nat.eq_zero_or_pos g with z | z
    · subst z
      refine ⟨some [], ?_, fst_zero⟩
      have q : decide (((0 : Nat) : Int) = 0) = true := rfl
      simp only [QV, if_true, if_false, reduceIte, Bool.false_eq_true, Bool.not_true, Bool.not_false, Bool.and_true, Bool.true_and, Bool.and_false, Bool.false_and, Bool.or_true, Bool.true_or, Bool.or_false, Bool.false_or, Bool.and_self, Bool.or_self, reduceCtorEq, decide_true, decide_false, List.length_cons, List.length_nil, List.length_map, List.length_range, nD_len, rngD_length, Nat.reduceAdd, Int.toNat_natCast, List.map_cons, List.map_nil, List.isEmpty_cons, List.isEmpty_nil, List.nil_append, List.cons_append, Int.reduceNeg, q]
      rfl
    · have q : decide ((g : Int) = 0) = false := decide_eq_false (by omega)
      obtain ⟨o, e, f⟩ := first_loop ws hn (p_first_pieces k) g z h3 j (fun i g' hi y hg' => ih i g' (by omega) y hg') (ws.length - j) j (Nat.le_refl _) (by omega)
      have g1 := rng2_ok (i := (j : Int)) (j := (ws.length : Int)) (by omega) (by omega) (by omega) (by omega)
      rw [show ((ws.length : Int) - (j : Int)).toNat = ws.length - j by omega] at g1
      refine ⟨o, ?_, f⟩
      simp only [QV, if_true, if_false, reduceIte, Bool.false_eq_true, Bool.not_true, Bool.not_false, Bool.and_true, Bool.true_and, Bool.and_false, Bool.false_and, Bool.or_true, Bool.true_or, Bool.or_false, Bool.false_or, Bool.and_self, Bool.or_self, reduceCtorEq, decide_true, decide_false, List.length_cons, List.length_nil, List.length_map, List.length_range, nD_len, rngD_length, Nat.reduceAdd, Int.toNat_natCast, List.map_cons, List.map_nil, List.isEmpty_cons, List.isEmpty_nil, List.nil_append, List.cons_append, Int.reduceNeg, q, g1, e]
      cases o with
      | none => rfl
      | some s => rfl
theorem just_some (ws : List Nat) (hn : ws.length ≤ 12) {b : Nat} (hb : b ≤ 1000) (h : b ∈ fin b ws) : ∃ s, p_just_so (.tuple (nD ws)) (.int (b : Int)) = ret (.tuple [.str (PySem.Str.ofString "pieces"), .tuple (nD s)]) ∧ Fst ws 0 b (some s) := by
  have g1 := sums_ok hb ws (by omega)
  have g2 := rws_end b ws
  have g3 := inB b (fin b ws)
  rw [decide_eq_true h] at g3
  obtain ⟨o, e, f⟩ := first_ok ws hn 14 0 b (by omega) (by omega) hb
  cases o with
  | none =>
    obtain ⟨_, s, h1, h2⟩ := fin_sub.mp h
    exact absurd h2 (f s h1)
  | some s =>
    have e' : p_first_pieces 14 (.tuple (nD ws)) (.int (b : Int)) (.int 0) = ret (.tuple (nD s)) := e
    refine ⟨s, ?_, f⟩
    rw [p_just_so]
    simp only [QV, if_true, if_false, reduceIte, Bool.false_eq_true, Bool.not_true, Bool.not_false, Bool.and_true, Bool.true_and, Bool.and_false, Bool.false_and, Bool.or_true, Bool.true_or, Bool.or_false, Bool.false_or, Bool.and_self, Bool.or_self, reduceCtorEq, decide_true, decide_false, List.length_cons, List.length_nil, List.length_map, List.length_range, nD_len, rngD_length, Nat.reduceAdd, Int.toNat_natCast, List.map_cons, List.map_nil, List.isEmpty_cons, List.isEmpty_nil, List.nil_append, List.cons_append, Int.reduceNeg, g1, g2, g3, e']
theorem just_none (ws : List Nat) (hn : ws.length ≤ 12) {b : Nat} (hb : b ≤ 1000) (h : b ∉ fin b ws) : p_just_so (.tuple (nD ws)) (.int (b : Int)) = ret (.tuple [.str (PySem.Str.ofString "sums"), .tuple ((rws b [0] ws).map rowD)]) := by
  have g1 := sums_ok hb ws (by omega)
  have g2 := rws_end b ws
  have g3 := inB b (fin b ws)
  rw [decide_eq_false h] at g3
  rw [p_just_so]
  simp only [QV, if_true, if_false, reduceIte, Bool.false_eq_true, Bool.not_true, Bool.not_false, Bool.and_true, Bool.true_and, Bool.and_false, Bool.false_and, Bool.or_true, Bool.true_or, Bool.or_false, Bool.false_or, Bool.and_self, Bool.or_self, reduceCtorEq, decide_true, decide_false, List.length_cons, List.length_nil, List.length_map, List.length_range, nD_len, rngD_length, Nat.reduceAdd, Int.toNat_natCast, List.map_cons, List.map_nil, List.isEmpty_cons, List.isEmpty_nil, List.nil_append, List.cons_append, Int.reduceNeg, g1, g2, g3]
end Dn

-- dk2
set_option Elab.async false
set_option linter.all false
set_option autoImplicit false
set_option maxRecDepth 100000
set_option maxHeartbeats 4000000
set_option exponentiation.threshold 100000
namespace Dn
open PySem
def mixV (n : Int) : Int := (((n * 6364136223846793005 + 1442695040888963407) % 18446744073709551616) * ((n * 6364136223846793005 + 1442695040888963407) % 18446744073709551616) / 4294967296 + ((n * 6364136223846793005 + 1442695040888963407) % 18446744073709551616) * 69621) % 18446744073709551557
theorem em_nn (a : Int) {b : Int} (h : 0 < b) : 0 ≤ a % b ∧ a % b < b := ⟨Int.emod_nonneg a (by omega), Int.emod_lt_of_pos a h⟩
theorem mixV_nn (n : Int) : 0 ≤ mixV n := (em_nn _ (by decide)).1
theorem log_lit : (4294967296 : Int).natAbs.log2 < 9000 := by decide
theorem sp_mix (n : Int) (B : Bx) : d_law_mix [.dat (.int n)] B = some (.dat (.int (mixV n)), B) := by
  have h1 := em_nn (n * 6364136223846793005 + 1442695040888963407) (b := 18446744073709551616) (by decide)
  unfold mixV
  generalize e1 : (n * 6364136223846793005 + 1442695040888963407) % 18446744073709551616 = m at *
  simp only [k_dC, k_var_ap, k_varO_ap, k_varV_ap, k_op, k_op1, k_op2, k_fin, k_tst, k_t1, k_t2, k_tF, k_opB, k_B, k_neg, k_neg1, k_andT, k_orT, k_notT, k_and1, k_and0, k_or1, k_or0, k_not1, k_tru, k_tru1, k_andV, k_orV, k_notV, k_andV1, k_andV0, k_orV1, k_orV0, k_notV1, k_if, k_if1, k_if0, k_ifD, k_nil, k_cons, k_cons1, k_cons2, k_nilA, k_consA, k_consA1, k_consA2, k_V, k_V1, k_F, k_F1, k_tup, k_tup1, k_lst, k_lst1, k_cl, k_cl1, k_clL, k_clL1, k_finL, k_isi, k_isi1, k_fn, k_fn1, k_dat, k_fnV, k_fnV1, k_seqI, k_seqI1, k_seqI2, k_rng1, k_rng1', k_rng2, k_rng2a, k_rng2b, k_enum, k_enum1, k_zip, k_zip1, k_zip2, k_P, k_P1, k_noP, k_sl, k_sl1, k_sl2, k_sl3, k_cmp, k_cmp1, k_yes, k_seq, k_seq1, k_seq2, k_seq3, k_seq4, k_next, k_brk, k_cont, k_retN, k_asg, k_asg1, k_asgV, k_asgV1, k_asgV2, k_asgV3, k_asgO, k_asgO1, k_asgG, k_asgG1, k_nx, k_gN, k_gT, k_gC, k_g1, k_g0, k_par, k_par1, k_par2, k_drop, k_drop1, k_ret, k_ret1, k_retV, k_retV1, k_ifS, k_ifS1, k_ifS0, k_ifSD, k_fz_ap, k_app, k_app1, k_for, k_for1, k_aug1, k_fun1, k_fun2, k_idx, k_idx1, k_idx2, k_lenC, k_lenC1, k_popC, k_bset, k_getC, k_getC1, k_getC2, k_at0, k_at1, k_at2, k_bg1, k_bg2, k_bs1, k_bs2, k_bc, k_pop1, k_chn, k_chn1, k_chn2, k_chn3t, k_chn3f, k_chn4, k_tfo, k_chnB, k_chB, k_rev, k_rev1, k_revL, k_revL1, k_rg1, k_rg1', k_tupRg, k_tupRg1, k_lstRg, k_lstRg1, k_srt, k_srt1, k_parLE, k_parLE1, k_parLE2, k_augA, k_augA1, k_wp, w_nil, w_cons, mulBI, ltAI, leAI, gtAI, geAI, sz0, sz1, sz2, sz3, sz4, sz5, sz6, k_fun, eqI, neI, addI, subI, ltI, leI, gtI, geI, truD, isTy, tyName, pyLen, pyAbs, pyMin2, pyMax2, pyInt, pyTuple, pyList, pyIx, pyIs, pyIsNot, isNon, nown, wipeD, Option.map_some, List.getElem?_cons_zero, List.getElem?_cons_succ, List.set_cons_zero, List.set_cons_succ, List.map_cons, List.map_nil, List.cons_append, List.nil_append, List.length_cons, List.length_nil, List.all_cons, List.all_nil, List.replicate_succ, List.replicate_zero, Bool.and_true, Bool.true_and, Bool.and_self, Bool.not_true, Bool.not_false, and_self, and_true, true_and, if_true, if_false, reduceIte, reduceCtorEq, decide_true, decide_false, Bool.false_eq_true, Nat.reduceAdd, Nat.reduceEqDiff, d_law_mix, b_law_mix, mulI (mulOk_r (j := 6364136223846793005) (by decide) (by decide)), mulI (mulOk_r (j := 69621) (by decide) (by decide)), modI (j := 18446744073709551616) (by decide), modI (j := 18446744073709551557) (by decide), e1, mulI (mulOk_l (i := m) (j := m) (by omega) (by omega)), divI (j := 4294967296) (by decide) log_lit]
theorem sp_take (many : Int) (B : Bx) (hb : TI B) (h0 : 0 < many) (h1 : many < 1000000) : ∃ r B', TI B' ∧ 0 ≤ r ∧ r < many ∧ d_law_take [.box, .dat (.int many)] B = some (.dat (.int r), B') := by
  obtain ⟨cs, p, x, y, rfl, hp, hx, hy⟩ := hb
  have hl : many.natAbs.log2 < 9000 := Nat.lt_trans (log2_small (n := many.natAbs) (k := 20) (by omega) (by decide)) (by decide)
  by_cases hlt : x < many
  · have hq : (x < many) = True := eq_true hlt
    by_cases hc : p < cs.length
    · have hq2 : (p < (cs.length : Int)) = True := eq_true hc
      obtain ⟨n, rfl⟩ := Int.eq_ofNat_of_zero_le hp
      have hn : n < cs.length := by omega
      have ha := at_nat hn
      generalize cs[n] = c at ha
      have hpow : pyPow (.int 10) (.int 18) = some (.int 1000000000000000000) := by rfl
      have fin : ∀ (cell : Int), 0 ≤ cell → (∀ z : Int, True) → ∃ x2 : Int, 0 ≤ x2 ∧ (if 1000000000000000000 ≤ cell then cell else mixV (mixV cell + ((n : Int) + 1))) = x2 := fun cell h _ => by
        refine ⟨_, ?_, rfl⟩
        split
        · exact h
        · exact mixV_nn _
      by_cases hcc : 0 ≤ c
      · obtain ⟨x2, hx2, ex⟩ := fin (2 * c) (by omega) (fun _ => trivial)
        refine ⟨x2 % many, _, ⟨cs, (n : Int) + 1, x2 / many, mixV (y + 2 * c), rfl, by omega, Int.ediv_nonneg hx2 (by omega), mixV_nn _⟩, (em_nn x2 h0).1, (em_nn x2 h0).2, ?_⟩
        have hq3 : (0 ≤ c) = True := eq_true hcc
        by_cases hbig : 1000000000000000000 ≤ 2 * c
        · rw [if_pos hbig] at ex
          subst ex
          have hq4 := eq_true hbig
          simp only [k_dC, k_var_ap, k_varO_ap, k_varV_ap, k_op, k_op1, k_op2, k_fin, k_tst, k_t1, k_t2, k_tF, k_opB, k_B, k_neg, k_neg1, k_andT, k_orT, k_notT, k_and1, k_and0, k_or1, k_or0, k_not1, k_tru, k_tru1, k_andV, k_orV, k_notV, k_andV1, k_andV0, k_orV1, k_orV0, k_notV1, k_if, k_if1, k_if0, k_ifD, k_nil, k_cons, k_cons1, k_cons2, k_nilA, k_consA, k_consA1, k_consA2, k_V, k_V1, k_F, k_F1, k_tup, k_tup1, k_lst, k_lst1, k_cl, k_cl1, k_clL, k_clL1, k_finL, k_isi, k_isi1, k_fn, k_fn1, k_dat, k_fnV, k_fnV1, k_seqI, k_seqI1, k_seqI2, k_rng1, k_rng1', k_rng2, k_rng2a, k_rng2b, k_enum, k_enum1, k_zip, k_zip1, k_zip2, k_P, k_P1, k_noP, k_sl, k_sl1, k_sl2, k_sl3, k_cmp, k_cmp1, k_yes, k_seq, k_seq1, k_seq2, k_seq3, k_seq4, k_next, k_brk, k_cont, k_retN, k_asg, k_asg1, k_asgV, k_asgV1, k_asgV2, k_asgV3, k_asgO, k_asgO1, k_asgG, k_asgG1, k_nx, k_gN, k_gT, k_gC, k_g1, k_g0, k_par, k_par1, k_par2, k_drop, k_drop1, k_ret, k_ret1, k_retV, k_retV1, k_ifS, k_ifS1, k_ifS0, k_ifSD, k_fz_ap, k_app, k_app1, k_for, k_for1, k_aug1, k_fun1, k_fun2, k_idx, k_idx1, k_idx2, k_lenC, k_lenC1, k_popC, k_bset, k_getC, k_getC1, k_getC2, k_at0, k_at1, k_at2, k_bg1, k_bg2, k_bs1, k_bs2, k_bc, k_pop1, k_chn, k_chn1, k_chn2, k_chn3t, k_chn3f, k_chn4, k_tfo, k_chnB, k_chB, k_rev, k_rev1, k_revL, k_revL1, k_rg1, k_rg1', k_tupRg, k_tupRg1, k_lstRg, k_lstRg1, k_srt, k_srt1, k_parLE, k_parLE1, k_parLE2, k_augA, k_augA1, k_wp, w_nil, w_cons, mulBI, ltAI, leAI, gtAI, geAI, sz0, sz1, sz2, sz3, sz4, sz5, sz6, k_fun, eqI, neI, addI, subI, ltI, leI, gtI, geI, truD, isTy, tyName, pyLen, pyAbs, pyMin2, pyMax2, pyInt, pyTuple, pyList, pyIx, pyIs, pyIsNot, isNon, nown, wipeD, Option.map_some, List.getElem?_cons_zero, List.getElem?_cons_succ, List.set_cons_zero, List.set_cons_succ, List.map_cons, List.map_nil, List.cons_append, List.nil_append, List.length_cons, List.length_nil, List.all_cons, List.all_nil, List.replicate_succ, List.replicate_zero, Bool.and_true, Bool.true_and, Bool.and_self, Bool.not_true, Bool.not_false, and_self, and_true, true_and, if_true, if_false, reduceIte, reduceCtorEq, decide_true, decide_false, Bool.false_eq_true, Nat.reduceAdd, Nat.reduceEqDiff, d_law_take, b_law_take, hq, hq2, t_bg1, t_bg2, t_bg3, t_bs1, t_bs2, t_bs3, t_bc, ha, hq3, hq4, mulI (mulOk_l (i := 2) (by decide) (by decide)), sp_mix, hpow, modI h0, divI h0 hl]
        · rw [if_neg hbig] at ex
          have hq4 := eq_false hbig
          simp only [k_dC, k_var_ap, k_varO_ap, k_varV_ap, k_op, k_op1, k_op2, k_fin, k_tst, k_t1, k_t2, k_tF, k_opB, k_B, k_neg, k_neg1, k_andT, k_orT, k_notT, k_and1, k_and0, k_or1, k_or0, k_not1, k_tru, k_tru1, k_andV, k_orV, k_notV, k_andV1, k_andV0, k_orV1, k_orV0, k_notV1, k_if, k_if1, k_if0, k_ifD, k_nil, k_cons, k_cons1, k_cons2, k_nilA, k_consA, k_consA1, k_consA2, k_V, k_V1, k_F, k_F1, k_tup, k_tup1, k_lst, k_lst1, k_cl, k_cl1, k_clL, k_clL1, k_finL, k_isi, k_isi1, k_fn, k_fn1, k_dat, k_fnV, k_fnV1, k_seqI, k_seqI1, k_seqI2, k_rng1, k_rng1', k_rng2, k_rng2a, k_rng2b, k_enum, k_enum1, k_zip, k_zip1, k_zip2, k_P, k_P1, k_noP, k_sl, k_sl1, k_sl2, k_sl3, k_cmp, k_cmp1, k_yes, k_seq, k_seq1, k_seq2, k_seq3, k_seq4, k_next, k_brk, k_cont, k_retN, k_asg, k_asg1, k_asgV, k_asgV1, k_asgV2, k_asgV3, k_asgO, k_asgO1, k_asgG, k_asgG1, k_nx, k_gN, k_gT, k_gC, k_g1, k_g0, k_par, k_par1, k_par2, k_drop, k_drop1, k_ret, k_ret1, k_retV, k_retV1, k_ifS, k_ifS1, k_ifS0, k_ifSD, k_fz_ap, k_app, k_app1, k_for, k_for1, k_aug1, k_fun1, k_fun2, k_idx, k_idx1, k_idx2, k_lenC, k_lenC1, k_popC, k_bset, k_getC, k_getC1, k_getC2, k_at0, k_at1, k_at2, k_bg1, k_bg2, k_bs1, k_bs2, k_bc, k_pop1, k_chn, k_chn1, k_chn2, k_chn3t, k_chn3f, k_chn4, k_tfo, k_chnB, k_chB, k_rev, k_rev1, k_revL, k_revL1, k_rg1, k_rg1', k_tupRg, k_tupRg1, k_lstRg, k_lstRg1, k_srt, k_srt1, k_parLE, k_parLE1, k_parLE2, k_augA, k_augA1, k_wp, w_nil, w_cons, mulBI, ltAI, leAI, gtAI, geAI, sz0, sz1, sz2, sz3, sz4, sz5, sz6, k_fun, eqI, neI, addI, subI, ltI, leI, gtI, geI, truD, isTy, tyName, pyLen, pyAbs, pyMin2, pyMax2, pyInt, pyTuple, pyList, pyIx, pyIs, pyIsNot, isNon, nown, wipeD, Option.map_some, List.getElem?_cons_zero, List.getElem?_cons_succ, List.set_cons_zero, List.set_cons_succ, List.map_cons, List.map_nil, List.cons_append, List.nil_append, List.length_cons, List.length_nil, List.all_cons, List.all_nil, List.replicate_succ, List.replicate_zero, Bool.and_true, Bool.true_and, Bool.and_self, Bool.not_true, Bool.not_false, and_self, and_true, true_and, if_true, if_false, reduceIte, reduceCtorEq, decide_true, decide_false, Bool.false_eq_true, Nat.reduceAdd, Nat.reduceEqDiff, d_law_take, b_law_take, hq, hq2, t_bg1, t_bg2, t_bg3, t_bs1, t_bs2, t_bs3, t_bc, ha, hq3, hq4, mulI (mulOk_l (i := 2) (by decide) (by decide)), sp_mix, hpow, ex, modI h0, divI h0 hl]
      · obtain ⟨x2, hx2, ex⟩ := fin (-2 * c - 1) (by omega) (fun _ => trivial)
        refine ⟨x2 % many, _, ⟨cs, (n : Int) + 1, x2 / many, mixV (y + (-2 * c - 1)), rfl, by omega, Int.ediv_nonneg hx2 (by omega), mixV_nn _⟩, (em_nn x2 h0).1, (em_nn x2 h0).2, ?_⟩
        have hq3 : (0 ≤ c) = False := eq_false hcc
        by_cases hbig : 1000000000000000000 ≤ -2 * c - 1
        · rw [if_pos hbig] at ex
          subst ex
          have hq4 := eq_true hbig
          simp only [k_dC, k_var_ap, k_varO_ap, k_varV_ap, k_op, k_op1, k_op2, k_fin, k_tst, k_t1, k_t2, k_tF, k_opB, k_B, k_neg, k_neg1, k_andT, k_orT, k_notT, k_and1, k_and0, k_or1, k_or0, k_not1, k_tru, k_tru1, k_andV, k_orV, k_notV, k_andV1, k_andV0, k_orV1, k_orV0, k_notV1, k_if, k_if1, k_if0, k_ifD, k_nil, k_cons, k_cons1, k_cons2, k_nilA, k_consA, k_consA1, k_consA2, k_V, k_V1, k_F, k_F1, k_tup, k_tup1, k_lst, k_lst1, k_cl, k_cl1, k_clL, k_clL1, k_finL, k_isi, k_isi1, k_fn, k_fn1, k_dat, k_fnV, k_fnV1, k_seqI, k_seqI1, k_seqI2, k_rng1, k_rng1', k_rng2, k_rng2a, k_rng2b, k_enum, k_enum1, k_zip, k_zip1, k_zip2, k_P, k_P1, k_noP, k_sl, k_sl1, k_sl2, k_sl3, k_cmp, k_cmp1, k_yes, k_seq, k_seq1, k_seq2, k_seq3, k_seq4, k_next, k_brk, k_cont, k_retN, k_asg, k_asg1, k_asgV, k_asgV1, k_asgV2, k_asgV3, k_asgO, k_asgO1, k_asgG, k_asgG1, k_nx, k_gN, k_gT, k_gC, k_g1, k_g0, k_par, k_par1, k_par2, k_drop, k_drop1, k_ret, k_ret1, k_retV, k_retV1, k_ifS, k_ifS1, k_ifS0, k_ifSD, k_fz_ap, k_app, k_app1, k_for, k_for1, k_aug1, k_fun1, k_fun2, k_idx, k_idx1, k_idx2, k_lenC, k_lenC1, k_popC, k_bset, k_getC, k_getC1, k_getC2, k_at0, k_at1, k_at2, k_bg1, k_bg2, k_bs1, k_bs2, k_bc, k_pop1, k_chn, k_chn1, k_chn2, k_chn3t, k_chn3f, k_chn4, k_tfo, k_chnB, k_chB, k_rev, k_rev1, k_revL, k_revL1, k_rg1, k_rg1', k_tupRg, k_tupRg1, k_lstRg, k_lstRg1, k_srt, k_srt1, k_parLE, k_parLE1, k_parLE2, k_augA, k_augA1, k_wp, w_nil, w_cons, mulBI, ltAI, leAI, gtAI, geAI, sz0, sz1, sz2, sz3, sz4, sz5, sz6, k_fun, eqI, neI, addI, subI, ltI, leI, gtI, geI, truD, isTy, tyName, pyLen, pyAbs, pyMin2, pyMax2, pyInt, pyTuple, pyList, pyIx, pyIs, pyIsNot, isNon, nown, wipeD, Option.map_some, List.getElem?_cons_zero, List.getElem?_cons_succ, List.set_cons_zero, List.set_cons_succ, List.map_cons, List.map_nil, List.cons_append, List.nil_append, List.length_cons, List.length_nil, List.all_cons, List.all_nil, List.replicate_succ, List.replicate_zero, Bool.and_true, Bool.true_and, Bool.and_self, Bool.not_true, Bool.not_false, and_self, and_true, true_and, if_true, if_false, reduceIte, reduceCtorEq, decide_true, decide_false, Bool.false_eq_true, Nat.reduceAdd, Nat.reduceEqDiff, d_law_take, b_law_take, hq, hq2, t_bg1, t_bg2, t_bg3, t_bs1, t_bs2, t_bs3, t_bc, ha, hq3, hq4, mulI (mulOk_l (i := -2) (by decide) (by decide)), sp_mix, hpow, modI h0, divI h0 hl]
        · rw [if_neg hbig] at ex
          have hq4 := eq_false hbig
          simp only [k_dC, k_var_ap, k_varO_ap, k_varV_ap, k_op, k_op1, k_op2, k_fin, k_tst, k_t1, k_t2, k_tF, k_opB, k_B, k_neg, k_neg1, k_andT, k_orT, k_notT, k_and1, k_and0, k_or1, k_or0, k_not1, k_tru, k_tru1, k_andV, k_orV, k_notV, k_andV1, k_andV0, k_orV1, k_orV0, k_notV1, k_if, k_if1, k_if0, k_ifD, k_nil, k_cons, k_cons1, k_cons2, k_nilA, k_consA, k_consA1, k_consA2, k_V, k_V1, k_F, k_F1, k_tup, k_tup1, k_lst, k_lst1, k_cl, k_cl1, k_clL, k_clL1, k_finL, k_isi, k_isi1, k_fn, k_fn1, k_dat, k_fnV, k_fnV1, k_seqI, k_seqI1, k_seqI2, k_rng1, k_rng1', k_rng2, k_rng2a, k_rng2b, k_enum, k_enum1, k_zip, k_zip1, k_zip2, k_P, k_P1, k_noP, k_sl, k_sl1, k_sl2, k_sl3, k_cmp, k_cmp1, k_yes, k_seq, k_seq1, k_seq2, k_seq3, k_seq4, k_next, k_brk, k_cont, k_retN, k_asg, k_asg1, k_asgV, k_asgV1, k_asgV2, k_asgV3, k_asgO, k_asgO1, k_asgG, k_asgG1, k_nx, k_gN, k_gT, k_gC, k_g1, k_g0, k_par, k_par1, k_par2, k_drop, k_drop1, k_ret, k_ret1, k_retV, k_retV1, k_ifS, k_ifS1, k_ifS0, k_ifSD, k_fz_ap, k_app, k_app1, k_for, k_for1, k_aug1, k_fun1, k_fun2, k_idx, k_idx1, k_idx2, k_lenC, k_lenC1, k_popC, k_bset, k_getC, k_getC1, k_getC2, k_at0, k_at1, k_at2, k_bg1, k_bg2, k_bs1, k_bs2, k_bc, k_pop1, k_chn, k_chn1, k_chn2, k_chn3t, k_chn3f, k_chn4, k_tfo, k_chnB, k_chB, k_rev, k_rev1, k_revL, k_revL1, k_rg1, k_rg1', k_tupRg, k_tupRg1, k_lstRg, k_lstRg1, k_srt, k_srt1, k_parLE, k_parLE1, k_parLE2, k_augA, k_augA1, k_wp, w_nil, w_cons, mulBI, ltAI, leAI, gtAI, geAI, sz0, sz1, sz2, sz3, sz4, sz5, sz6, k_fun, eqI, neI, addI, subI, ltI, leI, gtI, geI, truD, isTy, tyName, pyLen, pyAbs, pyMin2, pyMax2, pyInt, pyTuple, pyList, pyIx, pyIs, pyIsNot, isNon, nown, wipeD, Option.map_some, List.getElem?_cons_zero, List.getElem?_cons_succ, List.set_cons_zero, List.set_cons_succ, List.map_cons, List.map_nil, List.cons_append, List.nil_append, List.length_cons, List.length_nil, List.all_cons, List.all_nil, List.replicate_succ, List.replicate_zero, Bool.and_true, Bool.true_and, Bool.and_self, Bool.not_true, Bool.not_false, and_self, and_true, true_and, if_true, if_false, reduceIte, reduceCtorEq, decide_true, decide_false, Bool.false_eq_true, Nat.reduceAdd, Nat.reduceEqDiff, d_law_take, b_law_take, hq, hq2, t_bg1, t_bg2, t_bg3, t_bs1, t_bs2, t_bs3, t_bc, ha, hq3, hq4, mulI (mulOk_l (i := -2) (by decide) (by decide)), sp_mix, hpow, ex, modI h0, divI h0 hl]
    · have hq2 : (p < (cs.length : Int)) = False := eq_false hc
      refine ⟨mixV (y + 1) % many, _, ⟨cs, p, mixV (y + 1) / many, mixV (y + 1), rfl, hp, Int.ediv_nonneg (mixV_nn _) (by omega), mixV_nn _⟩, (em_nn _ h0).1, (em_nn _ h0).2, ?_⟩
      simp only [k_dC, k_var_ap, k_varO_ap, k_varV_ap, k_op, k_op1, k_op2, k_fin, k_tst, k_t1, k_t2, k_tF, k_opB, k_B, k_neg, k_neg1, k_andT, k_orT, k_notT, k_and1, k_and0, k_or1, k_or0, k_not1, k_tru, k_tru1, k_andV, k_orV, k_notV, k_andV1, k_andV0, k_orV1, k_orV0, k_notV1, k_if, k_if1, k_if0, k_ifD, k_nil, k_cons, k_cons1, k_cons2, k_nilA, k_consA, k_consA1, k_consA2, k_V, k_V1, k_F, k_F1, k_tup, k_tup1, k_lst, k_lst1, k_cl, k_cl1, k_clL, k_clL1, k_finL, k_isi, k_isi1, k_fn, k_fn1, k_dat, k_fnV, k_fnV1, k_seqI, k_seqI1, k_seqI2, k_rng1, k_rng1', k_rng2, k_rng2a, k_rng2b, k_enum, k_enum1, k_zip, k_zip1, k_zip2, k_P, k_P1, k_noP, k_sl, k_sl1, k_sl2, k_sl3, k_cmp, k_cmp1, k_yes, k_seq, k_seq1, k_seq2, k_seq3, k_seq4, k_next, k_brk, k_cont, k_retN, k_asg, k_asg1, k_asgV, k_asgV1, k_asgV2, k_asgV3, k_asgO, k_asgO1, k_asgG, k_asgG1, k_nx, k_gN, k_gT, k_gC, k_g1, k_g0, k_par, k_par1, k_par2, k_drop, k_drop1, k_ret, k_ret1, k_retV, k_retV1, k_ifS, k_ifS1, k_ifS0, k_ifSD, k_fz_ap, k_app, k_app1, k_for, k_for1, k_aug1, k_fun1, k_fun2, k_idx, k_idx1, k_idx2, k_lenC, k_lenC1, k_popC, k_bset, k_getC, k_getC1, k_getC2, k_at0, k_at1, k_at2, k_bg1, k_bg2, k_bs1, k_bs2, k_bc, k_pop1, k_chn, k_chn1, k_chn2, k_chn3t, k_chn3f, k_chn4, k_tfo, k_chnB, k_chB, k_rev, k_rev1, k_revL, k_revL1, k_rg1, k_rg1', k_tupRg, k_tupRg1, k_lstRg, k_lstRg1, k_srt, k_srt1, k_parLE, k_parLE1, k_parLE2, k_augA, k_augA1, k_wp, w_nil, w_cons, mulBI, ltAI, leAI, gtAI, geAI, sz0, sz1, sz2, sz3, sz4, sz5, sz6, k_fun, eqI, neI, addI, subI, ltI, leI, gtI, geI, truD, isTy, tyName, pyLen, pyAbs, pyMin2, pyMax2, pyInt, pyTuple, pyList, pyIx, pyIs, pyIsNot, isNon, nown, wipeD, Option.map_some, List.getElem?_cons_zero, List.getElem?_cons_succ, List.set_cons_zero, List.set_cons_succ, List.map_cons, List.map_nil, List.cons_append, List.nil_append, List.length_cons, List.length_nil, List.all_cons, List.all_nil, List.replicate_succ, List.replicate_zero, Bool.and_true, Bool.true_and, Bool.and_self, Bool.not_true, Bool.not_false, and_self, and_true, true_and, if_true, if_false, reduceIte, reduceCtorEq, decide_true, decide_false, Bool.false_eq_true, Nat.reduceAdd, Nat.reduceEqDiff, d_law_take, b_law_take, hq, hq2, t_bg1, t_bg2, t_bg3, t_bs1, t_bs2, t_bs3, t_bc, sp_mix, modI h0, divI h0 hl]
  · refine ⟨x % many, _, ⟨cs, p, x / many, y, rfl, hp, Int.ediv_nonneg hx (by omega), hy⟩, (em_nn x h0).1, (em_nn x h0).2, ?_⟩
    have hq : (x < many) = False := eq_false hlt
    simp only [k_dC, k_var_ap, k_varO_ap, k_varV_ap, k_op, k_op1, k_op2, k_fin, k_tst, k_t1, k_t2, k_tF, k_opB, k_B, k_neg, k_neg1, k_andT, k_orT, k_notT, k_and1, k_and0, k_or1, k_or0, k_not1, k_tru, k_tru1, k_andV, k_orV, k_notV, k_andV1, k_andV0, k_orV1, k_orV0, k_notV1, k_if, k_if1, k_if0, k_ifD, k_nil, k_cons, k_cons1, k_cons2, k_nilA, k_consA, k_consA1, k_consA2, k_V, k_V1, k_F, k_F1, k_tup, k_tup1, k_lst, k_lst1, k_cl, k_cl1, k_clL, k_clL1, k_finL, k_isi, k_isi1, k_fn, k_fn1, k_dat, k_fnV, k_fnV1, k_seqI, k_seqI1, k_seqI2, k_rng1, k_rng1', k_rng2, k_rng2a, k_rng2b, k_enum, k_enum1, k_zip, k_zip1, k_zip2, k_P, k_P1, k_noP, k_sl, k_sl1, k_sl2, k_sl3, k_cmp, k_cmp1, k_yes, k_seq, k_seq1, k_seq2, k_seq3, k_seq4, k_next, k_brk, k_cont, k_retN, k_asg, k_asg1, k_asgV, k_asgV1, k_asgV2, k_asgV3, k_asgO, k_asgO1, k_asgG, k_asgG1, k_nx, k_gN, k_gT, k_gC, k_g1, k_g0, k_par, k_par1, k_par2, k_drop, k_drop1, k_ret, k_ret1, k_retV, k_retV1, k_ifS, k_ifS1, k_ifS0, k_ifSD, k_fz_ap, k_app, k_app1, k_for, k_for1, k_aug1, k_fun1, k_fun2, k_idx, k_idx1, k_idx2, k_lenC, k_lenC1, k_popC, k_bset, k_getC, k_getC1, k_getC2, k_at0, k_at1, k_at2, k_bg1, k_bg2, k_bs1, k_bs2, k_bc, k_pop1, k_chn, k_chn1, k_chn2, k_chn3t, k_chn3f, k_chn4, k_tfo, k_chnB, k_chB, k_rev, k_rev1, k_revL, k_revL1, k_rg1, k_rg1', k_tupRg, k_tupRg1, k_lstRg, k_lstRg1, k_srt, k_srt1, k_parLE, k_parLE1, k_parLE2, k_augA, k_augA1, k_wp, w_nil, w_cons, mulBI, ltAI, leAI, gtAI, geAI, sz0, sz1, sz2, sz3, sz4, sz5, sz6, k_fun, eqI, neI, addI, subI, ltI, leI, gtI, geI, truD, isTy, tyName, pyLen, pyAbs, pyMin2, pyMax2, pyInt, pyTuple, pyList, pyIx, pyIs, pyIsNot, isNon, nown, wipeD, Option.map_some, List.getElem?_cons_zero, List.getElem?_cons_succ, List.set_cons_zero, List.set_cons_succ, List.map_cons, List.map_nil, List.cons_append, List.nil_append, List.length_cons, List.length_nil, List.all_cons, List.all_nil, List.replicate_succ, List.replicate_zero, Bool.and_true, Bool.true_and, Bool.and_self, Bool.not_true, Bool.not_false, and_self, and_true, true_and, if_true, if_false, reduceIte, reduceCtorEq, decide_true, decide_false, Bool.false_eq_true, Nat.reduceAdd, Nat.reduceEqDiff, d_law_take, b_law_take, hq, t_bg1, t_bg2, t_bg3, t_bs1, t_bs2, t_bs3, t_bc, modI h0, divI h0 hl]
theorem sp_tape (ns : List Int) : ∃ B', TI B' ∧ d_law_tape [.scr ns] ⟨[], [], false⟩ = some (.box, B') := by
  refine ⟨_, ⟨ns.take 80, 0, 0, 1 + (ns.length : Int), rfl, by omega, by omega, by omega⟩, ?_⟩
  rfl
theorem tk_int (many : Int) (B : Bx) (hb : TI B) (h0 : 0 < many) (h1 : many < 1000000) : ∃ (r : Int) (B' : Bx), TI B' ∧ 0 ≤ r ∧ r < many ∧ p_law_take (.int many) B = some (.int r, B') := by
  obtain ⟨r, B', a, b, c, d⟩ := sp_take many B hb h0 h1
  refine ⟨r, B', a, b, c, ?_⟩
  show ((d_law_take [.box, .dat (.int many)] B).bind _) = _
  rw [d]
  rfl
theorem tk (many : Nat) (B : Bx) (hb : TI B) (h0 : 0 < many) (h1 : many < 1000000) : ∃ (r : Nat) (B' : Bx), TI B' ∧ r < many ∧ p_law_take (.int (many : Int)) B = some (.int (r : Int), B') := by
  obtain ⟨r, B', a, b, c, d⟩ := tk_int (many : Int) B hb (by omega) (by omega)
  obtain ⟨n, rfl⟩ := Int.eq_ofNat_of_zero_le b
  exact ⟨n, B', a, by omega, d⟩
theorem tkL (m : Int) (many : Nat) (e : m = (many : Int)) (B : Bx) (hb : TI B) (h0 : 0 < many) (h1 : many < 1000000) : ∃ (r : Nat) (B' : Bx), TI B' ∧ r < many ∧ p_law_take (.int m) B = some (.int (r : Int), B') := by
  subst e
  exact tk many B hb h0 h1
end Dn

set_option Elab.async false
set_option linter.all false
set_option autoImplicit false
set_option maxRecDepth 100000
set_option maxHeartbeats 4000000
set_option exponentiation.threshold 100000
namespace Dn
open PySem G Pk
def pkD (p : Nat × Nat) : PyData := .tuple [.int (p.1 : Int), .int (p.2 : Int)]
/-- packs as they are drawn -/
def Fine (ps : Ps) : Prop := ps ≠ [] ∧ ps.length ≤ 4 ∧ ∀ p ∈ ps, 1 ≤ p.1 ∧ p.1 ≤ 30 ∧ p.2 ≤ 1000
theorem Fine.ok {ps : Ps} (h : Fine ps) : Ok ps := ⟨h.1, fun p hp => (h.2.2 p hp).1⟩
theorem mulN {a b : Nat} (h : a ≤ 1000000 ∨ b ≤ 1000000) : pyMul (.int (a : Int)) (.int (b : Int)) = some (.int ((a * b : Nat) : Int)) := by
  rw [mulI (show mulOk (a : Int) (b : Int) = true from by
    rcases h with h | h
    · exact mulOk_l (by omega) (by omega)
    · exact mulOk_r (by omega) (by omega))]
  rw [Int.natCast_mul]
theorem at_zero {x : PyData} {xs : List PyData} : L2.atI (x :: xs) 0 = some x := k_at0
theorem best_L1 (ps : Ps) (hp : Fine ps) (r : Ps) (hr : ∀ p ∈ r, p ∈ ps) (p0 : Nat × Nat) (h0 : p0 ∈ ps) : forP p_best_pack_L1 (r.map pkD) (pkD p0) = ret (pkD (r.foldl better p0)) := by
  induction r generalizing p0 with
  | nil => rfl
  | cons q r ih =>
    have hq := hp.2.2 q (hr q List.mem_cons_self)
    have h1 := hp.2.2 p0 h0
    have e1 := mulN (a := q.2) (b := p0.1) (.inl (by omega))
    have e2 := mulN (a := p0.2) (b := q.1) (.inl (by omega))
    have e3 : decide (((q.2 * p0.1 : Nat) : Int) < ((p0.2 * q.1 : Nat) : Int)) = decide (q.2 * p0.1 < p0.2 * q.1) := decide_eq_decide.mpr (by omega)
    have e4 : p_best_pack_L1 (pkD q) (pkD p0) = ret (pkD (better p0 q)) := by
      rw [p_best_pack_L1, show pkD q = .tuple [.int (q.1 : Int), .int (q.2 : Int)] from rfl, show pkD p0 = .tuple [.int (p0.1 : Int), .int (p0.2 : Int)] from rfl]
      simp only [QV, if_true, if_false, reduceIte, Bool.false_eq_true, Bool.not_true, Bool.not_false, Bool.and_true, Bool.true_and, Bool.and_false, Bool.false_and, Bool.or_true, Bool.true_or, Bool.or_false, Bool.false_or, Bool.and_self, Bool.or_self, reduceCtorEq, decide_true, decide_false, List.length_cons, List.length_nil, List.length_map, List.length_range, nD_len, rngD_length, Nat.reduceAdd, Int.toNat_natCast, List.map_cons, List.map_nil, List.isEmpty_cons, List.isEmpty_nil, List.nil_append, List.cons_append, Int.reduceNeg, e1, e2, e3]
      unfold better
      by_cases z : q.2 * p0.1 < p0.2 * q.1
      · rw [decide_eq_true z, if_pos z]
        simp only [QV, if_true, if_false, reduceIte, Bool.false_eq_true, Bool.not_true, Bool.not_false, Bool.and_true, Bool.true_and, Bool.and_false, Bool.false_and, Bool.or_true, Bool.true_or, Bool.or_false, Bool.false_or, Bool.and_self, Bool.or_self, reduceCtorEq, decide_true, decide_false, List.length_cons, List.length_nil, List.length_map, List.length_range, nD_len, rngD_length, Nat.reduceAdd, Int.toNat_natCast, List.map_cons, List.map_nil, List.isEmpty_cons, List.isEmpty_nil, List.nil_append, List.cons_append, Int.reduceNeg]
        rfl
      · rw [decide_eq_false z, if_neg z]
        simp only [QV, if_true, if_false, reduceIte, Bool.false_eq_true, Bool.not_true, Bool.not_false, Bool.and_true, Bool.true_and, Bool.and_false, Bool.false_and, Bool.or_true, Bool.true_or, Bool.or_false, Bool.false_or, Bool.and_self, Bool.or_self, reduceCtorEq, decide_true, decide_false, List.length_cons, List.length_nil, List.length_map, List.length_range, nD_len, rngD_length, Nat.reduceAdd, Int.toNat_natCast, List.map_cons, List.map_nil, List.isEmpty_cons, List.isEmpty_nil, List.nil_append, List.cons_append, Int.reduceNeg]
        rfl
    show bn (p_best_pack_L1 (pkD q) (pkD p0)) _ = _
    rw [e4, bn_ret]
    have hm : better p0 q ∈ ps := by
      unfold better
      split
      · exact hr q List.mem_cons_self
      · exact h0
    exact ih (fun p h => hr p (List.mem_cons_of_mem _ h)) (better p0 q) hm
theorem best_ok (ps : Ps) (hp : Fine ps) : p_best_pack (.tuple (ps.map pkD)) = ret (pkD (best ps)) := by
  cases ps with
  | nil => exact absurd rfl hp.1
  | cons p r =>
    have c1 : cutD ((p :: r).map pkD) (some 1) none = r.map pkD := cut_from 1
    have e := best_L1 (p :: r) hp r (fun q h => List.mem_cons_of_mem _ h) p List.mem_cons_self
    simp only [QV, if_true, if_false, reduceIte, Bool.false_eq_true, Bool.not_true, Bool.not_false, Bool.and_true, Bool.true_and, Bool.and_false, Bool.false_and, Bool.or_true, Bool.true_or, Bool.or_false, Bool.false_or, Bool.and_self, Bool.or_self, reduceCtorEq, decide_true, decide_false, List.length_cons, List.length_nil, List.length_map, List.length_range, nD_len, rngD_length, Nat.reduceAdd, Int.toNat_natCast, List.map_cons, List.map_nil, List.isEmpty_cons, List.isEmpty_nil, List.nil_append, List.cons_append, Int.reduceNeg] at c1
    rw [p_best_pack]
    simp only [QV, if_true, if_false, reduceIte, Bool.false_eq_true, Bool.not_true, Bool.not_false, Bool.and_true, Bool.true_and, Bool.and_false, Bool.false_and, Bool.or_true, Bool.true_or, Bool.or_false, Bool.false_or, Bool.and_self, Bool.or_self, reduceCtorEq, decide_true, decide_false, List.length_cons, List.length_nil, List.length_map, List.length_range, nD_len, rngD_length, Nat.reduceAdd, Int.toNat_natCast, List.map_cons, List.map_nil, List.isEmpty_cons, List.isEmpty_nil, List.nil_append, List.cons_append, Int.reduceNeg, c1, e]
    rfl
theorem mx_ok (t : Nat) (a : Nat) : pyMax2 [.int 0, .int (1 + (t : Int) - (a : Int))] = some (.int ((t + 1 - a : Nat) : Int)) := by
  rw [show (1 + (t : Int) - (a : Int)) = ((t + 1 : Nat) : Int) - (a : Int) by omega]
  exact max2_nat
theorem ladder_ok (ps : Ps) (hp : Fine ps) (s : Nat) (hs : s ≤ 10000) : p_cost_ladder (.tuple (ps.map pkD)) (.int (s : Int)) = ret (.tuple (nD (la ps s))) := by
  have h4 := hp.2.1
  obtain ⟨v, e, h⟩ := forP_rng (f := p_cost_ladder_L1 (.tuple (ps.map pkD))) (fun i v => v = nD (la ps i)) 1 s [.int 0] (fun t v ht hv => by
    subst hv
    refine ⟨_, ?_, rfl⟩
    have e1 := cmpP_map (f := fun x4 => un2 x4 fun v_size v_price => bn (lf (pySub (.int (1 + (t : Int))) v_size)) fun t5 => bn (lf (pyMax2 [(.int 0), t5])) fun t6 => bn (lf (pyIx (.list (nD (la ps t))) t6)) fun t7 => lf (pyAdd t7 v_price)) pkD (fun p => .int (((la ps t).getD (t + 1 - p.1) 0 + p.2 : Nat) : Int)) ps (by omega) fun p hp' => by
      have hq := hp.2.2 p hp'
      have g1 := mx_ok t p.1
      have g2 := at_nD (xs := la ps t) (i := t + 1 - p.1) (by rw [la_len]; omega)
      rw [show pkD p = .tuple [.int (p.1 : Int), .int (p.2 : Int)] from rfl]
      simp only [QV, if_true, if_false, reduceIte, Bool.false_eq_true, Bool.not_true, Bool.not_false, Bool.and_true, Bool.true_and, Bool.and_false, Bool.false_and, Bool.or_true, Bool.true_or, Bool.or_false, Bool.false_or, Bool.and_self, Bool.or_self, reduceCtorEq, decide_true, decide_false, List.length_cons, List.length_nil, List.length_map, List.length_range, nD_len, rngD_length, Nat.reduceAdd, Int.toNat_natCast, List.map_cons, List.map_nil, List.isEmpty_cons, List.isEmpty_nil, List.nil_append, List.cons_append, Int.reduceNeg, g1, g2, Int.natCast_add]
    have e2 : (ps.map fun p => PyData.int (((la ps t).getD (t + 1 - p.1) 0 + p.2 : Nat) : Int)) = nD (ps.map fun p => (la ps t).getD (t + 1 - p.1) 0 + p.2) := by
      unfold nD
      rw [List.map_map]
      rfl
    rw [e2] at e1
    have e3 := mn_nat (ps.map fun p => (la ps t).getD (t + 1 - p.1) 0 + p.2) (fun z => hp.1 (List.map_eq_nil_iff.mp z))
    have e4 := appOk (xs := nD (la ps t)) (x := .int (mn (ps.map fun p => (la ps t).getD (t + 1 - p.1) 0 + p.2) : Nat)) (by rw [nD_len, la_len]; omega)
    rw [p_cost_ladder_L1]
    simp only [QV, if_true, if_false, reduceIte, Bool.false_eq_true, Bool.not_true, Bool.not_false, Bool.and_true, Bool.true_and, Bool.and_false, Bool.false_and, Bool.or_true, Bool.true_or, Bool.or_false, Bool.false_or, Bool.and_self, Bool.or_self, reduceCtorEq, decide_true, decide_false, List.length_cons, List.length_nil, List.length_map, List.length_range, nD_len, rngD_length, Nat.reduceAdd, Int.toNat_natCast, List.map_cons, List.map_nil, List.isEmpty_cons, List.isEmpty_nil, List.nil_append, List.cons_append, Int.reduceNeg, e1, e3, e4, nD_snoc]
    rfl) rfl
  subst h
  have g1 : rng2O (.int 1) (.int ((s : Int) + 1)) = some (rngD 1 s) := by
    rw [rng2_ok (by omega) (by omega) (by omega) (by omega), show ((s : Int) + 1 - 1).toNat = s by omega]
  rw [p_cost_ladder]
  simp only [QV, if_true, if_false, reduceIte, Bool.false_eq_true, Bool.not_true, Bool.not_false, Bool.and_true, Bool.true_and, Bool.and_false, Bool.false_and, Bool.or_true, Bool.true_or, Bool.or_false, Bool.false_or, Bool.and_self, Bool.or_self, reduceCtorEq, decide_true, decide_false, List.length_cons, List.length_nil, List.length_map, List.length_range, nD_len, rngD_length, Nat.reduceAdd, Int.toNat_natCast, List.map_cons, List.map_nil, List.isEmpty_cons, List.isEmpty_nil, List.nil_append, List.cons_append, Int.reduceNeg, g1, e]
theorem lad_at (ps : Ps) {s k : Nat} (h : k ≤ s) : L2.atI (nD (la ps s)) (k : Int) = some (.int (C ps k : Nat)) := by
  rw [at_nD (by rw [la_len]; omega), la_get ps s k h]
theorem lad_last (ps : Ps) (s : Nat) : L2.atI (nD (la ps s)) (-1) = some (.int (C ps s : Nat)) := by
  rw [at_last (by rw [nD_len, la_len]; omega), nD_len, la_len, Nat.add_sub_cancel]
  have := lad_at ps (Nat.le_refl s)
  unfold nD
  rw [List.getElem?_map, List.getElem?_eq_getElem (by rw [la_len]; omega)]
  have e := la_get ps s s (Nat.le_refl s)
  rw [List.getD_eq_getElem?_getD, List.getElem?_eq_getElem (by rw [la_len]; omega)] at e
  exact congrArg (fun x : Nat => some (PyData.int (x : Int))) e
theorem last_at (ps : Ps) (hp : ps ≠ []) : L2.atI (ps.map pkD) (-1) = some (pkD (ps.getLastD (0, 0))) := by
  rw [at_last (by rw [List.length_map]; exact List.length_pos_iff.mpr hp), List.length_map, List.getElem?_map, ← List.getLast?_eq_getElem?, List.getLastD_eq_getLast?]
  cases h : ps.getLast? with
  | none => exact absurd (List.getLast?_eq_none_iff.mp h) hp
  | some p => rfl
theorem last_mem {ps : Ps} (hp : ps ≠ []) : ps.getLastD (0, 0) ∈ ps := by
  rw [List.getLastD_eq_getLast?]
  cases h : ps.getLast? with
  | none => exact absurd (List.getLast?_eq_none_iff.mp h) hp
  | some p => exact List.mem_of_getLast? h
theorem tp_le {ps : Ps} (hp : Fine ps) : tp ps ≤ 870 := by
  have h1 := hp.2.2 _ (best_mem hp.1)
  have h2 := hp.2.2 _ (last_mem hp.1)
  unfold tp lastS
  calc ((best ps).1 - 1) * (ps.getLastD (0, 0)).1 ≤ 29 * 30 := Nat.mul_le_mul (by omega) (by omega)
    _ = 870 := rfl
theorem tp_ok (ps : Ps) (hp : Fine ps) : p_turning_point (.tuple (ps.map pkD)) = ret (.int (tp ps : Nat)) := by
  have e1 := best_ok ps hp
  have e2 := last_at ps hp.1
  have h1 := hp.2.2 _ (best_mem hp.1)
  have e3 : ((best ps).1 : Int) - 1 = (((best ps).1 - 1 : Nat) : Int) := by omega
  have e4 := mulN (a := (best ps).1 - 1) (b := (ps.getLastD (0, 0)).1) (.inl (by omega))
  rw [show pkD (best ps) = .tuple [.int ((best ps).1 : Int), .int ((best ps).2 : Int)] from rfl] at e1
  rw [show pkD (ps.getLastD (0, 0)) = .tuple [.int ((ps.getLastD (0, 0)).1 : Int), .int ((ps.getLastD (0, 0)).2 : Int)] from rfl] at e2
  rw [p_turning_point]
  simp only [QV, if_true, if_false, reduceIte, Bool.false_eq_true, Bool.not_true, Bool.not_false, Bool.and_true, Bool.true_and, Bool.and_false, Bool.false_and, Bool.or_true, Bool.true_or, Bool.or_false, Bool.false_or, Bool.and_self, Bool.or_self, reduceCtorEq, decide_true, decide_false, List.length_cons, List.length_nil, List.length_map, List.length_range, nD_len, rngD_length, Nat.reduceAdd, Int.toNat_natCast, List.map_cons, List.map_nil, List.isEmpty_cons, List.isEmpty_nil, List.nil_append, List.cons_append, Int.reduceNeg, e1, e2, e3, e4]
  rfl
theorem far_ok (ps : Ps) (hp : Fine ps) (n : Nat) (hn : n ≤ 10000) : p_cost_far (.tuple (ps.map pkD)) (.int (n : Int)) = ret (.int (cf ps n : Nat)) := by
  have e1 := best_ok ps hp
  have e2 := tp_ok ps hp
  have h1 := hp.2.2 _ (best_mem hp.1)
  have h2 := tp_le hp
  rw [show pkD (best ps) = .tuple [.int ((best ps).1 : Int), .int ((best ps).2 : Int)] from rfl] at e1
  generalize hd : (best ps).1 = d at *
  generalize hpr : (best ps).2 = p at *
  generalize hT : tp ps = T at *
  by_cases z : T + d < n
  · have q : decide ((T : Int) + (d : Int) < (n : Int)) = true := decide_eq_true (by omega)
    have e3 : ((n : Int) - ((T : Int) + (d : Int)) + (d : Int) - 1) = ((n - (T + d) + d - 1 : Nat) : Int) := by omega
    have hl : (d : Int).natAbs.log2 < 9000 := Nat.lt_trans (log2_small (n := (d : Int).natAbs) (k := 20) (by omega) (by decide)) (by decide)
    have e4 : pyDiv (.int ((n - (T + d) + d - 1 : Nat) : Int)) (.int (d : Int)) = some (.int (((n - (T + d) + d - 1) / d : Nat) : Int)) := by
      rw [divI (by omega) hl]
      rfl
    have hle : (n - (T + d) + d - 1) / d * d ≤ n - (T + d) + d - 1 := Nat.div_mul_le_self _ _
    have hm : (n - (T + d) + d - 1) / d ≤ n - (T + d) + d - 1 := Nat.div_le_self _ _
    have hc : cf ps n = C ps (n - (n - (T + d) + d - 1) / d * d) + (n - (T + d) + d - 1) / d * p := by
      have := cf_hi (ps := ps) (n := n) (by rw [hd, hT]; exact z)
      rw [hd, hT, hpr] at this
      exact this
    rw [hc]
    generalize (n - (T + d) + d - 1) / d = m at *
    have e5 := mulN (a := m) (b := d) (.inr (by omega))
    have e6 := mulN (a := m) (b := p) (.inr (by omega))
    have e7 : (n : Int) - ((m * d : Nat) : Int) = ((n - m * d : Nat) : Int) := by omega
    have e8 := ladder_ok ps hp (n - m * d) (by omega)
    have e9 := lad_last ps (n - m * d)
    rw [p_cost_far]
    simp only [QV, if_true, if_false, reduceIte, Bool.false_eq_true, Bool.not_true, Bool.not_false, Bool.and_true, Bool.true_and, Bool.and_false, Bool.false_and, Bool.or_true, Bool.true_or, Bool.or_false, Bool.false_or, Bool.and_self, Bool.or_self, reduceCtorEq, decide_true, decide_false, List.length_cons, List.length_nil, List.length_map, List.length_range, nD_len, rngD_length, Nat.reduceAdd, Int.toNat_natCast, List.map_cons, List.map_nil, List.isEmpty_cons, List.isEmpty_nil, List.nil_append, List.cons_append, Int.reduceNeg, e1, e2, q, e3, e4, e5, e6, e7, e8, e9, Int.natCast_add]
  · have q : decide ((T : Int) + (d : Int) < (n : Int)) = false := decide_eq_false (by omega)
    have hc : cf ps n = C ps n := cf_lo (by rw [hd, hT]; omega)
    have e5 : pyMul (.int 0) (.int (d : Int)) = some (.int 0) := by
      have := mulN (a := 0) (b := d) (.inl (by omega))
      rw [Nat.zero_mul] at this
      exact this
    have e6 : pyMul (.int 0) (.int (p : Int)) = some (.int 0) := by
      have := mulN (a := 0) (b := p) (.inl (by omega))
      rw [Nat.zero_mul] at this
      exact this
    have e8 := ladder_ok ps hp n (by omega)
    have e9 := lad_last ps n
    rw [hc, p_cost_far]
    simp only [QV, if_true, if_false, reduceIte, Bool.false_eq_true, Bool.not_true, Bool.not_false, Bool.and_true, Bool.true_and, Bool.and_false, Bool.false_and, Bool.or_true, Bool.true_or, Bool.or_false, Bool.false_or, Bool.and_self, Bool.or_self, reduceCtorEq, decide_true, decide_false, List.length_cons, List.length_nil, List.length_map, List.length_range, nD_len, rngD_length, Nat.reduceAdd, Int.toNat_natCast, List.map_cons, List.map_nil, List.isEmpty_cons, List.isEmpty_nil, List.nil_append, List.cons_append, Int.reduceNeg, e1, e2, q, e5, e6, Int.sub_zero, e8, e9, Int.add_zero]
theorem rounds_ok (ps : Ps) (hp : Fine ps) : ∃ r : Nat, p_rounds_from (.tuple (ps.map pkD)) = ret (.int (r : Int)) ∧ r ≤ 871 ∧ Turn ps r := by
  have e1 := best_ok ps hp
  have e2 := tp_ok ps hp
  have h1 := hp.2.2 _ (best_mem hp.1)
  have h2 := tp_le hp
  rw [show pkD (best ps) = .tuple [.int ((best ps).1 : Int), .int ((best ps).2 : Int)] from rfl] at e1
  have hT0 : Turn ps (tp ps + 1) := fun n h1 h2 => by omega
  unfold Turn at *
  generalize hd : (best ps).1 = d at *
  generalize hpr : (best ps).2 = p at *
  generalize hT : tp ps = T at *
  have e3 := ladder_ok ps hp (T + d) (by omega)
  rw [show ((T + d : Nat) : Int) = (T : Int) + (d : Int) by omega] at e3
  obtain ⟨r, e4, ⟨g1, g2⟩, _⟩ := whP_abs (T := p_rounds_from_W1T (.int (d : Int)) (.int (p : Int)) (.tuple (nD (la ps (T + d))))) (st := p_rounds_from_W1 (.int (d : Int)) (.int (p : Int)) (.tuple (nD (la ps (T + d))))) (fun (r : Nat) => PyData.int (r : Int)) (fun r => r ≤ T + 1 ∧ ∀ n, r ≤ n → n ≤ T → C ps (n + d) = C ps n + p) (Nat.lt_wfRel.wf) (fun r hr => by
    obtain ⟨g1, g2⟩ := hr
    rcases Nat.eq_zero_or_pos r with z | z
    · refine .inl ?_
      subst z
      rw [p_rounds_from_W1T]
      simp only [QV, if_true, if_false, reduceIte, Bool.false_eq_true, Bool.not_true, Bool.not_false, Bool.and_true, Bool.true_and, Bool.and_false, Bool.false_and, Bool.or_true, Bool.true_or, Bool.or_false, Bool.false_or, Bool.and_self, Bool.or_self, reduceCtorEq, decide_true, decide_false, List.length_cons, List.length_nil, List.length_map, List.length_range, nD_len, rngD_length, Nat.reduceAdd, Int.toNat_natCast, List.map_cons, List.map_nil, List.isEmpty_cons, List.isEmpty_nil, List.nil_append, List.cons_append, Int.reduceNeg]
      rfl
    · have q : decide ((0 : Int) < (r : Int)) = true := decide_eq_true (by omega)
      have k1 : (r : Int) - 1 = ((r - 1 : Nat) : Int) := by omega
      have k2 : ((r - 1 : Nat) : Int) + (d : Int) = ((r - 1 + d : Nat) : Int) := by omega
      have k3 := lad_at ps (s := T + d) (k := r - 1 + d) (by omega)
      have k4 := lad_at ps (s := T + d) (k := r - 1) (by omega)
      have k5 : decide (((C ps (r - 1 + d) : Nat) : Int) = ((C ps (r - 1) : Nat) : Int) + (p : Int)) = decide (C ps (r - 1 + d) = C ps (r - 1) + p) := decide_eq_decide.mpr (by omega)
      by_cases y : C ps (r - 1 + d) = C ps (r - 1) + p
      · rw [decide_eq_true y] at k5
        refine .inr ⟨?_, r - 1, ?_, ⟨by omega, fun n hn1 hn2 => ?_⟩, by show r - 1 < r; omega⟩
        · rw [p_rounds_from_W1T]
          simp only [QV, if_true, if_false, reduceIte, Bool.false_eq_true, Bool.not_true, Bool.not_false, Bool.and_true, Bool.true_and, Bool.and_false, Bool.false_and, Bool.or_true, Bool.true_or, Bool.or_false, Bool.false_or, Bool.and_self, Bool.or_self, reduceCtorEq, decide_true, decide_false, List.length_cons, List.length_nil, List.length_map, List.length_range, nD_len, rngD_length, Nat.reduceAdd, Int.toNat_natCast, List.map_cons, List.map_nil, List.isEmpty_cons, List.isEmpty_nil, List.nil_append, List.cons_append, Int.reduceNeg, q, k1, k2, k3, k4, k5]
        · rw [p_rounds_from_W1]
          simp only [QV, if_true, if_false, reduceIte, Bool.false_eq_true, Bool.not_true, Bool.not_false, Bool.and_true, Bool.true_and, Bool.and_false, Bool.false_and, Bool.or_true, Bool.true_or, Bool.or_false, Bool.false_or, Bool.and_self, Bool.or_self, reduceCtorEq, decide_true, decide_false, List.length_cons, List.length_nil, List.length_map, List.length_range, nD_len, rngD_length, Nat.reduceAdd, Int.toNat_natCast, List.map_cons, List.map_nil, List.isEmpty_cons, List.isEmpty_nil, List.nil_append, List.cons_append, Int.reduceNeg, k1]
        · by_cases w : n = r - 1
          · subst w; exact y
          · exact g2 n (by omega) hn2
      · rw [decide_eq_false y] at k5
        refine .inl ?_
        rw [p_rounds_from_W1T]
        simp only [QV, if_true, if_false, reduceIte, Bool.false_eq_true, Bool.not_true, Bool.not_false, Bool.and_true, Bool.true_and, Bool.and_false, Bool.false_and, Bool.or_true, Bool.true_or, Bool.or_false, Bool.false_or, Bool.and_self, Bool.or_self, reduceCtorEq, decide_true, decide_false, List.length_cons, List.length_nil, List.length_map, List.length_range, nD_len, rngD_length, Nat.reduceAdd, Int.toNat_natCast, List.map_cons, List.map_nil, List.isEmpty_cons, List.isEmpty_nil, List.nil_append, List.cons_append, Int.reduceNeg, q, k1, k2, k3, k4, k5]) (T + 1) ⟨Nat.le_refl _, hT0⟩
  refine ⟨r, ?_, by omega, g2⟩
  have k6 : (T : Int) + 1 = ((T + 1 : Nat) : Int) := rfl
  rw [p_rounds_from]
  simp only [QV, if_true, if_false, reduceIte, Bool.false_eq_true, Bool.not_true, Bool.not_false, Bool.and_true, Bool.true_and, Bool.and_false, Bool.false_and, Bool.or_true, Bool.true_or, Bool.or_false, Bool.false_or, Bool.and_self, Bool.or_self, reduceCtorEq, decide_true, decide_false, List.length_cons, List.length_nil, List.length_map, List.length_range, nD_len, rngD_length, Nat.reduceAdd, Int.toNat_natCast, List.map_cons, List.map_nil, List.isEmpty_cons, List.isEmpty_nil, List.nil_append, List.cons_append, Int.reduceNeg, e1, e2, e3, k6, e4]
end Dn

set_option Elab.async false
set_option linter.all false
set_option autoImplicit false
set_option maxRecDepth 100000
set_option maxHeartbeats 4000000
set_option exponentiation.threshold 100000
namespace Dn
open PySem G Pk
/-! ### a cheapest purchase is enough -/
def amt (ps : Ps) (f : List Nat) : Nat := (List.zipWith (fun n (p : Nat × Nat) => n * p.1) f ps).sum
theorem amt_set : ∀ (ps : Ps) (f : List Nat) (k : Nat) (p : Nat × Nat), ps[k]? = some p → k < f.length → amt ps (f.set k (f.getD k 0 + 1)) = amt ps f + p.1
  | [], f, k, p, h, _ => by cases h
  | q :: ps, [], k, p, _, h => by cases h
  | q :: ps, n :: f, 0, p, h, _ => by
    cases h
    unfold amt
    simp only [List.set_cons_zero, List.zipWith_cons_cons, List.sum_cons, List.getD_cons_zero]
    rw [Nat.add_mul]
    omega
  | q :: ps, n :: f, k + 1, p, h, hl => by
    have := amt_set ps f k p h (by simpa using hl)
    unfold amt at this ⊢
    simp only [List.set_cons_succ, List.zipWith_cons_cons, List.sum_cons, List.getD_cons_succ]
    omega
theorem amt_zero : ∀ (ps : Ps) (n : Nat), amt ps (List.replicate n 0) = 0
  | [], n => by unfold amt; rw [List.zipWith_nil_right]; rfl
  | p :: ps, 0 => rfl
  | p :: ps, n + 1 => by
    have := amt_zero ps n
    unfold amt at this ⊢
    rw [List.replicate_succ, List.zipWith_cons_cons, List.sum_cons, this]
    simp
theorem nD_rep (n : Nat) : List.replicate n (PyData.int 0) = nD (List.replicate n 0) := by
  unfold nD
  rw [List.map_replicate]
  rfl
def zipP (f : List Nat) (ps : Ps) : List (Nat × (Nat × Nat)) := List.zip f ps
theorem zip_D : ∀ (f : List Nat) (ps : Ps), zipD (nD f) (ps.map pkD) = (zipP f ps).map fun q => PyData.tuple [.int (q.1 : Int), pkD q.2]
  | [], _ => rfl
  | _ :: _, [] => rfl
  | n :: f, p :: ps => by
    show PyData.tuple [.int (n : Int), pkD p] :: zipD (nD f) (ps.map pkD) = _
    rw [zip_D f ps]
    rfl
theorem amount_ok (ps : Ps) (hp : Fine ps) (f : List Nat) : p_amount_of (.tuple (ps.map pkD)) (.tuple (nD f)) = ret (.int (amt ps f : Nat)) := by
  have h4 := hp.2.1
  have hl : (zipP f ps).length ≤ 4 := by
    unfold zipP
    rw [List.length_zip]
    omega
  have e1 := cmpP_map (f := fun x3 => un2 x3 fun v_n u4 => un2 u4 fun v_size v__ => lf (pyMulB v_n v_size)) (fun (q : Nat × (Nat × Nat)) => PyData.tuple [.int (q.1 : Int), pkD q.2]) (fun q => .int ((q.1 * q.2.1 : Nat) : Int)) (zipP f ps) (by omega) fun q hq => by
    have hm : q.2 ∈ ps := (List.of_mem_zip hq).2
    have := hp.2.2 _ hm
    have g1 := mulN (a := q.1) (b := q.2.1) (.inr (by omega))
    rw [show pkD q.2 = .tuple [.int (q.2.1 : Int), .int (q.2.2 : Int)] from rfl]
    simp only [QV, if_true, if_false, reduceIte, Bool.false_eq_true, Bool.not_true, Bool.not_false, Bool.and_true, Bool.true_and, Bool.and_false, Bool.false_and, Bool.or_true, Bool.true_or, Bool.or_false, Bool.false_or, Bool.and_self, Bool.or_self, reduceCtorEq, decide_true, decide_false, List.length_cons, List.length_nil, List.length_map, List.length_range, nD_len, rngD_length, Nat.reduceAdd, Int.toNat_natCast, List.map_cons, List.map_nil, List.isEmpty_cons, List.isEmpty_nil, List.nil_append, List.cons_append, Int.reduceNeg, g1]
  have e2 : ∀ (f : List Nat) (ps : Ps), ((zipP f ps).map fun q => PyData.int ((q.1 * q.2.1 : Nat) : Int)) = nD (List.zipWith (fun n (p : Nat × Nat) => n * p.1) f ps) := by
    intro f
    induction f with
    | nil => intro ps; rfl
    | cons n f ih =>
      intro ps
      cases ps with
      | nil => rfl
      | cons p ps => exact congrArg (PyData.int ((n * p.1 : Nat) : Int) :: ·) (ih ps)
  rw [e2] at e1
  have e3 := sumL_nD (List.zipWith (fun n (p : Nat × Nat) => n * p.1) f ps)
  rw [p_amount_of]
  simp only [QV, if_true, if_false, reduceIte, Bool.false_eq_true, Bool.not_true, Bool.not_false, Bool.and_true, Bool.true_and, Bool.and_false, Bool.false_and, Bool.or_true, Bool.true_or, Bool.or_false, Bool.false_or, Bool.and_self, Bool.or_self, reduceCtorEq, decide_true, decide_false, List.length_cons, List.length_nil, List.length_map, List.length_range, nD_len, rngD_length, Nat.reduceAdd, Int.toNat_natCast, List.map_cons, List.map_nil, List.isEmpty_cons, List.isEmpty_nil, List.nil_append, List.cons_append, Int.reduceNeg, zip_D, e1, e3]
  rfl
/-- one turn of the buying -/
theorem cheap_W (ps : Ps) (hp : Fine ps) {S s : Nat} (hs : 0 < s) (hsS : s ≤ S) (f : List Nat) (hf : f.length = ps.length) : ∃ k p, ps[k]? = some p ∧ p_cheapest_W1 (.tuple (ps.map pkD)) (.tuple (nD (la ps S))) (.int (s : Int), nD f) = ret (.nx (.int ((s - p.1 : Nat) : Int), nD (f.set k (f.getD k 0 + 1)))) := by
  have h4 := hp.2.1
  have g1 : enumD 0 (ps.map pkD) = _ := enum_map pkD ps 0
  have hz : (ps.zipIdx 0).length = ps.length := List.length_zipIdx
  have e1 := cmpF_map (f := fun x5 => un2 x5 fun v_i u6 => un2 u6 fun v_size v_price => mFil (bn (lf (pySub (.int (s : Int)) v_size)) fun t7 => bn (lf (pyMax2 [(.int 0), t7])) fun t8 => bn (lf (pyIx (.tuple (nD (la ps S))) t8)) fun t9 => bn (lf (pyAdd t9 v_price)) fun t10 => bn (lf (pyIx (.tuple (nD (la ps S))) (.int (s : Int)))) fun t11 => lf (pyEq t10 t11)) (ret v_i)) (fun (q : (Nat × Nat) × Nat) => PyData.tuple [.int (q.2 : Int), pkD q.1]) (fun q => decide (C ps (s - q.1.1) + q.1.2 = C ps s)) (fun q => PyData.int (q.2 : Int)) (ps.zipIdx 0) (by omega) fun q hq => by
    have k1 := max2_nat (a := s) (b := q.1.1)
    have k2 := lad_at ps (s := S) (k := s - q.1.1) (by omega)
    have k3 := lad_at ps (s := S) (k := s) hsS
    have k4 : decide (((C ps (s - q.1.1) : Nat) : Int) + (q.1.2 : Int) = ((C ps s : Nat) : Int)) = decide (C ps (s - q.1.1) + q.1.2 = C ps s) := decide_eq_decide.mpr (by omega)
    rw [show pkD q.1 = .tuple [.int (q.1.1 : Int), .int (q.1.2 : Int)] from rfl]
    simp only [QV, if_true, if_false, reduceIte, Bool.false_eq_true, Bool.not_true, Bool.not_false, Bool.and_true, Bool.true_and, Bool.and_false, Bool.false_and, Bool.or_true, Bool.true_or, Bool.or_false, Bool.false_or, Bool.and_self, Bool.or_self, reduceCtorEq, decide_true, decide_false, List.length_cons, List.length_nil, List.length_map, List.length_range, nD_len, rngD_length, Nat.reduceAdd, Int.toNat_natCast, List.map_cons, List.map_nil, List.isEmpty_cons, List.isEmpty_nil, List.nil_append, List.cons_append, Int.reduceNeg, k1, k2, k3, k4]
  obtain ⟨p0, hp0, ep0⟩ := C_ex hp.ok s hs
  obtain ⟨i, hi, ei⟩ := List.mem_iff_getElem.mp hp0
  cases hF : (ps.zipIdx 0).filter fun q => decide (C ps (s - q.1.1) + q.1.2 = C ps s) with
  | nil =>
    exfalso
    have : (p0, i) ∈ (ps.zipIdx 0).filter fun q => decide (C ps (s - q.1.1) + q.1.2 = C ps s) := List.mem_filter.mpr ⟨by rw [List.mem_zipIdx_iff_getElem?, List.getElem?_eq_getElem hi, ei], decide_eq_true ep0.symm⟩
    rw [hF] at this
    cases this
  | cons q F =>
    have hq : q ∈ (ps.zipIdx 0).filter fun q => decide (C ps (s - q.1.1) + q.1.2 = C ps s) := by rw [hF]; exact List.mem_cons_self
    have hq2 := (List.mem_filter.mp hq).1
    rw [List.mem_zipIdx_iff_getElem?] at hq2
    rw [hF] at e1
    obtain ⟨p, k⟩ := q
    simp only at hq2
    have hk : k < ps.length := by
      rcases Nat.lt_or_ge k ps.length with z | z
      · exact z
      · rw [List.getElem?_eq_none z] at hq2; cases hq2
    refine ⟨k, p, hq2, ?_⟩
    have k1 := at_nD (xs := f) (i := k) (by omega)
    have k2 : augO (fun i j => i + j) (.int (f.getD k 0 : Nat)) (.int 1) = some (.int ((f.getD k 0 + 1 : Nat) : Int)) := rfl
    have k3 : setO (nD f) (.int (k : Int)) (.int ((f.getD k 0 + 1 : Nat) : Int)) = some (nD (f.set k (f.getD k 0 + 1))) := set_map (fun (x : Nat) => PyData.int (x : Int)) (xs := f) (i := k) (x := f.getD k 0 + 1) (by omega)
    have k4 : L2.atI (ps.map pkD) (k : Int) = some (.tuple [.int (p.1 : Int), .int (p.2 : Int)]) := at_map pkD hq2
    have k5 := max2_nat (a := s) (b := p.1)
    simp only [QV, if_true, if_false, reduceIte, Bool.false_eq_true, Bool.not_true, Bool.not_false, Bool.and_true, Bool.true_and, Bool.and_false, Bool.false_and, Bool.or_true, Bool.true_or, Bool.or_false, Bool.false_or, Bool.and_self, Bool.or_self, reduceCtorEq, decide_true, decide_false, List.length_cons, List.length_nil, List.length_map, List.length_range, nD_len, rngD_length, Nat.reduceAdd, Int.toNat_natCast, List.map_cons, List.map_nil, List.isEmpty_cons, List.isEmpty_nil, List.nil_append, List.cons_append, Int.reduceNeg] at e1
    rw [p_cheapest_W1]
    simp only [QV, if_true, if_false, reduceIte, Bool.false_eq_true, Bool.not_true, Bool.not_false, Bool.and_true, Bool.true_and, Bool.and_false, Bool.false_and, Bool.or_true, Bool.true_or, Bool.or_false, Bool.false_or, Bool.and_self, Bool.or_self, reduceCtorEq, decide_true, decide_false, List.length_cons, List.length_nil, List.length_map, List.length_range, nD_len, rngD_length, Nat.reduceAdd, Int.toNat_natCast, List.map_cons, List.map_nil, List.isEmpty_cons, List.isEmpty_nil, List.nil_append, List.cons_append, Int.reduceNeg, g1, e1, k1, k2, k3, k4, k5]
theorem cheap_ok (ps : Ps) (hp : Fine ps) (S : Nat) (hS : S ≤ 10000) : ∃ f : List Nat, p_cheapest (.tuple (ps.map pkD)) (.int (S : Int)) = ret (.tuple (nD f)) ∧ S ≤ amt ps f := by
  have h4 := hp.2.1
  have e1 := ladder_ok ps hp S hS
  obtain ⟨⟨s, f⟩, e2, ⟨g1, g2, g3⟩, g4⟩ := whP_abs (T := p_cheapest_W1T (.tuple (ps.map pkD)) (.tuple (nD (la ps S)))) (st := p_cheapest_W1 (.tuple (ps.map pkD)) (.tuple (nD (la ps S)))) (fun (q : Nat × List Nat) => (PyData.int (q.1 : Int), nD q.2)) (fun q => q.1 ≤ S ∧ q.2.length = ps.length ∧ S ≤ amt ps q.2 + q.1) (r := fun a b => a.1 < b.1) (InvImage.wf (fun q : Nat × List Nat => q.1) Nat.lt_wfRel.wf) (fun q hq => by
    obtain ⟨s, f⟩ := q
    obtain ⟨g1, g2, g3⟩ := hq
    rcases Nat.eq_zero_or_pos s with z | z
    · refine .inl ?_
      subst z
      rw [p_cheapest_W1T]
      simp only [QV, if_true, if_false, reduceIte, Bool.false_eq_true, Bool.not_true, Bool.not_false, Bool.and_true, Bool.true_and, Bool.and_false, Bool.false_and, Bool.or_true, Bool.true_or, Bool.or_false, Bool.false_or, Bool.and_self, Bool.or_self, reduceCtorEq, decide_true, decide_false, List.length_cons, List.length_nil, List.length_map, List.length_range, nD_len, rngD_length, Nat.reduceAdd, Int.toNat_natCast, List.map_cons, List.map_nil, List.isEmpty_cons, List.isEmpty_nil, List.nil_append, List.cons_append, Int.reduceNeg]
      rfl
    · have q : decide ((0 : Int) < (s : Int)) = true := decide_eq_true (by omega)
      obtain ⟨k, p, hk, e⟩ := cheap_W ps hp z g1 f g2
      have hm : p ∈ ps := List.mem_of_getElem? hk
      have h1 := hp.2.2 p hm
      have hk' : k < f.length := by
        rw [g2]
        rcases Nat.lt_or_ge k ps.length with z | z
        · exact z
        · rw [List.getElem?_eq_none z] at hk; cases hk
      refine .inr ⟨?_, (s - p.1, f.set k (f.getD k 0 + 1)), e, ⟨by show s - p.1 ≤ S; omega, by show (f.set k _).length = _; rw [List.length_set]; exact g2, ?_⟩, by show s - p.1 < s; omega⟩
      · rw [p_cheapest_W1T]
        simp only [QV, if_true, if_false, reduceIte, Bool.false_eq_true, Bool.not_true, Bool.not_false, Bool.and_true, Bool.true_and, Bool.and_false, Bool.false_and, Bool.or_true, Bool.true_or, Bool.or_false, Bool.false_or, Bool.and_self, Bool.or_self, reduceCtorEq, decide_true, decide_false, List.length_cons, List.length_nil, List.length_map, List.length_range, nD_len, rngD_length, Nat.reduceAdd, Int.toNat_natCast, List.map_cons, List.map_nil, List.isEmpty_cons, List.isEmpty_nil, List.nil_append, List.cons_append, Int.reduceNeg, q]
      · show S ≤ amt ps (f.set k (f.getD k 0 + 1)) + (s - p.1)
        rw [amt_set ps f k p hk hk']
        simp only at g3
        omega) (S, List.replicate ps.length 0) ⟨Nat.le_refl _, List.length_replicate, by rw [amt_zero]; simp⟩
  have hs0 : s = 0 := by
    rcases Nat.eq_zero_or_pos s with z | z
    · exact z
    · exfalso
      have q : decide ((0 : Int) < (s : Int)) = true := decide_eq_true (by omega)
      rw [p_cheapest_W1T] at g4
      have h5 : (ret true : M Bool) = ret false := by
        rw [← g4]
        simp only [QV, if_true, if_false, reduceIte, Bool.false_eq_true, Bool.not_true, Bool.not_false, Bool.and_true, Bool.true_and, Bool.and_false, Bool.false_and, Bool.or_true, Bool.true_or, Bool.or_false, Bool.false_or, Bool.and_self, Bool.or_self, reduceCtorEq, decide_true, decide_false, List.length_cons, List.length_nil, List.length_map, List.length_range, nD_len, rngD_length, Nat.reduceAdd, Int.toNat_natCast, List.map_cons, List.map_nil, List.isEmpty_cons, List.isEmpty_nil, List.nil_append, List.cons_append, Int.reduceNeg, q]
      have := congrFun h5 ⟨[], [], true⟩
      cases this
  subst hs0
  refine ⟨f, ?_, by simpa using g3⟩
  have e3 := mulLO_one (.int 0) ps.length (by omega)
  rw [nD_rep] at e3
  rw [p_cheapest]
  simp only [QV, if_true, if_false, reduceIte, Bool.false_eq_true, Bool.not_true, Bool.not_false, Bool.and_true, Bool.true_and, Bool.and_false, Bool.false_and, Bool.or_true, Bool.true_or, Bool.or_false, Bool.false_or, Bool.and_self, Bool.or_self, reduceCtorEq, decide_true, decide_false, List.length_cons, List.length_nil, List.length_map, List.length_range, nD_len, rngD_length, Nat.reduceAdd, Int.toNat_natCast, List.map_cons, List.map_nil, List.isEmpty_cons, List.isEmpty_nil, List.nil_append, List.cons_append, Int.reduceNeg, e1, List.length_map, e3, e2]
/-! ### the entries -/
def encO : Option Nat → PyData
  | none => .none
  | some a => .int (a : Int)
def oD (es : Es) : List PyData := es.map encO
theorem oD_at {es : Es} {r : Nat} (h : r < es.length) : L2.atI (oD es) (r : Int) = some (encO (ge es r)) := at_map encO (ge_at h)
theorem isnot_n63 : pyIsNot .none .none = some false := rfl
theorem isnot_i {i : Int} : pyIsNot (.int i) .none = some true := rfl
theorem is_n : pyIs .none .none = some true := rfl
theorem is_i {i : Int} : pyIs (.int i) .none = some false := rfl
theorem modN (a : Nat) {m : Nat} (hm : 0 < m) : pyMod (.int (a : Int)) (.int (m : Int)) = some (.int ((a % m : Nat) : Int)) := by
  rw [modI (by omega)]
  rfl
theorem flr_L1 {m d : Nat} (hm : 0 < m) {es : Es} (hl : es.length = m) (ch : Bool) (r : Nat) (hr : r < m) : p_floor_L1 (.int (m : Int)) (.int (d : Int)) (.int (r : Int)) (oD es, .bool ch) = ret (oD (stp m d es r).1, .bool (ch || (stp m d es r).2)) := by
  have e1 := oD_at (es := es) (r := r) (by omega)
  rw [p_floor_L1]
  unfold stp
  cases ha : ge es r with
  | none =>
    rw [ha] at e1
    simp only [QV, if_true, if_false, reduceIte, Bool.false_eq_true, Bool.not_true, Bool.not_false, Bool.and_true, Bool.true_and, Bool.and_false, Bool.false_and, Bool.or_true, Bool.true_or, Bool.or_false, Bool.false_or, Bool.and_self, Bool.or_self, reduceCtorEq, decide_true, decide_false, List.length_cons, List.length_nil, List.length_map, List.length_range, nD_len, rngD_length, Nat.reduceAdd, Int.toNat_natCast, List.map_cons, List.map_nil, List.isEmpty_cons, List.isEmpty_nil, List.nil_append, List.cons_append, Int.reduceNeg, e1, encO, isnot_n63]
  | some a =>
    rw [ha] at e1
    have k1 : (a : Int) + (d : Int) = ((a + d : Nat) : Int) := rfl
    have e2 := modN (a + d) hm
    have hi : (a + d) % m < es.length := by rw [hl]; exact Nat.mod_lt _ hm
    have e3 := oD_at hi
    have e4 : setO (oD es) (.int (((a + d) % m : Nat) : Int)) (.int ((a + d : Nat) : Int)) = some (oD (es.set ((a + d) % m) (some (a + d)))) := set_map encO (xs := es) (x := some (a + d)) hi
    cases hc : ge es ((a + d) % m) with
    | none =>
      rw [hc] at e3
      simp only [QV, if_true, if_false, reduceIte, Bool.false_eq_true, Bool.not_true, Bool.not_false, Bool.and_true, Bool.true_and, Bool.and_false, Bool.false_and, Bool.or_true, Bool.true_or, Bool.or_false, Bool.false_or, Bool.and_self, Bool.or_self, reduceCtorEq, decide_true, decide_false, List.length_cons, List.length_nil, List.length_map, List.length_range, nD_len, rngD_length, Nat.reduceAdd, Int.toNat_natCast, List.map_cons, List.map_nil, List.isEmpty_cons, List.isEmpty_nil, List.nil_append, List.cons_append, Int.reduceNeg, e1, encO, isnot_i, k1, e2, e3, is_n, e4]
      simp only [hc, Bool.or_true]
    | some c =>
      rw [hc] at e3
      have q : decide (((a + d : Nat) : Int) < (c : Int)) = decide (a + d < c) := decide_eq_decide.mpr (by omega)
      by_cases z : a + d < c
      · rw [decide_eq_true z] at q
        simp only [QV, if_true, if_false, reduceIte, Bool.false_eq_true, Bool.not_true, Bool.not_false, Bool.and_true, Bool.true_and, Bool.and_false, Bool.false_and, Bool.or_true, Bool.true_or, Bool.or_false, Bool.false_or, Bool.and_self, Bool.or_self, reduceCtorEq, decide_true, decide_false, List.length_cons, List.length_nil, List.length_map, List.length_range, nD_len, rngD_length, Nat.reduceAdd, Int.toNat_natCast, List.map_cons, List.map_nil, List.isEmpty_cons, List.isEmpty_nil, List.nil_append, List.cons_append, Int.reduceNeg, e1, encO, isnot_i, k1, e2, e3, is_i, q, e4]
        simp only [hc, if_pos z, Bool.or_true]
      · rw [decide_eq_false z] at q
        simp only [QV, if_true, if_false, reduceIte, Bool.false_eq_true, Bool.not_true, Bool.not_false, Bool.and_true, Bool.true_and, Bool.and_false, Bool.false_and, Bool.or_true, Bool.true_or, Bool.or_false, Bool.false_or, Bool.and_self, Bool.or_self, reduceCtorEq, decide_true, decide_false, List.length_cons, List.length_nil, List.length_map, List.length_range, nD_len, rngD_length, Nat.reduceAdd, Int.toNat_natCast, List.map_cons, List.map_nil, List.isEmpty_cons, List.isEmpty_nil, List.nil_append, List.cons_append, Int.reduceNeg, e1, encO, isnot_i, k1, e2, e3, is_i, q]
        simp only [hc, if_neg z, Bool.or_false]
theorem floor_pass {m d : Nat} (hm : 0 < m) (hd : 0 < d) {es : Es} (g : Good m es) : ∃ es' ch, forP (p_floor_L1 (.int (m : Int)) (.int (d : Int))) (rngD 0 m) (oD es, .bool false) = ret (oD es', .bool ch) ∧ Pass m d es m es' ch := by
  obtain ⟨s, e, es', ch, rfl, h⟩ := forP_rng0 (f := p_floor_L1 (.int (m : Int)) (.int (d : Int))) (fun i s => ∃ es' ch, s = (oD es', .bool ch) ∧ Pass m d es i es' ch) m (oD es, .bool false) (fun i s hi hI => by
    obtain ⟨es', ch, rfl, h⟩ := hI
    exact ⟨_, flr_L1 hm h.good.len ch i hi, _, _, rfl, pass_step hm hd h⟩) ⟨es, false, rfl, pass_zero g⟩
  exact ⟨es', ch, e, h⟩
/-- until nothing changes -/
theorem floor_stage {m d : Nat} (hm : 0 < m) (hm2 : m ≤ 1000) (hd : 0 < d) {es : Es} (g : Good m es) : ∃ es', whP (p_floor_W2T (.int (m : Int)) (.int (d : Int))) (p_floor_W2 (.int (m : Int)) (.int (d : Int))) (oD es, .bool true) = ret (.nx (oD es', .bool false)) ∧ Good m es' ∧ Le es' es ∧ Closed m d es' := by
  have g1 := rng1_ok (n := m) (by omega)
  have wf : WellFounded (fun (a b : Es × Bool) => Lt a.1 b.1 ∨ (a.1 = b.1 ∧ a.2 = false ∧ b.2 = true)) := by
    have w := (Prod.lex Nat.lt_wfRel (Prod.lex Nat.lt_wfRel Nat.lt_wfRel)).wf
    refine Subrelation.wf (r := InvImage _ fun (a : Es × Bool) => (cN a.1, sV a.1, if a.2 = true then 1 else 0)) ?_ (InvImage.wf _ w)
    intro a b h
    rcases h with (h | ⟨h1, h2⟩) | ⟨h1, h2, h3⟩
    · exact Prod.Lex.left _ _ h
    · show Prod.Lex _ _ (cN a.1, _) (cN b.1, _)
      rw [h1]
      exact Prod.Lex.right _ (Prod.Lex.left _ _ h2)
    · show Prod.Lex _ _ (cN a.1, sV a.1, _) (cN b.1, sV b.1, _)
      rw [h1, h2, h3]
      exact Prod.Lex.right _ (Prod.Lex.right _ (show (0 : Nat) < 1 from Nat.zero_lt_one))
  obtain ⟨⟨es', ch⟩, e, ⟨h1, h2, h3⟩, h4⟩ := whP_abs (T := p_floor_W2T (.int (m : Int)) (.int (d : Int))) (st := p_floor_W2 (.int (m : Int)) (.int (d : Int))) (fun (q : Es × Bool) => (oD q.1, PyData.bool q.2)) (fun q => Good m q.1 ∧ Le q.1 es ∧ (q.2 = false → Closed m d q.1)) wf (fun q hq => by
    obtain ⟨e0, ch⟩ := q
    obtain ⟨h1, h2, h3⟩ := hq
    cases ch with
    | false =>
      refine .inl ?_
      rw [p_floor_W2T]
      simp only [QV, if_true, if_false, reduceIte, Bool.false_eq_true, Bool.not_true, Bool.not_false, Bool.and_true, Bool.true_and, Bool.and_false, Bool.false_and, Bool.or_true, Bool.true_or, Bool.or_false, Bool.false_or, Bool.and_self, Bool.or_self, reduceCtorEq, decide_true, decide_false, List.length_cons, List.length_nil, List.length_map, List.length_range, nD_len, rngD_length, Nat.reduceAdd, Int.toNat_natCast, List.map_cons, List.map_nil, List.isEmpty_cons, List.isEmpty_nil, List.nil_append, List.cons_append, Int.reduceNeg]
    | true =>
      obtain ⟨e1, c1, k1, k2⟩ := floor_pass hm hd h1
      refine .inr ⟨?_, (e1, c1), ?_, ⟨k2.good, k2.le.trans h2, fun z => ?_⟩, ?_⟩
      · rw [p_floor_W2T]
        simp only [QV, if_true, if_false, reduceIte, Bool.false_eq_true, Bool.not_true, Bool.not_false, Bool.and_true, Bool.true_and, Bool.and_false, Bool.false_and, Bool.or_true, Bool.true_or, Bool.or_false, Bool.false_or, Bool.and_self, Bool.or_self, reduceCtorEq, decide_true, decide_false, List.length_cons, List.length_nil, List.length_map, List.length_range, nD_len, rngD_length, Nat.reduceAdd, Int.toNat_natCast, List.map_cons, List.map_nil, List.isEmpty_cons, List.isEmpty_nil, List.nil_append, List.cons_append, Int.reduceNeg]
      · rw [p_floor_W2]
        simp only [QV, if_true, if_false, reduceIte, Bool.false_eq_true, Bool.not_true, Bool.not_false, Bool.and_true, Bool.true_and, Bool.and_false, Bool.false_and, Bool.or_true, Bool.true_or, Bool.or_false, Bool.false_or, Bool.and_self, Bool.or_self, reduceCtorEq, decide_true, decide_false, List.length_cons, List.length_nil, List.length_map, List.length_range, nD_len, rngD_length, Nat.reduceAdd, Int.toNat_natCast, List.map_cons, List.map_nil, List.isEmpty_cons, List.isEmpty_nil, List.nil_append, List.cons_append, Int.reduceNeg, g1, k1]
      · obtain ⟨k3, k4⟩ := k2.eq z
        rw [show (e1, c1).1 = e0 from k3]
        exact k4
      · cases c1 with
        | true => exact .inl (k2.lt rfl)
        | false => exact .inr ⟨(k2.eq rfl).1, rfl, rfl⟩) (es, true) ⟨g, Le.refl _, fun z => (by cases z)⟩
  have hch : ch = false := by
    cases ch with
    | false => rfl
    | true =>
      exfalso
      rw [p_floor_W2T] at h4
      have h5 : (ret true : M Bool) = ret false := by
        rw [← h4]
        simp only [QV, if_true, if_false, reduceIte, Bool.false_eq_true, Bool.not_true, Bool.not_false, Bool.and_true, Bool.true_and, Bool.and_false, Bool.false_and, Bool.or_true, Bool.true_or, Bool.or_false, Bool.false_or, Bool.and_self, Bool.or_self, reduceCtorEq, decide_true, decide_false, List.length_cons, List.length_nil, List.length_map, List.length_range, nD_len, rngD_length, Nat.reduceAdd, Int.toNat_natCast, List.map_cons, List.map_nil, List.isEmpty_cons, List.isEmpty_nil, List.nil_append, List.cons_append, Int.reduceNeg]
      have := congrFun h5 ⟨[], [], true⟩
      cases this
  subst hch
  exact ⟨es', e, h1, h2, h3 rfl⟩
theorem flr_L3 {m : Nat} (hm : 0 < m) (hm2 : m ≤ 1000) : ∀ (qs : Ps), (∀ p ∈ qs, 0 < p.1) → ∀ (es : Es) (P : Nat → Prop), Good m es → Cov m es P → ∃ es', forL (p_floor_L3 (.int (m : Int))) (qs.map pkD) (oD es) = ret (.nx (oD es')) ∧ Good m es' ∧ Cov m es' (qs.foldl more P)
  | [], _, es, P, g, c => ⟨es, rfl, g, c⟩
  | q :: qs, hq, es, P, g, c => by
    obtain ⟨e1, k1, k2, k3, k4⟩ := floor_stage hm hm2 (hq q List.mem_cons_self) g
    obtain ⟨e2, k5, k6, k7⟩ := flr_L3 hm hm2 qs (fun p hp => hq p (List.mem_cons_of_mem _ hp)) e1 (more P q) k2 (cov_more hm k2 c k3 k4)
    refine ⟨e2, ?_, k6, k7⟩
    show bn (p_floor_L3 (.int (m : Int)) (pkD q) (oD es)) _ = _
    have : p_floor_L3 (.int (m : Int)) (pkD q) (oD es) = ret (.nx (oD e1)) := by
      rw [p_floor_L3, show pkD q = .tuple [.int (q.1 : Int), .int (q.2 : Int)] from rfl]
      simp only [QV, if_true, if_false, reduceIte, Bool.false_eq_true, Bool.not_true, Bool.not_false, Bool.and_true, Bool.true_and, Bool.and_false, Bool.false_and, Bool.or_true, Bool.true_or, Bool.or_false, Bool.false_or, Bool.and_self, Bool.or_self, reduceCtorEq, decide_true, decide_false, List.length_cons, List.length_nil, List.length_map, List.length_range, nD_len, rngD_length, Nat.reduceAdd, Int.toNat_natCast, List.map_cons, List.map_nil, List.isEmpty_cons, List.isEmpty_nil, List.nil_append, List.cons_append, Int.reduceNeg, k1]
    rw [this, bn_ret]
    exact k5
def es0 (m : Nat) : Es := (List.replicate m none).set 0 (some 0)
theorem es0_good {m : Nat} (hm : 0 < m) : Good m (es0 m) ∧ Cov m (es0 m) (P0 m) := by
  have hi : 0 < (List.replicate m (none : Option Nat)).length := by rw [List.length_replicate]; exact hm
  have hg : ∀ r, ge (es0 m) r = if r = 0 then some 0 else none := fun r => by
    unfold es0
    rw [ge_set hi]
    split
    · rfl
    · unfold ge
      rw [List.getD_eq_getElem?_getD, List.getElem?_replicate]
      split <;> rfl
  refine ⟨⟨by unfold es0; rw [List.length_set, List.length_replicate], by rw [hg]; rfl, fun r a h => ?_⟩, ?_⟩
  · rw [hg] at h
    split at h
    · rename_i z
      cases h
      rw [z, Nat.zero_mod]
    · cases h
  · rintro a ⟨n, rfl⟩
    exact ⟨0, Nat.zero_le _, by rw [Nat.mul_mod_left, hg]; rfl⟩
def msz (ps : Ps) : Nat := (ps.headD (0, 0)).1
theorem msz_ok {ps : Ps} (hp : Fine ps) : 1 ≤ msz ps ∧ msz ps ≤ 30 ∧ L2.atI (ps.map pkD) 0 = some (.tuple [.int (msz ps : Int), .int ((ps.headD (0, 0)).2 : Int)]) := by
  cases ps with
  | nil => exact absurd rfl hp.1
  | cons p r =>
    have := hp.2.2 p List.mem_cons_self
    exact ⟨this.1, this.2.1, k_at0⟩
theorem floor_ok (ps : Ps) (hp : Fine ps) : ∃ es, p_floor (.tuple (ps.map pkD)) = ret (.tuple (oD es)) ∧ Ent ps (msz ps) es := by
  obtain ⟨h1, h2, h3⟩ := msz_ok hp
  obtain ⟨g0, c0⟩ := es0_good (m := msz ps) h1
  obtain ⟨es, e1, e2, e3⟩ := flr_L3 (m := msz ps) h1 (by omega) ps.tail (fun p hq => (hp.2.2 p (List.mem_of_mem_tail hq)).1) (es0 (msz ps)) _ g0 c0
  refine ⟨es, ?_, e2, e3⟩
  have k1 := mulLO_one .none (msz ps) (by omega)
  have k2 : setO (List.replicate (msz ps) .none) (.int 0) (.int 0) = some (oD (es0 (msz ps))) := by
    have := set_map encO (xs := List.replicate (msz ps) none) (i := 0) (x := some 0) (by rw [List.length_replicate]; omega)
    rw [List.map_replicate] at this
    exact this
  have k3 : cutD (ps.map pkD) (some 1) none = ps.tail.map pkD := by
    have := cut_from (xs := ps.map pkD) 1
    rw [← List.map_drop, List.drop_one] at this
    exact this
  rw [p_floor]
  simp only [QV, if_true, if_false, reduceIte, Bool.false_eq_true, Bool.not_true, Bool.not_false, Bool.and_true, Bool.true_and, Bool.and_false, Bool.false_and, Bool.or_true, Bool.true_or, Bool.or_false, Bool.false_or, Bool.and_self, Bool.or_self, reduceCtorEq, decide_true, decide_false, List.length_cons, List.length_nil, List.length_map, List.length_range, nD_len, rngD_length, Nat.reduceAdd, Int.toNat_natCast, List.map_cons, List.map_nil, List.isEmpty_cons, List.isEmpty_nil, List.nil_append, List.cons_append, Int.reduceNeg, h3, k1, k2, k3, e1]
end Dn

set_option Elab.async false
set_option linter.all false
set_option autoImplicit false
set_option maxRecDepth 100000
set_option maxHeartbeats 4000000
set_option exponentiation.threshold 100000
namespace Dn
open PySem G Pk
/-! ### what is left over -/
theorem over_L1 {m : Nat} (hm : 0 < m) (s : Nat) (o : Option Nat) (rows : List Nat) (hl : rows.length < 1000) : p_least_over_L1 (.int (s : Int)) (.int (m : Int)) (encO o) (nD rows) = ret (nD (rows ++ (o.map (wv m s)).toList)) := by
  rw [p_least_over_L1]
  cases o with
  | none =>
    simp only [QV, if_true, if_false, reduceIte, Bool.false_eq_true, Bool.not_true, Bool.not_false, Bool.and_true, Bool.true_and, Bool.and_false, Bool.false_and, Bool.or_true, Bool.true_or, Bool.or_false, Bool.false_or, Bool.and_self, Bool.or_self, reduceCtorEq, decide_true, decide_false, List.length_cons, List.length_nil, List.length_map, List.length_range, nD_len, rngD_length, Nat.reduceAdd, Int.toNat_natCast, List.map_cons, List.map_nil, List.isEmpty_cons, List.isEmpty_nil, List.nil_append, List.cons_append, Int.reduceNeg, encO, isnot_n63, Option.map_none, Option.toList_none, List.append_nil]
  | some e =>
    have k1 := appOk (xs := nD rows) (x := .int (wv m s e : Nat)) (by rw [nD_len]; omega)
    by_cases z : s ≤ e
    · have q : decide ((s : Int) ≤ (e : Int)) = true := decide_eq_true (by omega)
      have k2 : (e : Int) - (s : Int) = ((wv m s e : Nat) : Int) := by unfold wv; rw [if_pos z]; omega
      simp only [QV, if_true, if_false, reduceIte, Bool.false_eq_true, Bool.not_true, Bool.not_false, Bool.and_true, Bool.true_and, Bool.and_false, Bool.false_and, Bool.or_true, Bool.true_or, Bool.or_false, Bool.false_or, Bool.and_self, Bool.or_self, reduceCtorEq, decide_true, decide_false, List.length_cons, List.length_nil, List.length_map, List.length_range, nD_len, rngD_length, Nat.reduceAdd, Int.toNat_natCast, List.map_cons, List.map_nil, List.isEmpty_cons, List.isEmpty_nil, List.nil_append, List.cons_append, Int.reduceNeg, encO, isnot_i, q, k2, k1, nD_snoc, Option.map_some, Option.toList_some]
    · have q : decide ((s : Int) ≤ (e : Int)) = false := decide_eq_false (by omega)
      have k2 : pyMod (.int ((e : Int) - (s : Int))) (.int (m : Int)) = some (.int ((wv m s e : Nat) : Int)) := by
        rw [modI (by omega)]
        unfold wv
        rw [if_neg z, Int.toNat_of_nonneg (Int.emod_nonneg _ (by omega))]
      simp only [QV, if_true, if_false, reduceIte, Bool.false_eq_true, Bool.not_true, Bool.not_false, Bool.and_true, Bool.true_and, Bool.and_false, Bool.false_and, Bool.or_true, Bool.true_or, Bool.or_false, Bool.false_or, Bool.and_self, Bool.or_self, reduceCtorEq, decide_true, decide_false, List.length_cons, List.length_nil, List.length_map, List.length_range, nD_len, rngD_length, Nat.reduceAdd, Int.toNat_natCast, List.map_cons, List.map_nil, List.isEmpty_cons, List.isEmpty_nil, List.nil_append, List.cons_append, Int.reduceNeg, encO, isnot_i, q, k2, k1, nD_snoc, Option.map_some, Option.toList_some]
theorem over_ok (ps : Ps) (hp : Fine ps) {es : Es} (hf : p_floor (.tuple (ps.map pkD)) = ret (.tuple (oD es))) (E : Ent ps (msz ps) es) (s : Nat) : p_least_over (.tuple (ps.map pkD)) (.int (s : Int)) = ret (.int (lo (msz ps) s es : Nat)) := by
  obtain ⟨h1, h2, h3⟩ := msz_ok hp
  have hl := E.good.len
  obtain ⟨v, e, hv⟩ := forP_enc (f := p_least_over_L1 (.int (s : Int)) (.int (msz ps : Int))) encO (fun i v => i ≤ es.length → v = nD ((ents (es.take i)).map (wv (msz ps) s))) es [] (fun i o v ho hI => by
    have hi : i < es.length := by
      rcases Nat.lt_or_ge i es.length with z | z
      · exact z
      · rw [List.getElem?_eq_none z] at ho; cases ho
    have hv := hI (by omega)
    subst hv
    refine ⟨_, over_L1 h1 s o _ ?_, fun _ => ?_⟩
    · rw [List.length_map]
      have : (ents (es.take i)).length ≤ (es.take i).length := List.length_filterMap_le _ _
      rw [List.length_take] at this
      omega
    · unfold ents
      rw [List.take_succ, ho, List.filterMap_append, List.map_append]
      cases o <;> rfl) (fun _ => rfl)
  have hv := hv (Nat.le_refl _)
  rw [List.take_length] at hv
  subst hv
  have hne : (ents es).map (wv (msz ps) s) ≠ [] := fun z => by
    have := ents_ne E.good h1
    rw [List.map_eq_nil_iff.mp z] at this
    cases this
  have k1 := mn_nat _ hne
  have e' : forP (p_least_over_L1 (.int (s : Int)) (.int (msz ps : Int))) (oD es) [] = ret _ := e
  rw [p_least_over]
  simp only [QV, if_true, if_false, reduceIte, Bool.false_eq_true, Bool.not_true, Bool.not_false, Bool.and_true, Bool.true_and, Bool.and_false, Bool.false_and, Bool.or_true, Bool.true_or, Bool.or_false, Bool.false_or, Bool.and_self, Bool.or_self, reduceCtorEq, decide_true, decide_false, List.length_cons, List.length_nil, List.length_map, List.length_range, nD_len, rngD_length, Nat.reduceAdd, Int.toNat_natCast, List.map_cons, List.map_nil, List.isEmpty_cons, List.isEmpty_nil, List.nil_append, List.cons_append, Int.reduceNeg, h3, hf, e', k1]
  rfl
/-! ### least prices of just so much -/
theorem prices_ok (ps : Ps) (hp : Fine ps) (b : Nat) (hb : b ≤ 1000) : ∃ lp : Es, p_least_prices (.tuple (ps.map pkD)) (.int (b : Int)) = ret (.list (oD lp)) ∧ lp.length = b + 1 ∧ ge lp 0 = some 0 ∧ ∀ t c, ge lp t = some c → Mk ps t := by
  have h4 := hp.2.1
  obtain ⟨v, e, lp, h1, h2, h3, h5⟩ := forP_rng (f := p_least_prices_L1 (.tuple (ps.map pkD))) (fun i v => ∃ lp : Es, v = oD lp ∧ lp.length = b + 1 ∧ ge lp 0 = some 0 ∧ ∀ t c, ge lp t = some c → Mk ps t) 1 b (oD (some 0 :: List.replicate b none)) (fun t v ht hI => by
    obtain ⟨lp, rfl, h1, h2, h3⟩ := hI
    have e1 := cmpF_map (f := fun x6 => un2 x6 fun v_size v_price => mFil (mAnd (lf (pyLeA v_size (.int (1 + (t : Int))))) (bn (lf (pySub (.int (1 + (t : Int))) v_size)) fun t7 => bn (lf (pyIx (.list (oD lp)) t7)) fun t8 => lf (pyIsNot t8 .none))) (bn (lf (pySub (.int (1 + (t : Int))) v_size)) fun t9 => bn (lf (pyIx (.list (oD lp)) t9)) fun t10 => lf (pyAdd t10 v_price))) pkD (fun p => decide (p.1 ≤ t + 1) && (ge lp (t + 1 - p.1)).isSome) (fun p => .int ((((ge lp (t + 1 - p.1)).getD 0) + p.2 : Nat) : Int)) ps (by omega) fun p hq => by
      have hpp := hp.2.2 p hq
      have q : decide ((p.1 : Int) ≤ 1 + (t : Int)) = decide (p.1 ≤ t + 1) := decide_eq_decide.mpr (by omega)
      rw [show pkD p = .tuple [.int (p.1 : Int), .int (p.2 : Int)] from rfl]
      by_cases z : p.1 ≤ t + 1
      · rw [decide_eq_true z] at q ⊢
        have k1 : 1 + (t : Int) - (p.1 : Int) = ((t + 1 - p.1 : Nat) : Int) := by omega
        have k2 := oD_at (es := lp) (r := t + 1 - p.1) (by omega)
        cases hg : ge lp (t + 1 - p.1) with
        | none =>
          rw [hg] at k2
          simp only [QV, if_true, if_false, reduceIte, Bool.false_eq_true, Bool.not_true, Bool.not_false, Bool.and_true, Bool.true_and, Bool.and_false, Bool.false_and, Bool.or_true, Bool.true_or, Bool.or_false, Bool.false_or, Bool.and_self, Bool.or_self, reduceCtorEq, decide_true, decide_false, List.length_cons, List.length_nil, List.length_map, List.length_range, nD_len, rngD_length, Nat.reduceAdd, Int.toNat_natCast, List.map_cons, List.map_nil, List.isEmpty_cons, List.isEmpty_nil, List.nil_append, List.cons_append, Int.reduceNeg, q, k1, k2, encO, isnot_n63, Option.isSome_none]
        | some c =>
          rw [hg] at k2
          simp only [QV, if_true, if_false, reduceIte, Bool.false_eq_true, Bool.not_true, Bool.not_false, Bool.and_true, Bool.true_and, Bool.and_false, Bool.false_and, Bool.or_true, Bool.true_or, Bool.or_false, Bool.false_or, Bool.and_self, Bool.or_self, reduceCtorEq, decide_true, decide_false, List.length_cons, List.length_nil, List.length_map, List.length_range, nD_len, rngD_length, Nat.reduceAdd, Int.toNat_natCast, List.map_cons, List.map_nil, List.isEmpty_cons, List.isEmpty_nil, List.nil_append, List.cons_append, Int.reduceNeg, q, k1, k2, encO, isnot_i, Option.isSome_some, Int.natCast_add, Option.getD_some]
      · rw [decide_eq_false z] at q ⊢
        simp only [QV, if_true, if_false, reduceIte, Bool.false_eq_true, Bool.not_true, Bool.not_false, Bool.and_true, Bool.true_and, Bool.and_false, Bool.false_and, Bool.or_true, Bool.true_or, Bool.or_false, Bool.false_or, Bool.and_self, Bool.or_self, reduceCtorEq, decide_true, decide_false, List.length_cons, List.length_nil, List.length_map, List.length_range, nD_len, rngD_length, Nat.reduceAdd, Int.toNat_natCast, List.map_cons, List.map_nil, List.isEmpty_cons, List.isEmpty_nil, List.nil_append, List.cons_append, Int.reduceNeg, q]
    have e2 : ∀ F : Ps, (F.map fun p => PyData.int ((((ge lp (t + 1 - p.1)).getD 0) + p.2 : Nat) : Int)) = nD (F.map fun p => (ge lp (t + 1 - p.1)).getD 0 + p.2) := fun F => by
      unfold nD
      rw [List.map_map]
      rfl
    rw [e2] at e1
    have k0 : 1 + (t : Int) = ((t + 1 : Nat) : Int) := by omega
    have hset : ∀ o : Option Nat, setO (oD lp) (.int (1 + (t : Int))) (encO o) = some (oD (lp.set (t + 1) o)) := fun o => by
      rw [k0]
      exact set_map encO (xs := lp) (x := o) (by omega)
    have fin : ∀ o : Option Nat, (∀ c, o = some c → Mk ps (t + 1)) → ∃ lp' : Es, oD (lp.set (t + 1) o) = oD lp' ∧ lp'.length = b + 1 ∧ ge lp' 0 = some 0 ∧ ∀ t c, ge lp' t = some c → Mk ps t := fun o ho => by
      refine ⟨_, rfl, by rw [List.length_set]; exact h1, by rw [ge_set (by omega), if_neg (by omega)]; exact h2, fun r c hr => ?_⟩
      rw [ge_set (by omega)] at hr
      by_cases z : r = t + 1
      · rw [if_pos z] at hr
        rw [z]
        exact ho c hr
      · rw [if_neg z] at hr
        exact h3 r c hr
    cases hF : ps.filter fun p => decide (p.1 ≤ t + 1) && (ge lp (t + 1 - p.1)).isSome with
    | nil =>
      rw [hF] at e1
      refine ⟨_, ?_, fin none (fun c z => by cases z)⟩
      have k1 : setO (oD lp) (.int (1 + (t : Int))) .none = _ := hset none
      have e1' : cmpF (fun x6 => un2 x6 fun v_size v_price => mFil (mAnd (lf (pyLeA v_size (.int (1 + (t : Int))))) (bn (lf (pySub (.int (1 + (t : Int))) v_size)) fun t7 => bn (lf (pyIx (.list (oD lp)) t7)) fun t8 => lf (pyIsNot t8 .none))) (bn (lf (pySub (.int (1 + (t : Int))) v_size)) fun t9 => bn (lf (pyIx (.list (oD lp)) t9)) fun t10 => lf (pyAdd t10 v_price))) (ps.map pkD) = ret [] := e1
      rw [p_least_prices_L1]
      simp only [QV, if_true, if_false, reduceIte, Bool.false_eq_true, Bool.not_true, Bool.not_false, Bool.and_true, Bool.true_and, Bool.and_false, Bool.false_and, Bool.or_true, Bool.true_or, Bool.or_false, Bool.false_or, Bool.and_self, Bool.or_self, reduceCtorEq, decide_true, decide_false, List.length_cons, List.length_nil, List.length_map, List.length_range, nD_len, rngD_length, Nat.reduceAdd, Int.toNat_natCast, List.map_cons, List.map_nil, List.isEmpty_cons, List.isEmpty_nil, List.nil_append, List.cons_append, Int.reduceNeg, e1', k1]
    | cons p F =>
      have hpF : p ∈ ps.filter fun p => decide (p.1 ≤ t + 1) && (ge lp (t + 1 - p.1)).isSome := by rw [hF]; exact List.mem_cons_self
      rw [List.mem_filter, Bool.and_eq_true, decide_eq_true_eq] at hpF
      rw [hF] at e1
      have k2 := mn_nat ((p :: F).map fun p => (ge lp (t + 1 - p.1)).getD 0 + p.2) (by simp)
      generalize hL : (p :: F).map (fun p => (ge lp (t + 1 - p.1)).getD 0 + p.2) = L at e1 k2
      have hLe : (nD L).isEmpty = false := by rw [nD_emp, ← hL]; rfl
      have k1 : setO (oD lp) (.int (1 + (t : Int))) (.int (mn L : Nat)) = _ := hset (some (mn L))
      refine ⟨_, ?_, fin (some (mn L)) (fun c _ => ?_)⟩
      · rw [p_least_prices_L1]
        simp only [QV, if_true, if_false, reduceIte, Bool.false_eq_true, Bool.not_true, Bool.not_false, Bool.and_true, Bool.true_and, Bool.and_false, Bool.false_and, Bool.or_true, Bool.true_or, Bool.or_false, Bool.false_or, Bool.and_self, Bool.or_self, reduceCtorEq, decide_true, decide_false, List.length_cons, List.length_nil, List.length_map, List.length_range, nD_len, rngD_length, Nat.reduceAdd, Int.toNat_natCast, List.map_cons, List.map_nil, List.isEmpty_cons, List.isEmpty_nil, List.nil_append, List.cons_append, Int.reduceNeg, e1, hLe, k2, k1]
      · cases hg : ge lp (t + 1 - p.1) with
        | none =>
          have := hpF.2.2
          rw [hg] at this
          cases this
        | some a =>
          have := Mk_add hpF.1 (h3 _ _ hg)
          rw [show t + 1 - p.1 + p.1 = t + 1 by omega] at this
          exact this) ⟨_, rfl, by rw [List.length_cons, List.length_replicate], rfl, fun t c h => by
      cases t with
      | zero => exact Mk_zero ps
      | succ t =>
        exfalso
        unfold ge at h
        rw [List.getD_cons_succ, List.getD_eq_getElem?_getD, List.getElem?_replicate] at h
        split at h <;> cases h⟩
  refine ⟨lp, ?_, h2, h3, h5⟩
  have k1 := repL_one .none b (by omega)
  have k2 : addLO (.list [.int 0]) (.list (List.replicate b .none)) = some (oD (some 0 :: List.replicate b none)) := by
    have : (if [PyData.int 0].length + (List.replicate b PyData.none).length ≤ sizeLine then some ([PyData.int 0] ++ List.replicate b PyData.none) else none) = some ([PyData.int 0] ++ List.replicate b PyData.none) := if_pos (sz (by rw [List.length_replicate]; show 1 + b ≤ _; omega))
    refine this.trans ?_
    unfold oD
    rw [List.map_cons, List.map_replicate]
    rfl
  have g1 : rng2O (.int 1) (.int ((b : Int) + 1)) = some (rngD 1 b) := by
    rw [rng2_ok (by omega) (by omega) (by omega) (by omega), show ((b : Int) + 1 - 1).toNat = b by omega]
  subst h1
  rw [p_least_prices]
  simp only [QV, if_true, if_false, reduceIte, Bool.false_eq_true, Bool.not_true, Bool.not_false, Bool.and_true, Bool.true_and, Bool.and_false, Bool.false_and, Bool.or_true, Bool.true_or, Bool.or_false, Bool.false_or, Bool.and_self, Bool.or_self, reduceCtorEq, decide_true, decide_false, List.length_cons, List.length_nil, List.length_map, List.length_range, nD_len, rngD_length, Nat.reduceAdd, Int.toNat_natCast, List.map_cons, List.map_nil, List.isEmpty_cons, List.isEmpty_nil, List.nil_append, List.cons_append, Int.reduceNeg, k1, k2, g1, e]
/-! ### the front -/
def fst1 (st : List (Nat × Nat) × Option Nat) (q : Option Nat × Nat) : List (Nat × Nat) × Option Nat := match q.1 with
  | none => st
  | some p => match st.2 with
    | none => (st.1 ++ [(q.2, p)], some p)
    | some l => if p < l then (st.1 ++ [(q.2, p)], some p) else st
theorem frt_L1 (st : List (Nat × Nat) × Option Nat) (q : Option Nat × Nat) (hl : st.1.length < 10000) : p_front_L1 (.tuple [.int (q.2 : Int), encO q.1]) (st.1.map pkD, encO st.2) = ret ((fst1 st q).1.map pkD, encO (fst1 st q).2) := by
  obtain ⟨f, l⟩ := st
  obtain ⟨o, t⟩ := q
  have k1 : ∀ p : Nat, appO (f.map pkD) (.tuple [.int (t : Int), .int (p : Int)]) = some ((f ++ [(t, p)]).map pkD) := fun p => by
    rw [appOk (by rw [List.length_map]; simp only at hl; omega), List.map_append]
    rfl
  rw [p_front_L1]
  unfold fst1
  cases o with
  | none => simp only [QV, if_true, if_false, reduceIte, Bool.false_eq_true, Bool.not_true, Bool.not_false, Bool.and_true, Bool.true_and, Bool.and_false, Bool.false_and, Bool.or_true, Bool.true_or, Bool.or_false, Bool.false_or, Bool.and_self, Bool.or_self, reduceCtorEq, decide_true, decide_false, List.length_cons, List.length_nil, List.length_map, List.length_range, nD_len, rngD_length, Nat.reduceAdd, Int.toNat_natCast, List.map_cons, List.map_nil, List.isEmpty_cons, List.isEmpty_nil, List.nil_append, List.cons_append, Int.reduceNeg, encO, isnot_n63]
  | some p =>
    cases l with
    | none => simp only [QV, if_true, if_false, reduceIte, Bool.false_eq_true, Bool.not_true, Bool.not_false, Bool.and_true, Bool.true_and, Bool.and_false, Bool.false_and, Bool.or_true, Bool.true_or, Bool.or_false, Bool.false_or, Bool.and_self, Bool.or_self, reduceCtorEq, decide_true, decide_false, List.length_cons, List.length_nil, List.length_map, List.length_range, nD_len, rngD_length, Nat.reduceAdd, Int.toNat_natCast, List.map_cons, List.map_nil, List.isEmpty_cons, List.isEmpty_nil, List.nil_append, List.cons_append, Int.reduceNeg, encO, isnot_i, is_n, k1]
    | some l =>
      have q : decide ((p : Int) < (l : Int)) = decide (p < l) := decide_eq_decide.mpr (by omega)
      by_cases z : p < l
      · rw [decide_eq_true z] at q
        simp only [QV, if_true, if_false, reduceIte, Bool.false_eq_true, Bool.not_true, Bool.not_false, Bool.and_true, Bool.true_and, Bool.and_false, Bool.false_and, Bool.or_true, Bool.true_or, Bool.or_false, Bool.false_or, Bool.and_self, Bool.or_self, reduceCtorEq, decide_true, decide_false, List.length_cons, List.length_nil, List.length_map, List.length_range, nD_len, rngD_length, Nat.reduceAdd, Int.toNat_natCast, List.map_cons, List.map_nil, List.isEmpty_cons, List.isEmpty_nil, List.nil_append, List.cons_append, Int.reduceNeg, encO, isnot_i, is_i, q, k1]
        simp only [if_pos z]
      · rw [decide_eq_false z] at q
        simp only [QV, if_true, if_false, reduceIte, Bool.false_eq_true, Bool.not_true, Bool.not_false, Bool.and_true, Bool.true_and, Bool.and_false, Bool.false_and, Bool.or_true, Bool.true_or, Bool.or_false, Bool.false_or, Bool.and_self, Bool.or_self, reduceCtorEq, decide_true, decide_false, List.length_cons, List.length_nil, List.length_map, List.length_range, nD_len, rngD_length, Nat.reduceAdd, Int.toNat_natCast, List.map_cons, List.map_nil, List.isEmpty_cons, List.isEmpty_nil, List.nil_append, List.cons_append, Int.reduceNeg, encO, isnot_i, is_i, q]
        simp only [if_neg z]
/-- what holds of the front -/
def FrI (lp : Es) (st : List (Nat × Nat) × Option Nat) : Prop := st.2 = (st.1.getLast?).map (·.2) ∧ ∀ q ∈ st.1, ge lp q.1 = some q.2
theorem fri_step {lp : Es} {st : List (Nat × Nat) × Option Nat} {q : Option Nat × Nat} (h : FrI lp st) (hq : ge lp q.2 = q.1) : FrI lp (fst1 st q) := by
  obtain ⟨f, l⟩ := st
  obtain ⟨o, t⟩ := q
  have add : ∀ p, o = some p → FrI lp (f ++ [(t, p)], some p) := fun p ho => by
    refine ⟨by rw [List.getLast?_concat]; rfl, fun r hr => ?_⟩
    rcases List.mem_append.mp hr with e | e
    · exact h.2 r e
    · rw [List.mem_singleton.mp e]
      rw [← ho]
      exact hq
  unfold fst1
  cases o with
  | none => exact h
  | some p =>
    cases l with
    | none => exact add p rfl
    | some l =>
      simp only
      split
      · exact add p rfl
      · exact h
theorem fri_end {lp : Es} {st : List (Nat × Nat) × Option Nat} (h : FrI lp st) (h0 : ge lp 0 = some 0) : ∃ q, (fst1 st (some 0, 0)).1.getLast? = some q ∧ (q.1 = 0 ∨ q.2 = 0) := by
  obtain ⟨f, l⟩ := st
  unfold fst1
  cases l with
  | none => exact ⟨(0, 0), by simp only; rw [List.getLast?_concat], .inl rfl⟩
  | some l =>
    simp only
    by_cases z : 0 < l
    · rw [if_pos z]
      exact ⟨(0, 0), by rw [List.getLast?_concat], .inl rfl⟩
    · rw [if_neg z]
      have z2 : l ≤ 0 := by omega
      have h1 : some l = f.getLast?.map (·.2) := h.1
      cases hL : f.getLast? with
      | none => rw [hL] at h1; cases h1
      | some q =>
        rw [hL] at h1
        cases h1
        exact ⟨q, rfl, .inr (Nat.le_zero.mp z2)⟩
theorem front_ok (ps : Ps) (hp : Fine ps) (b : Nat) (hb : b ≤ 1000) : ∃ fr : List (Nat × Nat), p_front (.tuple (ps.map pkD)) (.int (b : Int)) = ret (.tuple (fr.map pkD)) ∧ (∀ q ∈ fr, Mk ps q.1) ∧ (∃ q r, fr = q :: r ∧ (q.1 = 0 ∨ q.2 = 0)) ∧ fr.length ≤ b + 1 := by
  obtain ⟨lp, e1, h1, h2, h3⟩ := prices_ok ps hp b hb
  have k1 : enumD 0 (oD lp) = _ := enum_map encO lp 0
  have k2 : lstEnO (oD lp) = some ((lp.zipIdx 0).map fun p => PyData.tuple [.int (p.2 : Int), encO p.1]) := by
    rw [← k1]
    exact if_pos (sz (by unfold oD; rw [List.length_map]; omega))
  have hlz : (lp.zipIdx 0).length = b + 1 := by rw [List.length_zipIdx]; exact h1
  obtain ⟨v, e2, st, h4, h5, h6, h7⟩ := forP_enc (f := p_front_L1) (fun (p : Option Nat × Nat) => PyData.tuple [.int (p.2 : Int), encO p.1]) (fun i v => ∃ st, v = (st.1.map pkD, encO st.2) ∧ FrI lp st ∧ st.1.length ≤ i ∧ (i = b + 1 → ∃ q, st.1.getLast? = some q ∧ (q.1 = 0 ∨ q.2 = 0))) (lp.zipIdx 0).reverse ([], .none) (fun i q v hq hI => by
    obtain ⟨st, rfl, g1, g2, g3⟩ := hI
    have hi : i < b + 1 := by
      rcases Nat.lt_or_ge i (b + 1) with z | z
      · exact z
      · rw [List.getElem?_eq_none (by rw [List.length_reverse, hlz]; exact z)] at hq; cases hq
    rw [List.getElem?_reverse (by rw [hlz]; exact hi), hlz] at hq
    rw [List.getElem?_zipIdx] at hq
    obtain ⟨o, ho, rfl⟩ := mpd hq
    rw [show 0 + (b + 1 - 1 - i) = b - i by omega]
    rw [show b + 1 - 1 - i = b - i by omega] at ho
    have hg : ge lp (b - i) = o := by
      have := ge_at (es := lp) (r := b - i) (by omega)
      rw [ho] at this
      exact (Option.some.inj this).symm
    refine ⟨_, frt_L1 st (o, b - i) (by omega), _, rfl, fri_step (q := (o, b - i)) g1 hg, ?_, fun hb1 => ?_⟩
    · unfold fst1
      cases o with
      | none => simp only; omega
      | some p =>
        simp only
        cases st.2 with
        | none => simp only [List.length_append, List.length_singleton]; omega
        | some l =>
          simp only
          split
          · simp only [List.length_append, List.length_singleton]; omega
          · omega
    · have : b - i = 0 := by omega
      rw [this] at hg ⊢
      rw [h2] at hg
      subst hg
      exact fri_end g1 h2) ⟨([], none), rfl, ⟨rfl, fun q h => by cases h⟩, Nat.le_refl _, fun z => by omega⟩
  rw [List.length_reverse, hlz] at h6 h7
  obtain ⟨q, h8, h9⟩ := h7 rfl
  subst h4
  refine ⟨st.1.reverse, ?_, fun p hm => h3 _ _ (h5.2 p (List.mem_reverse.mp hm)), ⟨q, st.1.reverse.tail, ?_, h9⟩, by rw [List.length_reverse]; exact h6⟩
  · rw [List.map_reverse] at e2
    have k3 : tupRevO (.list (st.1.map pkD)) = some (.tuple (st.1.map pkD).reverse) := rfl
    rw [p_front, List.map_reverse]
    simp only [QV, if_true, if_false, reduceIte, Bool.false_eq_true, Bool.not_true, Bool.not_false, Bool.and_true, Bool.true_and, Bool.and_false, Bool.false_and, Bool.or_true, Bool.true_or, Bool.or_false, Bool.false_or, Bool.and_self, Bool.or_self, reduceCtorEq, decide_true, decide_false, List.length_cons, List.length_nil, List.length_map, List.length_range, nD_len, rngD_length, Nat.reduceAdd, Int.toNat_natCast, List.map_cons, List.map_nil, List.isEmpty_cons, List.isEmpty_nil, List.nil_append, List.cons_append, Int.reduceNeg, e1, k2, e2, k3]
  · have : st.1.reverse.head? = some q := by rw [List.head?_reverse]; exact h8
    cases hr : st.1.reverse with
    | nil => rw [hr] at this; cases this
    | cons a r => rw [hr] at this; cases this; rfl
end Dn

set_option Elab.async false
set_option linter.all false
set_option autoImplicit false
set_option maxRecDepth 100000
set_option maxHeartbeats 8000000
set_option exponentiation.threshold 100000
namespace Dn
open PySem G Pk
def kvD (qs : Ps) : KvD := qs.map fun q => ((q.1 : Int), PyData.int (q.2 : Int))
theorem put_kvD : ∀ (qs : Ps) (a c : Nat), ∃ qs' : Ps, putZ (kvD qs) (a : Int) (.int (c : Int)) = kvD qs' ∧ qs'.length ≤ qs.length + 1 ∧ qs' ≠ [] ∧ ∀ q ∈ qs', (∃ q2 ∈ qs, q.1 = q2.1 ∧ (q.2 = q2.2 ∨ q.2 = c)) ∨ q = (a, c) := fun qs a c => by
  unfold putZ
  by_cases h : ((kvD qs).any fun p => decide (p.1 = (a : Int))) = true
  · rw [if_pos h]
    refine ⟨qs.map fun q => if q.1 = a then (q.1, c) else q, ?_, by rw [List.length_map]; omega, ?_, fun q hq => ?_⟩
    · unfold kvD
      rw [List.map_map, List.map_map]
      refine List.map_congr_left fun q _ => ?_
      show (if ((q.1 : Int)) = (a : Int) then ((q.1 : Int), PyData.int (c : Int)) else ((q.1 : Int), PyData.int (q.2 : Int))) = (fun q : Nat × Nat => ((q.1 : Int), PyData.int (q.2 : Int))) (if q.1 = a then (q.1, c) else q)
      by_cases z : q.1 = a
      · rw [if_pos (by omega), if_pos z]
      · rw [if_neg (by omega), if_neg z]
    · intro z
      rw [List.map_eq_nil_iff.mp z] at h
      cases h
    · obtain ⟨q2, h2, e⟩ := List.mem_map.mp hq
      refine .inl ⟨q2, h2, ?_⟩
      rw [← e]
      split
      · exact ⟨rfl, .inr rfl⟩
      · exact ⟨rfl, .inl rfl⟩
  · rw [if_neg h]
    refine ⟨qs ++ [(a, c)], by unfold kvD; rw [List.map_append]; rfl, by rw [List.length_append, List.length_singleton]; exact Nat.le_refl _, by simp, fun q hq => ?_⟩
    rcases List.mem_append.mp hq with e | e
    · exact .inl ⟨q, e, rfl, .inl rfl⟩
    · exact .inr (List.mem_singleton.mp e)
def PkB (qs : Ps) : Prop := ∀ q ∈ qs, 1 ≤ q.1 ∧ q.1 ≤ 30 ∧ q.2 ≤ 1000
theorem sort_pks (qs : Ps) : srtItO (kvD qs) = some ((qs.mergeSort (leOf fun p q => if p.1 = q.1 then ltN p.2 q.2 else ltN p.1 q.1)).map pkD) := by
  have E : Enc pkD (fun p q : Nat × Nat => if p.1 = q.1 then ltN p.2 q.2 else ltN p.1 q.1) := enc_pair enc_nat enc_nat lin_N.irr
  have e : itD (kvD qs) = qs.map pkD := by
    unfold itD kvD
    rw [List.map_map]
    rfl
  have hs : sortOk (qs.map pkD) = true := by
    unfold sortOk
    rw [Bool.and_eq_true, Bool.and_eq_true, Bool.or_eq_true]
    refine ⟨⟨?_, ?_⟩, .inl ?_⟩
    · rw [List.all_eq_true]
      intro d h
      rw [List.all_eq_true]
      intro e h2
      obtain ⟨a, _, rfl⟩ := List.mem_map.mp h
      obtain ⟨b, _, rfl⟩ := List.mem_map.mp h2
      exact E.al a b
    · rw [List.all_eq_true]
      intro d h
      obtain ⟨a, _, rfl⟩ := List.mem_map.mp h
      refine decide_eq_true ?_
      unfold pkD PyData.depth
      have := depthAll (xs := [PyData.int (a.1 : Int), PyData.int (a.2 : Int)]) (n := 0) fun x hx => by
        simp only [List.mem_cons, List.not_mem_nil, or_false] at hx
        rcases hx with rfl | rfl <;> exact Nat.le_refl _
      omega
    · rw [List.all_eq_true]
      intro d h
      obtain ⟨a, _, rfl⟩ := List.mem_map.mp h
      rfl
  unfold srtItO
  rw [e, if_pos (.inl hs), sortD_map E]
theorem packs_draw (B : Bx) (hb : TI B) : ∃ (ps : Ps) (B' : Bx), p_law_packs (.int 4) (.int 30) B = some (.tuple (ps.map pkD), B') ∧ TI B' ∧ Fine ps := by
  obtain ⟨r1, B1, b1, h1, e1⟩ := tk 4 B hb (by decide) (by decide)
  have e1 : p_law_take (.int 4) B = some (.int (r1 : Int), B1) := e1
  have e2 : rng1O (.int (1 + (r1 : Int))) = some (rngD 0 (1 + r1)) := by
    rw [show (1 + (r1 : Int)) = ((1 + r1 : Nat) : Int) by omega]
    exact rng1_ok (by omega)
  obtain ⟨kvs, B2, e3, b2, qs, rfl, g1, g2, g3⟩ := forP_st (f := p_law_packs_L1 (.int 30)) (fun i (kvs : KvD) B => TI B ∧ ∃ qs : Ps, kvs = kvD qs ∧ qs.length ≤ i ∧ PkB qs ∧ (0 < i → qs ≠ [])) (rngD 0 (1 + r1)) 0 [] B1 (fun i x kvs B hx hI => by
    obtain ⟨b, qs, rfl, g1, g2, g3⟩ := hI
    have hi : i < 1 + r1 := by
      rcases Nat.lt_or_ge i (1 + r1) with z | z
      · exact z
      · rw [List.getElem?_eq_none (by rw [rngD_length]; exact z)] at hx; cases hx
    obtain ⟨r2, B2, b2, h2, e2⟩ := tk 3 B b (by decide) (by decide)
    have e2 : p_law_take (.int 3) B = some (.int (r2 : Int), B2) := e2
    obtain ⟨m, hm0, hm, em⟩ : ∃ m : Nat, 0 < m ∧ m ≤ 1001 ∧ L2.atI [PyData.int 4, .int 30, .int 1001] (r2 : Int) = some (.int (m : Int)) := by
      rcases (show r2 = 0 ∨ r2 = 1 ∨ r2 = 2 by omega) with z | z | z
      · subst z; exact ⟨4, by decide, by decide, rfl⟩
      · subst z; exact ⟨30, by decide, by decide, rfl⟩
      · subst z; exact ⟨1001, by decide, by decide, rfl⟩
    obtain ⟨c, B3, b3, h3, e3⟩ := tk m B2 b2 hm0 (by omega)
    obtain ⟨a, B4, b4, h4, e4⟩ := tk 30 B3 b3 (by decide) (by decide)
    have e4 : p_law_take (.int 30) B3 = some (.int (a : Int), B4) := e4
    obtain ⟨qs', k1, k2, k3, k4⟩ := put_kvD qs (1 + a) c
    have k5 : putDO (kvD qs) (.int (1 + (a : Int))) (.int (c : Int)) = some (kvD qs') := by
      rw [← k1, show (1 + (a : Int)) = ((1 + a : Nat) : Int) by omega]
      exact if_pos (szlt (by unfold kvD; rw [List.length_map]; omega))
    refine ⟨kvD qs', B4, ?_, b4, qs', rfl, by omega, fun q hq => ?_, fun _ => k3⟩
    · rw [p_law_packs_L1, bn_run e2]
      simp only [QV, if_true, if_false, reduceIte, Bool.false_eq_true, Bool.not_true, Bool.not_false, Bool.and_true, Bool.true_and, Bool.and_false, Bool.false_and, Bool.or_true, Bool.true_or, Bool.or_false, Bool.false_or, Bool.and_self, Bool.or_self, reduceCtorEq, decide_true, decide_false, List.length_cons, List.length_nil, List.length_map, List.length_range, nD_len, rngD_length, Nat.reduceAdd, Int.toNat_natCast, List.map_cons, List.map_nil, List.isEmpty_cons, List.isEmpty_nil, List.nil_append, List.cons_append, Int.reduceNeg, em]
      rw [bn_run e3, bn_run e4]
      simp only [QV, if_true, if_false, reduceIte, Bool.false_eq_true, Bool.not_true, Bool.not_false, Bool.and_true, Bool.true_and, Bool.and_false, Bool.false_and, Bool.or_true, Bool.true_or, Bool.or_false, Bool.false_or, Bool.and_self, Bool.or_self, reduceCtorEq, decide_true, decide_false, List.length_cons, List.length_nil, List.length_map, List.length_range, nD_len, rngD_length, Nat.reduceAdd, Int.toNat_natCast, List.map_cons, List.map_nil, List.isEmpty_cons, List.isEmpty_nil, List.nil_append, List.cons_append, Int.reduceNeg, k5]
      rfl
    · rcases k4 q hq with ⟨q2, w1, w2, w3⟩ | w
      · have := g2 q2 w1
        refine ⟨by omega, by omega, ?_⟩
        rcases w3 with w3 | w3 <;> omega
      · subst w
        exact ⟨by show 1 ≤ 1 + a; omega, by show 1 + a ≤ 30; omega, by show c ≤ 1000; omega⟩) ⟨b1, [], rfl, Nat.le_refl _, (fun q h => by cases h), fun h => absurd h (Nat.lt_irrefl _)⟩
  rw [rngD_length, Nat.zero_add] at g1 g3
  have e4 := sort_pks qs
  have hperm := List.mergeSort_perm qs (leOf fun p q => if p.1 = q.1 then ltN p.2 q.2 else ltN p.1 q.1)
  generalize qs.mergeSort (leOf fun p q => if p.1 = q.1 then ltN p.2 q.2 else ltN p.1 q.1) = ps at e4 hperm
  refine ⟨ps, B2, ?_, b2, fun z => ?_, by rw [hperm.length_eq]; omega, fun p hp => g2 p (hperm.subset hp)⟩
  · rw [p_law_packs, bn_run e1]
    simp only [QV, if_true, if_false, reduceIte, Bool.false_eq_true, Bool.not_true, Bool.not_false, Bool.and_true, Bool.true_and, Bool.and_false, Bool.false_and, Bool.or_true, Bool.true_or, Bool.or_false, Bool.false_or, Bool.and_self, Bool.or_self, reduceCtorEq, decide_true, decide_false, List.length_cons, List.length_nil, List.length_map, List.length_range, nD_len, rngD_length, Nat.reduceAdd, Int.toNat_natCast, List.map_cons, List.map_nil, List.isEmpty_cons, List.isEmpty_nil, List.nil_append, List.cons_append, Int.reduceNeg, e2]
    rw [bn_run e3]
    simp only [QV, if_true, if_false, reduceIte, Bool.false_eq_true, Bool.not_true, Bool.not_false, Bool.and_true, Bool.true_and, Bool.and_false, Bool.false_and, Bool.or_true, Bool.true_or, Bool.or_false, Bool.false_or, Bool.and_self, Bool.or_self, reduceCtorEq, decide_true, decide_false, List.length_cons, List.length_nil, List.length_map, List.length_range, nD_len, rngD_length, Nat.reduceAdd, Int.toNat_natCast, List.map_cons, List.map_nil, List.isEmpty_cons, List.isEmpty_nil, List.nil_append, List.cons_append, Int.reduceNeg, e4]
    rfl
  · subst z
    exact g3 (by omega) hperm.symm.eq_nil
/-! ### the parts of the law -/
theorem any_no (n : Nat) : pyAny [.list ((List.range n).map fun _ => PyData.bool false)] = some (.bool false) := by
  have h := any_bools (fun _ => false) (List.range n)
  rw [show (List.range n).any (fun _ => false) = false from by induction n <;> simp] at h
  exact h
theorem any_no' {α : Type} (xs : List α) : pyAny [.list (xs.map fun _ => PyData.bool false)] = some (.bool false) := by
  have h := any_bools (fun _ => false) xs
  rw [show xs.any (fun _ => false) = false from by induction xs <;> simp] at h
  exact h
theorem mono_ok (ps : Ps) (hp : Fine ps) (s : Nat) (hs : s ≤ 10000) : cmpP (fun x7 => bn (lf (pyIx (.tuple (nD (la ps s))) x7)) fun t9 => bn (lf (pyAdd x7 (.int 1))) fun t8 => bn (lf (pyIx (.tuple (nD (la ps s))) t8)) fun t10 => bn (lf (pyGtA t9 t10)) fun c11 => ret (.bool c11)) (rngD 0 s) = ret ((List.range s).map fun _ => .bool false) := by
  refine cmpP_rng (fun _ => .bool false) s (by omega) fun k hk => ?_
  have k1 := lad_at ps (s := s) (k := k) (by omega)
  have k2 := lad_at ps (s := s) (k := k + 1) (by omega)
  rw [show ((k + 1 : Nat) : Int) = (k : Int) + 1 from rfl] at k2
  have q : decide (((C ps (k + 1) : Nat) : Int) < ((C ps k : Nat) : Int)) = false := decide_eq_false (by have := C_mono hp.ok k; omega)
  simp only [QV, if_true, if_false, reduceIte, Bool.false_eq_true, Bool.not_true, Bool.not_false, Bool.and_true, Bool.true_and, Bool.and_false, Bool.false_and, Bool.or_true, Bool.true_or, Bool.or_false, Bool.false_or, Bool.and_self, Bool.or_self, reduceCtorEq, decide_true, decide_false, List.length_cons, List.length_nil, List.length_map, List.length_range, nD_len, rngD_length, Nat.reduceAdd, Int.toNat_natCast, List.map_cons, List.map_nil, List.isEmpty_cons, List.isEmpty_nil, List.nil_append, List.cons_append, Int.reduceNeg, k1, k2, q]
theorem add_ok (ps : Ps) (hp : Fine ps) (s : Nat) (hs : s ≤ 10000) {p : Nat × Nat} (hm : p ∈ ps) (n : Nat) (hn2 : n ≤ 20000) (hn : ∀ k, k < n → k + p.1 ≤ s) : cmpP (fun x17 => bn (lf (pyAdd x17 (.int (p.1 : Int)))) fun t18 => bn (lf (pyIx (.tuple (nD (la ps s))) t18)) fun t20 => bn (lf (pyIx (.tuple (nD (la ps s))) x17)) fun t19 => bn (lf (pyAdd t19 (.int (p.2 : Int)))) fun t21 => bn (lf (pyGtA t20 t21)) fun c22 => ret (.bool c22)) (rngD 0 n) = ret ((List.range n).map fun _ => .bool false) := by
  refine cmpP_rng (fun _ => .bool false) n (by omega) fun k hk => ?_
  have := hn k hk
  have k1 := lad_at ps (s := s) (k := k) (by omega)
  have k2 := lad_at ps (s := s) (k := k + p.1) (by omega)
  rw [show ((k + p.1 : Nat) : Int) = (k : Int) + (p.1 : Int) from rfl] at k2
  have q : decide (((C ps k : Nat) : Int) + (p.2 : Int) < ((C ps (k + p.1) : Nat) : Int)) = false := decide_eq_false (by have := C_add hp.ok hm k; omega)
  simp only [QV, if_true, if_false, reduceIte, Bool.false_eq_true, Bool.not_true, Bool.not_false, Bool.and_true, Bool.true_and, Bool.and_false, Bool.false_and, Bool.or_true, Bool.true_or, Bool.or_false, Bool.false_or, Bool.and_self, Bool.or_self, reduceCtorEq, decide_true, decide_false, List.length_cons, List.length_nil, List.length_map, List.length_range, nD_len, rngD_length, Nat.reduceAdd, Int.toNat_natCast, List.map_cons, List.map_nil, List.isEmpty_cons, List.isEmpty_nil, List.nil_append, List.cons_append, Int.reduceNeg, k1, k2, q]
theorem divN (a : Nat) {d : Nat} (h : 0 < d) (h2 : d ≤ 1000000) : pyDiv (.int (a : Int)) (.int (d : Int)) = some (.int ((a / d : Nat) : Int)) := by
  have hl : (d : Int).natAbs.log2 < 9000 := Nat.lt_trans (log2_small (n := (d : Int).natAbs) (k := 20) (by omega) (by decide)) (by decide)
  rw [divI (by omega) hl]
  rfl
/-- no entry would leave nothing over -/
theorem none_ok {m s : Nat} (hm : 0 < m) (hm2 : m ≤ 1000) {es : Es} (g : Good m es) (h0 : 0 < lo m s es) : cmpP (fun x41 => vAnd (bn (lf (pyIsNot x41 .none)) fun c42 => ret (.bool c42)) (vAnd (bn (lf (pyLeA x41 (.int (s : Int)))) fun c43 => ret (.bool c43)) (bn (lf (pySub (.int (s : Int)) x41)) fun t44 => bn (lf (pyDiv t44 (.int (m : Int)))) fun t45 => bn (lf (pyMulB t45 (.int (m : Int)))) fun t46 => bn (lf (pySub (.int (s : Int)) x41)) fun t47 => bn (lf (pyEq t46 t47)) fun c48 => ret (.bool c48)))) (oD es) = ret (es.map fun _ => .bool false) := by
  refine cmpP_map encO (fun _ => .bool false) es (by rw [g.len]; omega) fun o ho => ?_
  obtain ⟨r, hr, er⟩ := List.mem_iff_getElem.mp ho
  have hg : ge es r = o := by
    have := ge_at hr
    rw [List.getElem?_eq_getElem hr, er] at this
    exact (Option.some.inj this).symm
  cases o with
  | none => simp only [QV, if_true, if_false, reduceIte, Bool.false_eq_true, Bool.not_true, Bool.not_false, Bool.and_true, Bool.true_and, Bool.and_false, Bool.false_and, Bool.or_true, Bool.true_or, Bool.or_false, Bool.false_or, Bool.and_self, Bool.or_self, reduceCtorEq, decide_true, decide_false, List.length_cons, List.length_nil, List.length_map, List.length_range, nD_len, rngD_length, Nat.reduceAdd, Int.toNat_natCast, List.map_cons, List.map_nil, List.isEmpty_cons, List.isEmpty_nil, List.nil_append, List.cons_append, Int.reduceNeg, encO, isnot_n63]
  | some e =>
    have hle := lo_le (s := s) g (show r < m by rw [← g.len]; exact hr) hg
    by_cases z : e ≤ s
    · have q : decide ((e : Int) ≤ (s : Int)) = true := decide_eq_true (by omega)
      have k1 : (s : Int) - (e : Int) = ((s - e : Nat) : Int) := by omega
      have k2 := divN (s - e) hm (by omega)
      have k3 := mulN (a := (s - e) / m) (b := m) (.inr (by omega))
      have hne : (s - e) / m * m ≠ s - e := fun y => by
        have : e % m = s % m := by
          have h1 : s = e + (s - e) / m * m := by omega
          rw [h1, Nat.add_mul_mod_self_right]
        rw [wv_zero hm z this] at hle
        omega
      have q2 : decide ((((s - e) / m * m : Nat) : Int) = ((s - e : Nat) : Int)) = false := decide_eq_false (by omega)
      simp only [QV, if_true, if_false, reduceIte, Bool.false_eq_true, Bool.not_true, Bool.not_false, Bool.and_true, Bool.true_and, Bool.and_false, Bool.false_and, Bool.or_true, Bool.true_or, Bool.or_false, Bool.false_or, Bool.and_self, Bool.or_self, reduceCtorEq, decide_true, decide_false, List.length_cons, List.length_nil, List.length_map, List.length_range, nD_len, rngD_length, Nat.reduceAdd, Int.toNat_natCast, List.map_cons, List.map_nil, List.isEmpty_cons, List.isEmpty_nil, List.nil_append, List.cons_append, Int.reduceNeg, encO, isnot_i, q, k1, k2, k3, q2]
    · have q : decide ((e : Int) ≤ (s : Int)) = false := decide_eq_false (by omega)
      simp only [QV, if_true, if_false, reduceIte, Bool.false_eq_true, Bool.not_true, Bool.not_false, Bool.and_true, Bool.true_and, Bool.and_false, Bool.false_and, Bool.or_true, Bool.true_or, Bool.or_false, Bool.false_or, Bool.and_self, Bool.or_self, reduceCtorEq, decide_true, decide_false, List.length_cons, List.length_nil, List.length_map, List.length_range, nD_len, rngD_length, Nat.reduceAdd, Int.toNat_natCast, List.map_cons, List.map_nil, List.isEmpty_cons, List.isEmpty_nil, List.nil_append, List.cons_append, Int.reduceNeg, encO, isnot_i, q]
theorem ents_ok (es : Es) (hl : es.length ≤ 1000) : cmpF (fun x52 => mFil (lf (pyIsNot x52 .none)) (ret x52)) (oD es) = ret (nD (ents es)) := by
  have := cmpF_map (f := fun x52 => mFil (lf (pyIsNot x52 .none)) (ret x52)) encO (fun o => o.isSome) encO es (by omega) fun o _ => by
    cases o with
    | none => simp only [QV, if_true, if_false, reduceIte, Bool.false_eq_true, Bool.not_true, Bool.not_false, Bool.and_true, Bool.true_and, Bool.and_false, Bool.false_and, Bool.or_true, Bool.true_or, Bool.or_false, Bool.false_or, Bool.and_self, Bool.or_self, reduceCtorEq, decide_true, decide_false, List.length_cons, List.length_nil, List.length_map, List.length_range, nD_len, rngD_length, Nat.reduceAdd, Int.toNat_natCast, List.map_cons, List.map_nil, List.isEmpty_cons, List.isEmpty_nil, List.nil_append, List.cons_append, Int.reduceNeg, encO, isnot_n63, Option.isSome_none]
    | some e => simp only [QV, if_true, if_false, reduceIte, Bool.false_eq_true, Bool.not_true, Bool.not_false, Bool.and_true, Bool.true_and, Bool.and_false, Bool.false_and, Bool.or_true, Bool.true_or, Bool.or_false, Bool.false_or, Bool.and_self, Bool.or_self, reduceCtorEq, decide_true, decide_false, List.length_cons, List.length_nil, List.length_map, List.length_range, nD_len, rngD_length, Nat.reduceAdd, Int.toNat_natCast, List.map_cons, List.map_nil, List.isEmpty_cons, List.isEmpty_nil, List.nil_append, List.cons_append, Int.reduceNeg, encO, isnot_i, Option.isSome_some]
  refine this.trans (congrArg ret ?_)
  unfold ents nD
  clear hl this
  induction es with
  | nil => rfl
  | cons o r ih =>
    cases o with
    | none => exact ih
    | some e => exact congrArg (PyData.int (e : Int) :: ·) ih
/-- pieces of pack sizes -/
theorem pcs_ok (ps : Ps) (hp : Fine ps) (b : Nat) (hb : b ≤ 60) : ∃ ws : List Nat, forP (p_law_L2 (.int (b : Int))) (ps.map pkD) (.tuple []) = ret (.tuple (nD ws)) ∧ ws.length ≤ 8 ∧ ∀ x ∈ ws, ∃ p ∈ ps, p.1 = x := by
  obtain ⟨v, e, ws, h1, h2, h3⟩ := forP_enc (f := p_law_L2 (.int (b : Int))) pkD (fun i v => ∃ ws : List Nat, v = .tuple (nD ws) ∧ ws.length ≤ 2 * i ∧ ∀ x ∈ ws, ∃ p ∈ ps, p.1 = x) ps (.tuple []) (fun i p v hpi hI => by
    obtain ⟨ws, rfl, g1, g2⟩ := hI
    have hm : p ∈ ps := List.mem_of_getElem? hpi
    have hq := hp.2.2 p hm
    have hi : i < ps.length := by
      rcases Nat.lt_or_ge i ps.length with z | z
      · exact z
      · rw [List.getElem?_eq_none z] at hpi; cases hpi
    have h4 := hp.2.1
    have k1 := divN b (d := p.1) (by omega) (by omega)
    have k2 : pyMin2 [.int 2, .int ((b / p.1 : Nat) : Int)] = some (.int ((min 2 (b / p.1) : Nat) : Int)) := by
      show some (PyData.int _) = _
      congr 2
      split <;> omega
    have k3 := rep_one (.int (p.1 : Int)) (min 2 (b / p.1)) (by omega)
    have k4 : List.replicate (min 2 (b / p.1)) (PyData.int (p.1 : Int)) = nD (List.replicate (min 2 (b / p.1)) p.1) := by
      unfold nD
      rw [List.map_replicate]
    rw [k4] at k3
    have k5 : pyAdd (.tuple (nD ws)) (.tuple (nD (List.replicate (min 2 (b / p.1)) p.1))) = some (.tuple (nD (ws ++ List.replicate (min 2 (b / p.1)) p.1))) := by
      rw [addT (by rw [nD_len, nD_len, List.length_replicate]; omega), nD_app]
    refine ⟨_, ?_, ws ++ List.replicate (min 2 (b / p.1)) p.1, rfl, by rw [List.length_append, List.length_replicate]; omega, fun x hx => ?_⟩
    · rw [p_law_L2, show pkD p = .tuple [.int (p.1 : Int), .int (p.2 : Int)] from rfl]
      simp only [QV, if_true, if_false, reduceIte, Bool.false_eq_true, Bool.not_true, Bool.not_false, Bool.and_true, Bool.true_and, Bool.and_false, Bool.false_and, Bool.or_true, Bool.true_or, Bool.or_false, Bool.false_or, Bool.and_self, Bool.or_self, reduceCtorEq, decide_true, decide_false, List.length_cons, List.length_nil, List.length_map, List.length_range, nD_len, rngD_length, Nat.reduceAdd, Int.toNat_natCast, List.map_cons, List.map_nil, List.isEmpty_cons, List.isEmpty_nil, List.nil_append, List.cons_append, Int.reduceNeg, k1, k2, k3, k5]
    · rcases List.mem_append.mp hx with y | y
      · exact g2 x y
      · exact ⟨p, hm, ((List.mem_replicate.mp y).2).symm⟩) ⟨[], rfl, Nat.le_refl _, fun x h => by cases h⟩
  subst h1
  have := hp.2.1
  exact ⟨ws, e, by omega, h3⟩
theorem str_pp : pyEq (.str (PySem.Str.ofString "pieces")) (.str (PySem.Str.ofString "pieces")) = some true := by decide +kernel
theorem str_sp : pyEq (.str (PySem.Str.ofString "sums")) (.str (PySem.Str.ofString "pieces")) = some false := by decide +kernel
theorem neBB (a b : Bool) : pyNe (.bool a) (.bool b) = some (!(a == b)) := ne_of_eq (eqBB a b)
/-- one goal -/
theorem goal_ok (ps : Ps) (hp : Fine ps) {es : Es} (hf : p_floor (.tuple (ps.map pkD)) = ret (.tuple (oD es))) (E : Ent ps (msz ps) es) (b g : Nat) (hb : b ≤ 60) (hg : g ≤ 60) (ws : List Nat) (hn : ws.length ≤ 8) (hw : ∀ x ∈ ws, ∃ p ∈ ps, p.1 = x) :
    p_law_L1 (.tuple (ps.map pkD)) (.int (b : Int)) (.tuple (nD ws)) (.tuple ((Sr.rws b [0] ws).map rowD)) (.int (g : Int)) () = ret (.nx ()) := by
  obtain ⟨h1, h2, h3⟩ := msz_ok hp
  have k1 := over_ok ps hp hf E g
  have k2 := sums_ok (b := g) (by omega) ws (by omega)
  have k3 := rws_end g ws
  have k4 := inB g (Sr.fin g ws)
  have k5 := rws_end b ws
  have k6 := inB b (Sr.fin b ws)
  by_cases z : g ∈ Sr.fin g ws
  · obtain ⟨s, f1, f2⟩ := just_some ws (by omega) (by omega) z
    have hMk : Mk ps g := by
      have := Mk_sum (ps := ps) (l := s.map fun i => ws.getD i 0) fun x hx => by
        obtain ⟨i, hi, rfl⟩ := List.mem_map.mp hx
        refine hw _ ?_
        have := (f2.1.2 i hi).2
        rw [List.getD_eq_getElem?_getD, List.getElem?_eq_getElem this]
        exact List.getElem_mem _
      have e : (s.map fun i => ws.getD i 0).sum = g := f2.2.1
      rw [e] at this
      exact this
    rw [lo_zero E h1 hMk] at k1
    rw [decide_eq_true z] at k4
    have q1 : decide (((0 : Nat) : Int) ≠ 0) = false := decide_eq_false (by omega)
    have n1 := neBB true true
    rw [p_law_L1]
    by_cases y : g = b
    · subst y
      have q2 : decide ((g : Int) = (g : Int)) = true := decide_eq_true rfl
      simp only [QV, if_true, if_false, reduceIte, Bool.false_eq_true, Bool.not_true, Bool.not_false, Bool.and_true, Bool.true_and, Bool.and_false, Bool.false_and, Bool.or_true, Bool.true_or, Bool.or_false, Bool.false_or, Bool.and_self, Bool.or_self, reduceCtorEq, decide_true, decide_false, List.length_cons, List.length_nil, List.length_map, List.length_range, nD_len, rngD_length, Nat.reduceAdd, Int.toNat_natCast, List.map_cons, List.map_nil, List.isEmpty_cons, List.isEmpty_nil, List.nil_append, List.cons_append, Int.reduceNeg, f1, str_pp, k1, q1, k2, k3, k4, n1, beq_self_eq_true, q2, k5]
    · have q2 : decide ((g : Int) = (b : Int)) = false := decide_eq_false (by omega)
      simp only [QV, if_true, if_false, reduceIte, Bool.false_eq_true, Bool.not_true, Bool.not_false, Bool.and_true, Bool.true_and, Bool.and_false, Bool.false_and, Bool.or_true, Bool.true_or, Bool.or_false, Bool.false_or, Bool.and_self, Bool.or_self, reduceCtorEq, decide_true, decide_false, List.length_cons, List.length_nil, List.length_map, List.length_range, nD_len, rngD_length, Nat.reduceAdd, Int.toNat_natCast, List.map_cons, List.map_nil, List.isEmpty_cons, List.isEmpty_nil, List.nil_append, List.cons_append, Int.reduceNeg, f1, str_pp, k1, q1, k2, k3, k4, n1, beq_self_eq_true, q2]
  · have f1 := just_none ws (by omega) (b := g) (by omega) z
    rw [decide_eq_false z] at k4
    have n1 := neBB false false
    rw [p_law_L1]
    by_cases y : g = b
    · subst y
      have q2 : decide ((g : Int) = (g : Int)) = true := decide_eq_true rfl
      simp only [QV, if_true, if_false, reduceIte, Bool.false_eq_true, Bool.not_true, Bool.not_false, Bool.and_true, Bool.true_and, Bool.and_false, Bool.false_and, Bool.or_true, Bool.true_or, Bool.or_false, Bool.false_or, Bool.and_self, Bool.or_self, reduceCtorEq, decide_true, decide_false, List.length_cons, List.length_nil, List.length_map, List.length_range, nD_len, rngD_length, Nat.reduceAdd, Int.toNat_natCast, List.map_cons, List.map_nil, List.isEmpty_cons, List.isEmpty_nil, List.nil_append, List.cons_append, Int.reduceNeg, f1, str_sp, k2, k3, k4, n1, beq_self_eq_true, q2, k5]
    · have q2 : decide ((g : Int) = (b : Int)) = false := decide_eq_false (by omega)
      simp only [QV, if_true, if_false, reduceIte, Bool.false_eq_true, Bool.not_true, Bool.not_false, Bool.and_true, Bool.true_and, Bool.and_false, Bool.false_and, Bool.or_true, Bool.true_or, Bool.or_false, Bool.false_or, Bool.and_self, Bool.or_self, reduceCtorEq, decide_true, decide_false, List.length_cons, List.length_nil, List.length_map, List.length_range, nD_len, rngD_length, Nat.reduceAdd, Int.toNat_natCast, List.map_cons, List.map_nil, List.isEmpty_cons, List.isEmpty_nil, List.nil_append, List.cons_append, Int.reduceNeg, f1, str_sp, k2, k3, k4, n1, beq_self_eq_true, q2]
end Dn

set_option Elab.async false
set_option linter.all false
set_option autoImplicit false
set_option maxRecDepth 100000
set_option maxHeartbeats 8000000
set_option exponentiation.threshold 100000
namespace Dn
open PySem G Pk
theorem min2_nat (a b : Nat) : pyMin2 [.int (a : Int), .int (b : Int)] = some (.int ((min a b : Nat) : Int)) := by
  show some (PyData.int (if (b : Int) < (a : Int) then (b : Int) else (a : Int))) = _
  congr 2
  split <;> omega
theorem L3_ok (x : PyData) (B : Bx) (b0 : TI B) : ∃ B', p_law_L3 x () B = some (.nx (), B') ∧ TI B' := by
  obtain ⟨ps, B1, e1, b1, hp⟩ := packs_draw B b0
  obtain ⟨s, B2, b2, hs, e2⟩ := tk 601 B1 b1 (by decide) (by decide)
  have e2 : p_law_take (.int 601) B1 = some (.int (s : Int), B2) := e2
  have hbm := best_mem hp.1
  have hq := hp.2.2 _ hbm
  have e3 := best_ok ps hp
  rw [show pkD (best ps) = .tuple [.int ((best ps).1 : Int), .int ((best ps).2 : Int)] from rfl] at e3
  have e4 := ladder_ok ps hp s (by omega)
  have g1 := rng1_ok (n := s) (by omega)
  have e5 := mono_ok ps hp s (by omega)
  have e6 := any_no s
  have g2 : rng1O (.int ((s : Int) - ((best ps).1 : Int) + 1)) = some (rngD 0 (s + 1 - (best ps).1)) := by
    rw [rng1_int (by omega) (by omega), show ((s : Int) - ((best ps).1 : Int) + 1).toNat = s + 1 - (best ps).1 by omega]
  have e7 := add_ok ps hp s (by omega) hbm (s + 1 - (best ps).1) (by omega) fun k hk => by omega
  have e8 := any_no (s + 1 - (best ps).1)
  obtain ⟨r, e9, hr, ht⟩ := rounds_ok ps hp
  have k7 : pyMul (.int 7) (.int ((best ps).1 : Int)) = some (.int ((7 * (best ps).1 : Nat) : Int)) := mulN (a := 7) (.inl (by decide))
  have k8 : pyMul (.int 7) (.int ((best ps).2 : Int)) = some (.int ((7 * (best ps).2 : Nat) : Int)) := mulN (a := 7) (.inl (by decide))
  have c1 : (r : Int) + ((7 * (best ps).1 : Nat) : Int) + (s : Int) = ((r + s + 7 * (best ps).1 : Nat) : Int) := by omega
  have c2 : (r : Int) + (s : Int) = ((r + s : Nat) : Int) := by omega
  have e10 := far_ok ps hp (r + s + 7 * (best ps).1) (by omega)
  have e11 := far_ok ps hp (r + s) (by omega)
  have hcf := cf_steps hp.ok ht (n := r + s) (by omega) 7
  have q1 : decide (((cf ps (r + s + 7 * (best ps).1) : Nat) : Int) ≠ ((cf ps (r + s) : Nat) : Int) + ((7 * (best ps).2 : Nat) : Int)) = false := decide_eq_false (by omega)
  obtain ⟨f, e12, hf⟩ := cheap_ok ps hp s (by omega)
  have e13 := amount_ok ps hp f
  have q2 : decide (((amt ps f : Nat) : Int) < (s : Int)) = false := decide_eq_false (by omega)
  obtain ⟨es, e14, E⟩ := floor_ok ps hp
  obtain ⟨m1, m2, m3⟩ := msz_ok hp
  have hg := E.good
  have e15 := over_ok ps hp e14 E s
  have hlt := lo_lt (s := s) hg m1
  obtain ⟨r0, en, r1, r2, r3⟩ := lo_mem (s := s) hg m1
  obtain ⟨w1, w2⟩ := wv_mod (m := msz ps) (s := s) (e := en) m1
  rw [← r3] at w1 w2
  have hen := hg.res _ _ r2
  generalize hlo : lo (msz ps) s es = R at *
  have e16 := fun (h : 0 < R) => none_ok (s := s) m1 (by omega) hg (by rw [hlo]; exact h)
  have e17 := any_no' es
  have e18 := ents_ok es (by rw [hg.len]; omega)
  have e19 : pyAdd (.list [.int 0]) (.list (nD (ents es))) = some (.list (nD (0 :: ents es))) := addL (xs := [.int 0]) (by rw [nD_len]; have : (ents es).length ≤ es.length := List.length_filterMap_le _ _; rw [hg.len] at this; show 1 + _ ≤ _; omega)
  have e20 := maxA_nat 0 (ents es)
  generalize (ents es).foldl max 0 = mxv at e20
  have q3 : decide ((0 : Int) ≤ (R : Int)) = true := decide_eq_true (by omega)
  have q4 : decide ((R : Int) < (msz ps : Int) + (mxv : Int)) = true := decide_eq_true (by omega)
  have c3 : (s : Int) + (R : Int) = ((s + R : Nat) : Int) := by omega
  have k9 := divN (s + R) m1 (by omega)
  have k10 := mulN (a := (s + R) / msz ps) (b := msz ps) (.inr (by omega))
  have c4 : ((s + R : Nat) : Int) - (((s + R) / msz ps * msz ps : Nat) : Int) = (((s + R) % msz ps : Nat) : Int) := by
    have := Nat.div_add_mod (s + R) (msz ps)
    rw [Nat.mul_comm] at this
    omega
  have k11 := oD_at (es := es) (r := (s + R) % msz ps) (by rw [hg.len]; exact Nat.mod_lt _ m1)
  rw [w1, hen, r2] at k11
  have k11 : L2.atI (oD es) (((s + R) % msz ps : Nat) : Int) = some (.int (en : Int)) := by
    rw [w1, hen]
    exact k11
  have q5 : decide (((s + R : Nat) : Int) < (en : Int)) = false := decide_eq_false (by omega)
  have k12 : pyMin2 [.int (s : Int), .int 60] = some (.int ((min s 60 : Nat) : Int)) := min2_nat s 60
  obtain ⟨ws, e21, hw1, hw2⟩ := pcs_ok ps hp (min s 60) (by omega)
  have e22 := sums_ok (b := min s 60) (by omega) ws (by omega)
  have k13 : pyDiv (.int ((min s 60 : Nat) : Int)) (.int 2) = some (.int ((min s 60 / 2 : Nat) : Int)) := divN (min s 60) (d := 2) (by decide) (by decide)
  have e23 := forL_yes (f := p_law_L1 (.tuple (ps.map pkD)) (.int ((min s 60 : Nat) : Int)) (.tuple (nD ws)) (.tuple ((Sr.rws (min s 60) [0] ws).map rowD))) [.int ((min s 60 : Nat) : Int), .int ((min s 60 / 2 : Nat) : Int)] fun a ha => by
    simp only [List.mem_cons, List.not_mem_nil, or_false] at ha
    rcases ha with rfl | rfl
    · exact goal_ok ps hp e14 E (min s 60) (min s 60) (by omega) (by omega) ws hw1 hw2
    · exact goal_ok ps hp e14 E (min s 60) (min s 60 / 2) (by omega) (by omega) ws hw1 hw2
  obtain ⟨fr, e24, hfr, ⟨fq, frr, efr, hfq⟩, hfl⟩ := front_ok ps hp (min s 60) (by omega)
  have k14 : L2.atI (fr.map pkD) 0 = some (.tuple [.int (fq.1 : Int), .int (fq.2 : Int)]) := by
    rw [efr]
    exact k_at0
  have e25 := cmpP_map (f := fun x83 => un2 x83 fun v_amount v_paid => bn (p_least_over (.tuple (ps.map pkD)) v_amount) fun t84 => bn (lf (pyEq t84 (.int 0))) fun c85 => ret (.bool c85)) pkD (fun _ => .bool true) fr (by omega) fun q hq => by
    have k1 := over_ok ps hp e14 E q.1
    rw [lo_zero E m1 (hfr q hq)] at k1
    have q1 : decide (((0 : Nat) : Int) = 0) = true := rfl
    rw [show pkD q = .tuple [.int (q.1 : Int), .int (q.2 : Int)] from rfl]
    simp only [QV, if_true, if_false, reduceIte, Bool.false_eq_true, Bool.not_true, Bool.not_false, Bool.and_true, Bool.true_and, Bool.and_false, Bool.false_and, Bool.or_true, Bool.true_or, Bool.or_false, Bool.false_or, Bool.and_self, Bool.or_self, reduceCtorEq, decide_true, decide_false, List.length_cons, List.length_nil, List.length_map, List.length_range, nD_len, rngD_length, Nat.reduceAdd, Int.toNat_natCast, List.map_cons, List.map_nil, List.isEmpty_cons, List.isEmpty_nil, List.nil_append, List.cons_append, Int.reduceNeg, k1, q1]
  have e26 := all_bools (fun _ => true) fr
  have hv : fr.all (fun _ => true) = true := List.all_eq_true.mpr fun _ _ => rfl
  rw [hv] at e26
  have q6 : (decide ((0 : Int) < (fq.1 : Int)) && decide ((0 : Int) < (fq.2 : Int))) = false := by
    rcases hfq with z | z
    · rw [decide_eq_false (show ¬ (0 : Int) < (fq.1 : Int) by omega)]; rfl
    · rw [decide_eq_false (show ¬ (0 : Int) < (fq.2 : Int) by omega), Bool.and_false]
  refine ⟨B2, ?_, b2⟩
  have fin : p_law_L3 x () B = some (.nx (), B2) := by
    rw [p_law_L3]
    rw [bn_run e1]
    rw [bn_run e2]
    by_cases h0 : 0 < R
    · have q7 : decide ((0 : Int) < (R : Int)) = true := decide_eq_true (by omega)
      have e16 := e16 h0
      simp only [QV, if_true, if_false, reduceIte, Bool.false_eq_true, Bool.not_true, Bool.not_false, Bool.and_true, Bool.true_and, Bool.and_false, Bool.false_and, Bool.or_true, Bool.true_or, Bool.or_false, Bool.false_or, Bool.and_self, Bool.or_self, reduceCtorEq, decide_true, decide_false, List.length_cons, List.length_nil, List.length_map, List.length_range, nD_len, rngD_length, Nat.reduceAdd, Int.toNat_natCast, List.map_cons, List.map_nil, List.isEmpty_cons, List.isEmpty_nil, List.nil_append, List.cons_append, Int.reduceNeg, e3, e4, g1, e5, e6, g2, e7, e8, e9, k7, k8, c1, c2, e10, e11, q1, e12, e13, q2, e14, m3, e15, q7, e16, e17, q3, e18, e19, e20, q4, c3, k9, k10, c4, k11, is_i, q5, k12, e21, e22, k13, e23, e24, k14, q6, e25, e26]
      rfl
    · have q7 : decide ((0 : Int) < (R : Int)) = false := decide_eq_false (by omega)
      simp only [QV, if_true, if_false, reduceIte, Bool.false_eq_true, Bool.not_true, Bool.not_false, Bool.and_true, Bool.true_and, Bool.and_false, Bool.false_and, Bool.or_true, Bool.true_or, Bool.or_false, Bool.false_or, Bool.and_self, Bool.or_self, reduceCtorEq, decide_true, decide_false, List.length_cons, List.length_nil, List.length_map, List.length_range, nD_len, rngD_length, Nat.reduceAdd, Int.toNat_natCast, List.map_cons, List.map_nil, List.isEmpty_cons, List.isEmpty_nil, List.nil_append, List.cons_append, Int.reduceNeg, e3, e4, g1, e5, e6, g2, e7, e8, e9, k7, k8, c1, c2, e10, e11, q1, e12, e13, q2, e14, m3, e15, q7, q3, e18, e19, e20, q4, c3, k9, k10, c4, k11, is_i, q5, k12, e21, e22, k13, e23, e24, k14, q6, e25, e26]
      rfl
  exact fin
theorem law_p (ns : List Int) (B : Bx) (b0 : TI B) : ∃ B', p_law ns B = some (.bool true, B') := by
  obtain ⟨s, B1, e1, b1⟩ := forL_st (f := p_law_L3) (fun _ (_ : Unit) B => TI B) (rngD 0 3) 0 () B (fun i x s B hx hb => by
    obtain ⟨B', e, b'⟩ := L3_ok x B hb
    exact ⟨(), B', .inl e, b'⟩) b0
  have g1 : rng1O (.int 3) = some (rngD 0 3) := rng1_ok (n := 3) (by decide)
  refine ⟨B1, ?_⟩
  rw [p_law]
  simp only [QV, if_true, if_false, reduceIte, Bool.false_eq_true, Bool.not_true, Bool.not_false, Bool.and_true, Bool.true_and, Bool.and_false, Bool.false_and, Bool.or_true, Bool.true_or, Bool.or_false, Bool.false_or, Bool.and_self, Bool.or_self, reduceCtorEq, decide_true, decide_false, List.length_cons, List.length_nil, List.length_map, List.length_range, nD_len, rngD_length, Nat.reduceAdd, Int.toNat_natCast, List.map_cons, List.map_nil, List.isEmpty_cons, List.isEmpty_nil, List.nil_append, List.cons_append, Int.reduceNeg, g1]
  rw [bR_run e1]
  rfl
theorem law_den (ns : List Int) (h : ns.length ≤ 63) : ∃ B', d_law [.scr ns] ⟨[], [], false⟩ = some (.dat (.bool true), B') := by
  obtain ⟨B1, b1, e1⟩ := sp_tape ns
  obtain ⟨B2, e2⟩ := law_p ns B1 b1
  exact ⟨B2, pok_law e1 e2⟩
end Dn

set_option maxHeartbeats 0
namespace Dn
open PySem PySem.Spec PyProof.Rows L2
theorem all_mk {l : PySem.W.OpenLaw} {w : World} {K : Frg} {h : Heap} {mg : Str → Option Value} {fa : Addr} (X : K.In h) (G : h.Ns mainGlobals mg) (hfa : mg "law" = some (.ref fa))
    {f1 : Addr} {od1 an1 : Option Addr} {sl1 : Array (Option Value)} {oc1 kV1 dc1 pm1 cd1 ct1 : Value}
    {f2 : Addr} {od2 an2 : Option Addr} {sl2 : Array (Option Value)} {oc2 kV2 dc2 pm2 cd2 ct2 : Value}
    {f3 : Addr} {od3 an3 : Option Addr} {sl3 : Array (Option Value)} {oc3 kV3 dc3 pm3 cd3 ct3 : Value}
    {f4 : Addr} {od4 an4 : Option Addr} {sl4 : Array (Option Value)} {oc4 kV4 dc4 pm4 cd4 ct4 : Value}
    {f5 : Addr} {od5 an5 : Option Addr} {sl5 : Array (Option Value)} {oc5 kV5 dc5 pm5 cd5 ct5 : Value}
    {f6 : Addr} {od6 an6 : Option Addr} {sl6 : Array (Option Value)} {oc6 kV6 dc6 pm6 cd6 ct6 : Value}
    {f7 : Addr} {od7 an7 : Option Addr} {sl7 : Array (Option Value)} {oc7 kV7 dc7 pm7 cd7 ct7 : Value}
    {f8 : Addr} {od8 an8 : Option Addr} {sl8 : Array (Option Value)} {oc8 kV8 dc8 pm8 cd8 ct8 : Value}
    {f9 : Addr} {od9 an9 : Option Addr} {sl9 : Array (Option Value)} {oc9 kV9 dc9 pm9 cd9 ct9 : Value}
    {f10 : Addr} {od10 an10 : Option Addr} {sl10 : Array (Option Value)} {oc10 kV10 dc10 pm10 cd10 ct10 : Value}
    {f11 : Addr} {od11 an11 : Option Addr} {sl11 : Array (Option Value)} {oc11 kV11 dc11 pm11 cd11 ct11 : Value}
    {f12 : Addr} {od12 an12 : Option Addr} {sl12 : Array (Option Value)} {oc12 kV12 dc12 pm12 cd12 ct12 : Value}
    {f13 : Addr} {od13 an13 : Option Addr} {sl13 : Array (Option Value)} {oc13 kV13 dc13 pm13 cd13 ct13 : Value}
    {f14 : Addr} {od14 an14 : Option Addr} {sl14 : Array (Option Value)} {oc14 kV14 dc14 pm14 cd14 ct14 : Value}
    {f15 : Addr} {od15 an15 : Option Addr} {sl15 : Array (Option Value)} {oc15 kV15 dc15 pm15 cd15 ct15 : Value}
    {f16 : Addr} {od16 an16 : Option Addr} {sl16 : Array (Option Value)} {oc16 kV16 dc16 pm16 cd16 ct16 : Value}
    {f17 : Addr} {od17 an17 : Option Addr} {sl17 : Array (Option Value)} {oc17 kV17 dc17 pm17 cd17 ct17 : Value}
    {f18 : Addr} {od18 an18 : Option Addr} {sl18 : Array (Option Value)} {oc18 kV18 dc18 pm18 cd18 ct18 : Value}
    {f19 : Addr} {od19 an19 : Option Addr} {sl19 : Array (Option Value)} {oc19 kV19 dc19 pm19 cd19 ct19 : Value}
    {f20 : Addr} {od20 an20 : Option Addr} {sl20 : Array (Option Value)} {oc20 kV20 dc20 pm20 cd20 ct20 : Value}
    (a1 : PySem.W.nsIn K mainGlobals "_law_tape" = some (some (.ref f1))) (l1 : K.lookup f1 = some ⟨oc1, od1, .func (PySem.W.fnOf "_law_tape" "_law_tape" (defArgs s_law_tape) (defBody s_law_tape) (defScope s_law_tape) .none kV1 dc1 pm1 an1 cd1 ct1), sl1⟩) (c1 : PySem.W.codeIn K cd1 "_law_tape" = true) (k1 : PySem.W.keepIn K (.ref f1) = true)
    (a2 : PySem.W.nsIn K mainGlobals "best_pack" = some (some (.ref f2))) (l2 : K.lookup f2 = some ⟨oc2, od2, .func (PySem.W.fnOf "best_pack" "best_pack" (defArgs s_best_pack) (defBody s_best_pack) (defScope s_best_pack) .none kV2 dc2 pm2 an2 cd2 ct2), sl2⟩) (c2 : PySem.W.codeIn K cd2 "best_pack" = true) (k2 : PySem.W.keepIn K (.ref f2) = true)
    (a3 : PySem.W.nsIn K mainGlobals "cost_ladder" = some (some (.ref f3))) (l3 : K.lookup f3 = some ⟨oc3, od3, .func (PySem.W.fnOf "cost_ladder" "cost_ladder" (defArgs s_cost_ladder) (defBody s_cost_ladder) (defScope s_cost_ladder) .none kV3 dc3 pm3 an3 cd3 ct3), sl3⟩) (c3 : PySem.W.codeIn K cd3 "cost_ladder" = true) (k3 : PySem.W.keepIn K (.ref f3) = true)
    (a4 : PySem.W.nsIn K mainGlobals "turning_point" = some (some (.ref f4))) (l4 : K.lookup f4 = some ⟨oc4, od4, .func (PySem.W.fnOf "turning_point" "turning_point" (defArgs s_turning_point) (defBody s_turning_point) (defScope s_turning_point) .none kV4 dc4 pm4 an4 cd4 ct4), sl4⟩) (c4 : PySem.W.codeIn K cd4 "turning_point" = true) (k4 : PySem.W.keepIn K (.ref f4) = true)
    (a5 : PySem.W.nsIn K mainGlobals "rounds_from" = some (some (.ref f5))) (l5 : K.lookup f5 = some ⟨oc5, od5, .func (PySem.W.fnOf "rounds_from" "rounds_from" (defArgs s_rounds_from) (defBody s_rounds_from) (defScope s_rounds_from) .none kV5 dc5 pm5 an5 cd5 ct5), sl5⟩) (c5 : PySem.W.codeIn K cd5 "rounds_from" = true) (k5 : PySem.W.keepIn K (.ref f5) = true)
    (a6 : PySem.W.nsIn K mainGlobals "floor" = some (some (.ref f6))) (l6 : K.lookup f6 = some ⟨oc6, od6, .func (PySem.W.fnOf "floor" "floor" (defArgs s_floor) (defBody s_floor) (defScope s_floor) .none kV6 dc6 pm6 an6 cd6 ct6), sl6⟩) (c6 : PySem.W.codeIn K cd6 "floor" = true) (k6 : PySem.W.keepIn K (.ref f6) = true)
    (a7 : PySem.W.nsIn K mainGlobals "least_over" = some (some (.ref f7))) (l7 : K.lookup f7 = some ⟨oc7, od7, .func (PySem.W.fnOf "least_over" "least_over" (defArgs s_least_over) (defBody s_least_over) (defScope s_least_over) .none kV7 dc7 pm7 an7 cd7 ct7), sl7⟩) (c7 : PySem.W.codeIn K cd7 "least_over" = true) (k7 : PySem.W.keepIn K (.ref f7) = true)
    (a8 : PySem.W.nsIn K mainGlobals "next_sums" = some (some (.ref f8))) (l8 : K.lookup f8 = some ⟨oc8, od8, .func (PySem.W.fnOf "next_sums" "next_sums" (defArgs s_next_sums) (defBody s_next_sums) (defScope s_next_sums) .none kV8 dc8 pm8 an8 cd8 ct8), sl8⟩) (c8 : PySem.W.codeIn K cd8 "next_sums" = true) (k8 : PySem.W.keepIn K (.ref f8) = true)
    (a9 : PySem.W.nsIn K mainGlobals "sum_rows" = some (some (.ref f9))) (l9 : K.lookup f9 = some ⟨oc9, od9, .func (PySem.W.fnOf "sum_rows" "sum_rows" (defArgs s_sum_rows) (defBody s_sum_rows) (defScope s_sum_rows) .none kV9 dc9 pm9 an9 cd9 ct9), sl9⟩) (c9 : PySem.W.codeIn K cd9 "sum_rows" = true) (k9 : PySem.W.keepIn K (.ref f9) = true)
    (a10 : PySem.W.nsIn K mainGlobals "least_prices" = some (some (.ref f10))) (l10 : K.lookup f10 = some ⟨oc10, od10, .func (PySem.W.fnOf "least_prices" "least_prices" (defArgs s_least_prices) (defBody s_least_prices) (defScope s_least_prices) .none kV10 dc10 pm10 an10 cd10 ct10), sl10⟩) (c10 : PySem.W.codeIn K cd10 "least_prices" = true) (k10 : PySem.W.keepIn K (.ref f10) = true)
    (a11 : PySem.W.nsIn K mainGlobals "front" = some (some (.ref f11))) (l11 : K.lookup f11 = some ⟨oc11, od11, .func (PySem.W.fnOf "front" "front" (defArgs s_front) (defBody s_front) (defScope s_front) .none kV11 dc11 pm11 an11 cd11 ct11), sl11⟩) (c11 : PySem.W.codeIn K cd11 "front" = true) (k11 : PySem.W.keepIn K (.ref f11) = true)
    (a12 : PySem.W.nsIn K mainGlobals "_law_mix" = some (some (.ref f12))) (l12 : K.lookup f12 = some ⟨oc12, od12, .func (PySem.W.fnOf "_law_mix" "_law_mix" (defArgs s_law_mix) (defBody s_law_mix) (defScope s_law_mix) .none kV12 dc12 pm12 an12 cd12 ct12), sl12⟩) (c12 : PySem.W.codeIn K cd12 "_law_mix" = true) (k12 : PySem.W.keepIn K (.ref f12) = true)
    (a13 : PySem.W.nsIn K mainGlobals "_law_take" = some (some (.ref f13))) (l13 : K.lookup f13 = some ⟨oc13, od13, .func (PySem.W.fnOf "_law_take" "_law_take" (defArgs s_law_take) (defBody s_law_take) (defScope s_law_take) .none kV13 dc13 pm13 an13 cd13 ct13), sl13⟩) (c13 : PySem.W.codeIn K cd13 "_law_take" = true) (k13 : PySem.W.keepIn K (.ref f13) = true)
    (a14 : PySem.W.nsIn K mainGlobals "_law_packs" = some (some (.ref f14))) (l14 : K.lookup f14 = some ⟨oc14, od14, .func (PySem.W.fnOf "_law_packs" "_law_packs" (defArgs s_law_packs) (defBody s_law_packs) (defScope s_law_packs) .none kV14 dc14 pm14 an14 cd14 ct14), sl14⟩) (c14 : PySem.W.codeIn K cd14 "_law_packs" = true) (k14 : PySem.W.keepIn K (.ref f14) = true)
    (a15 : PySem.W.nsIn K mainGlobals "first_pieces" = some (some (.ref f15))) (l15 : K.lookup f15 = some ⟨oc15, od15, .func (PySem.W.fnOf "first_pieces" "first_pieces" (defArgs s_first_pieces) (defBody s_first_pieces) (defScope s_first_pieces) .none kV15 dc15 pm15 an15 cd15 ct15), sl15⟩) (c15 : PySem.W.codeIn K cd15 "first_pieces" = true) (k15 : PySem.W.keepIn K (.ref f15) = true)
    (a16 : PySem.W.nsIn K mainGlobals "just_so" = some (some (.ref f16))) (l16 : K.lookup f16 = some ⟨oc16, od16, .func (PySem.W.fnOf "just_so" "just_so" (defArgs s_just_so) (defBody s_just_so) (defScope s_just_so) .none kV16 dc16 pm16 an16 cd16 ct16), sl16⟩) (c16 : PySem.W.codeIn K cd16 "just_so" = true) (k16 : PySem.W.keepIn K (.ref f16) = true)
    (a17 : PySem.W.nsIn K mainGlobals "cost_far" = some (some (.ref f17))) (l17 : K.lookup f17 = some ⟨oc17, od17, .func (PySem.W.fnOf "cost_far" "cost_far" (defArgs s_cost_far) (defBody s_cost_far) (defScope s_cost_far) .none kV17 dc17 pm17 an17 cd17 ct17), sl17⟩) (c17 : PySem.W.codeIn K cd17 "cost_far" = true) (k17 : PySem.W.keepIn K (.ref f17) = true)
    (a18 : PySem.W.nsIn K mainGlobals "amount_of" = some (some (.ref f18))) (l18 : K.lookup f18 = some ⟨oc18, od18, .func (PySem.W.fnOf "amount_of" "amount_of" (defArgs s_amount_of) (defBody s_amount_of) (defScope s_amount_of) .none kV18 dc18 pm18 an18 cd18 ct18), sl18⟩) (c18 : PySem.W.codeIn K cd18 "amount_of" = true) (k18 : PySem.W.keepIn K (.ref f18) = true)
    (a19 : PySem.W.nsIn K mainGlobals "cheapest" = some (some (.ref f19))) (l19 : K.lookup f19 = some ⟨oc19, od19, .func (PySem.W.fnOf "cheapest" "cheapest" (defArgs s_cheapest) (defBody s_cheapest) (defScope s_cheapest) .none kV19 dc19 pm19 an19 cd19 ct19), sl19⟩) (c19 : PySem.W.codeIn K cd19 "cheapest" = true) (k19 : PySem.W.keepIn K (.ref f19) = true)
    (a20 : PySem.W.nsIn K mainGlobals "law" = some (some (.ref f20))) (l20 : K.lookup f20 = some ⟨oc20, od20, .func (PySem.W.fnOf "law" "law" (defArgs s_law) (defBody s_law) (defScope s_law) .none kV20 dc20 pm20 an20 cd20 ct20), sl20⟩) (c20 : PySem.W.codeIn K cd20 "law" = true) (k20 : PySem.W.keepIn K (.ref f20) = true)
    (z0 : PySem.W.nsIn K mainGlobals "all" = some none)
    (z1 : PySem.W.nsIn K mainGlobals "any" = some none)
    (z2 : PySem.W.nsIn K mainGlobals "enumerate" = some none)
    (z3 : PySem.W.nsIn K mainGlobals "int" = some none)
    (z4 : PySem.W.nsIn K mainGlobals "len" = some none)
    (z5 : PySem.W.nsIn K mainGlobals "list" = some none)
    (z6 : PySem.W.nsIn K mainGlobals "max" = some none)
    (z7 : PySem.W.nsIn K mainGlobals "min" = some none)
    (z8 : PySem.W.nsIn K mainGlobals "range" = some none)
    (z9 : PySem.W.nsIn K mainGlobals "reversed" = some none)
    (z10 : PySem.W.nsIn K mainGlobals "set" = some none)
    (z11 : PySem.W.nsIn K mainGlobals "sorted" = some none)
    (z12 : PySem.W.nsIn K mainGlobals "sum" = some none)
    (z13 : PySem.W.nsIn K mainGlobals "tuple" = some none)
    (z14 : PySem.W.nsIn K mainGlobals "zip" = some none) :
    ∃ fd : FuncData, (∀ (s : Shared) (v : Value), BindsTo s fd ⟨[v], []⟩ [("script", v)]) ∧ ∀ base : Heap, K.In base → base.Ns mainGlobals mg → FnOk l.prog w K mg base CX0 18 fa fd ["script"] (spD K d_law) := by
  have e := hfa.symm.trans (PySem.W.mg_of X G a20)
  cases e
  have T : Tx K mg := ⟨PySem.W.mg_none_of X G z0, PySem.W.mg_none_of X G z1, PySem.W.mg_none_of X G z2, PySem.W.mg_none_of X G z3, PySem.W.mg_none_of X G z4, PySem.W.mg_none_of X G z5, PySem.W.mg_none_of X G z6, PySem.W.mg_none_of X G z7, PySem.W.mg_none_of X G z8, PySem.W.mg_none_of X G z9, PySem.W.mg_none_of X G z10, PySem.W.mg_none_of X G z11, PySem.W.mg_none_of X G z12, PySem.W.mg_none_of X G z13, PySem.W.mg_none_of X G z14⟩
  have F1 := fun_mk (st := s_law_tape) l1 c1 k1
  have b1 := F1.binds (ps := ["script"]) fun _ _ _ _ _ _ us hl => match us, hl with | [_], _ => rfl
  have F2 := fun_mk (st := s_best_pack) l2 c2 k2
  have b2 := F2.binds (ps := ["packs"]) fun _ _ _ _ _ _ us hl => match us, hl with | [_], _ => rfl
  have F3 := fun_mk (st := s_cost_ladder) l3 c3 k3
  have b3 := F3.binds (ps := ["packs", "s"]) fun _ _ _ _ _ _ us hl => match us, hl with | [_, _], _ => rfl
  have F4 := fun_mk (st := s_turning_point) l4 c4 k4
  have b4 := F4.binds (ps := ["packs"]) fun _ _ _ _ _ _ us hl => match us, hl with | [_], _ => rfl
  have F5 := fun_mk (st := s_rounds_from) l5 c5 k5
  have b5 := F5.binds (ps := ["packs"]) fun _ _ _ _ _ _ us hl => match us, hl with | [_], _ => rfl
  have F6 := fun_mk (st := s_floor) l6 c6 k6
  have b6 := F6.binds (ps := ["packs"]) fun _ _ _ _ _ _ us hl => match us, hl with | [_], _ => rfl
  have F7 := fun_mk (st := s_least_over) l7 c7 k7
  have b7 := F7.binds (ps := ["packs", "s"]) fun _ _ _ _ _ _ us hl => match us, hl with | [_, _], _ => rfl
  have F8 := fun_mk (st := s_next_sums) l8 c8 k8
  have b8 := F8.binds (ps := ["row", "piece", "b"]) fun _ _ _ _ _ _ us hl => match us, hl with | [_, _, _], _ => rfl
  have F9 := fun_mk (st := s_sum_rows) l9 c9 k9
  have b9 := F9.binds (ps := ["pieces", "b"]) fun _ _ _ _ _ _ us hl => match us, hl with | [_, _], _ => rfl
  have F10 := fun_mk (st := s_least_prices) l10 c10 k10
  have b10 := F10.binds (ps := ["packs", "b"]) fun _ _ _ _ _ _ us hl => match us, hl with | [_, _], _ => rfl
  have F11 := fun_mk (st := s_front) l11 c11 k11
  have b11 := F11.binds (ps := ["packs", "b"]) fun _ _ _ _ _ _ us hl => match us, hl with | [_, _], _ => rfl
  have F12 := fun_mk (st := s_law_mix) l12 c12 k12
  have b12 := F12.binds (ps := ["number"]) fun _ _ _ _ _ _ us hl => match us, hl with | [_], _ => rfl
  have F13 := fun_mk (st := s_law_take) l13 c13 k13
  have b13 := F13.binds (ps := ["tape", "many"]) fun _ _ _ _ _ _ us hl => match us, hl with | [_, _], _ => rfl
  have F14 := fun_mk (st := s_law_packs) l14 c14 k14
  have b14 := F14.binds (ps := ["tape", "many", "most"]) fun _ _ _ _ _ _ us hl => match us, hl with | [_, _, _], _ => rfl
  have F15 := fun_mk (st := s_first_pieces) l15 c15 k15
  have b15 := F15.binds (ps := ["pieces", "goal", "start"]) fun _ _ _ _ _ _ us hl => match us, hl with | [_, _, _], _ => rfl
  have F16 := fun_mk (st := s_just_so) l16 c16 k16
  have b16 := F16.binds (ps := ["pieces", "b"]) fun _ _ _ _ _ _ us hl => match us, hl with | [_, _], _ => rfl
  have F17 := fun_mk (st := s_cost_far) l17 c17 k17
  have b17 := F17.binds (ps := ["packs", "s"]) fun _ _ _ _ _ _ us hl => match us, hl with | [_, _], _ => rfl
  have F18 := fun_mk (st := s_amount_of) l18 c18 k18
  have b18 := F18.binds (ps := ["packs", "purchase"]) fun _ _ _ _ _ _ us hl => match us, hl with | [_, _], _ => rfl
  have F19 := fun_mk (st := s_cheapest) l19 c19 k19
  have b19 := F19.binds (ps := ["packs", "s"]) fun _ _ _ _ _ _ us hl => match us, hl with | [_, _], _ => rfl
  have F20 := fun_mk (st := s_law) l20 c20 k20
  refine ⟨PySem.W.fnOf "law" "law" (defArgs s_law) (defBody s_law) (defScope s_law) .none kV20 dc20 pm20 an20 cd20 ct20, fun s v => .of_eq rfl, fun base _ _ => ?_⟩
  have D_law_tape : Def l.prog w K mg base 1 "_law_tape" d_law_tape := ⟨f1, _, ["script"], ok_law_tape T F1 , PySem.W.mg_of X G a1, F1.kp, b1⟩
  have D_best_pack : Def l.prog w K mg base 1 "best_pack" d_best_pack := ⟨f2, _, ["packs"], ok_best_pack T F2 , PySem.W.mg_of X G a2, F2.kp, b2⟩
  have D_cost_ladder : Def l.prog w K mg base 1 "cost_ladder" d_cost_ladder := ⟨f3, _, ["packs", "s"], ok_cost_ladder T F3 , PySem.W.mg_of X G a3, F3.kp, b3⟩
  have D_turning_point : Def l.prog w K mg base 2 "turning_point" d_turning_point := ⟨f4, _, ["packs"], ok_turning_point T F4 D_best_pack, PySem.W.mg_of X G a4, F4.kp, b4⟩
  have D_rounds_from : Def l.prog w K mg base 3 "rounds_from" d_rounds_from := ⟨f5, _, ["packs"], ok_rounds_from T F5 D_best_pack D_turning_point D_cost_ladder, PySem.W.mg_of X G a5, F5.kp, b5⟩
  have D_floor : Def l.prog w K mg base 1 "floor" d_floor := ⟨f6, _, ["packs"], ok_floor T F6 , PySem.W.mg_of X G a6, F6.kp, b6⟩
  have D_least_over : Def l.prog w K mg base 2 "least_over" d_least_over := ⟨f7, _, ["packs", "s"], ok_least_over T F7 D_floor, PySem.W.mg_of X G a7, F7.kp, b7⟩
  have D_next_sums : Def l.prog w K mg base 1 "next_sums" d_next_sums := ⟨f8, _, ["row", "piece", "b"], ok_next_sums T F8 , PySem.W.mg_of X G a8, F8.kp, b8⟩
  have D_sum_rows : Def l.prog w K mg base 2 "sum_rows" d_sum_rows := ⟨f9, _, ["pieces", "b"], ok_sum_rows T F9 D_next_sums, PySem.W.mg_of X G a9, F9.kp, b9⟩
  have D_least_prices : Def l.prog w K mg base 1 "least_prices" d_least_prices := ⟨f10, _, ["packs", "b"], ok_least_prices T F10 , PySem.W.mg_of X G a10, F10.kp, b10⟩
  have D_front : Def l.prog w K mg base 2 "front" d_front := ⟨f11, _, ["packs", "b"], ok_front T F11 D_least_prices, PySem.W.mg_of X G a11, F11.kp, b11⟩
  have D_law_mix : Def l.prog w K mg base 1 "_law_mix" d_law_mix := ⟨f12, _, ["number"], ok_law_mix T F12 , PySem.W.mg_of X G a12, F12.kp, b12⟩
  have D_law_take : Def l.prog w K mg base 2 "_law_take" d_law_take := ⟨f13, _, ["tape", "many"], ok_law_take T F13 D_law_mix, PySem.W.mg_of X G a13, F13.kp, b13⟩
  have D_law_packs : Def l.prog w K mg base 3 "_law_packs" d_law_packs := ⟨f14, _, ["tape", "many", "most"], ok_law_packs T F14 D_law_take, PySem.W.mg_of X G a14, F14.kp, b14⟩
  have D_first_pieces : Def l.prog w K mg base 16 "first_pieces" (d_first_pieces 14) := ⟨f15, _, ["pieces", "goal", "start"], (ok_first_pieces T F15 (PySem.W.mg_of X G a15) b15 D_sum_rows 14).mono (by decide), PySem.W.mg_of X G a15, F15.kp, b15⟩
  have D_just_so : Def l.prog w K mg base 17 "just_so" d_just_so := ⟨f16, _, ["pieces", "b"], ok_just_so T F16 D_sum_rows D_first_pieces, PySem.W.mg_of X G a16, F16.kp, b16⟩
  have D_cost_far : Def l.prog w K mg base 3 "cost_far" d_cost_far := ⟨f17, _, ["packs", "s"], ok_cost_far T F17 D_best_pack D_turning_point D_cost_ladder, PySem.W.mg_of X G a17, F17.kp, b17⟩
  have D_amount_of : Def l.prog w K mg base 1 "amount_of" d_amount_of := ⟨f18, _, ["packs", "purchase"], ok_amount_of T F18 , PySem.W.mg_of X G a18, F18.kp, b18⟩
  have D_cheapest : Def l.prog w K mg base 2 "cheapest" d_cheapest := ⟨f19, _, ["packs", "s"], ok_cheapest T F19 D_cost_ladder, PySem.W.mg_of X G a19, F19.kp, b19⟩
  exact ok_law T F20 D_law_tape D_best_pack D_cost_ladder D_rounds_from D_least_over D_sum_rows D_front D_law_packs D_law_take D_floor D_just_so D_cost_far D_amount_of D_cheapest
theorem law_sp {K : Frg} {H : Hp} {a : Addr} {ns : List Int} (hl : ns.length ≤ 63) (h : SqL K H a (ns.map V.int)) : spD K d_law [.ref a] H (fun v _ => v = .bl true) fun _ _ _ => False := by
  obtain ⟨B', e⟩ := law_den ns hl
  refine ⟨H, none, ⟨[], [], false⟩, [.scr ns], .dat (.bool true), B', Ext.refl H, ⟨fun p z => (nomatch z), rfl⟩, .cons ⟨a, rfl, h⟩ .nil, e, fun v H' F' b' _ _ _ q => ?_⟩
  cases (show Rp K F' v (.bool true) from q)
  rfl
end Dn
open PySem PySem.W PyProof.Rows
set_option maxHeartbeats 0 in
theorem PySem.Challenge.cw_pantrykept_k63_whole_costs_that_grow_holds : PySem.Challenge.rw_pantrykept_k63_whole_costs_that_grow.Holds := by
  w_on; o_law; k_head; (case hw => w_witness2)
  k_fill
  refine L2.walk_of (l := PySem.Challenge.rw_pantrykept_k63_whole_costs_that_grow) (n := 63) (k := 18) (x := "script") (CX := fun _ => L2.CX0) (sp := fun w => Dn.spD _ Dn.d_law) rfl (by decide) rfl ⟨rfl, by decide, by decide⟩ (fun w h Y => PySem.W.kIn_of Y) ?F (fun _ _ a ns hl _ hS => Dn.law_sp hl hS) (fun _ _ _ _ _ h => h)
  case F =>
    intro w mg fa h KX G hmg
    refine' Dn.all_mk KX G hmg ?a1 ?l1 ?c1 ?k1 ?a2 ?l2 ?c2 ?k2 ?a3 ?l3 ?c3 ?k3 ?a4 ?l4 ?c4 ?k4 ?a5 ?l5 ?c5 ?k5 ?a6 ?l6 ?c6 ?k6 ?a7 ?l7 ?c7 ?k7 ?a8 ?l8 ?c8 ?k8 ?a9 ?l9 ?c9 ?k9 ?a10 ?l10 ?c10 ?k10 ?a11 ?l11 ?c11 ?k11 ?a12 ?l12 ?c12 ?k12 ?a13 ?l13 ?c13 ?k13 ?a14 ?l14 ?c14 ?k14 ?a15 ?l15 ?c15 ?k15 ?a16 ?l16 ?c16 ?k16 ?a17 ?l17 ?c17 ?k17 ?a18 ?l18 ?c18 ?k18 ?a19 ?l19 ?c19 ?k19 ?a20 ?l20 ?c20 ?k20 ?z0 ?z1 ?z2 ?z3 ?z4 ?z5 ?z6 ?z7 ?z8 ?z9 ?z10 ?z11 ?z12 ?z13 ?z14
    (case a1 => k_is); (case l1 => k_is); (case c1 => k_is); (case k1 => k_is); (case a2 => k_is); (case l2 => k_is); (case c2 => k_is); (case k2 => k_is); (case a3 => k_is); (case l3 => k_is); (case c3 => k_is); (case k3 => k_is); (case a4 => k_is); (case l4 => k_is); (case c4 => k_is); (case k4 => k_is); (case a5 => k_is); (case l5 => k_is); (case c5 => k_is); (case k5 => k_is); (case a6 => k_is); (case l6 => k_is); (case c6 => k_is); (case k6 => k_is); (case a7 => k_is); (case l7 => k_is); (case c7 => k_is); (case k7 => k_is); (case a8 => k_is); (case l8 => k_is); (case c8 => k_is); (case k8 => k_is); (case a9 => k_is); (case l9 => k_is); (case c9 => k_is); (case k9 => k_is); (case a10 => k_is); (case l10 => k_is); (case c10 => k_is); (case k10 => k_is); (case a11 => k_is); (case l11 => k_is); (case c11 => k_is); (case k11 => k_is); (case a12 => k_is); (case l12 => k_is); (case c12 => k_is); (case k12 => k_is); (case a13 => k_is); (case l13 => k_is); (case c13 => k_is); (case k13 => k_is); (case a14 => k_is); (case l14 => k_is); (case c14 => k_is); (case k14 => k_is); (case a15 => k_is); (case l15 => k_is); (case c15 => k_is); (case k15 => k_is); (case a16 => k_is); (case l16 => k_is); (case c16 => k_is); (case k16 => k_is); (case a17 => k_is); (case l17 => k_is); (case c17 => k_is); (case k17 => k_is); (case a18 => k_is); (case l18 => k_is); (case c18 => k_is); (case k18 => k_is); (case a19 => k_is); (case l19 => k_is); (case c19 => k_is); (case k19 => k_is); (case a20 => k_is); (case l20 => k_is); (case c20 => k_is); (case k20 => k_is); (case z0 => k_is); (case z1 => k_is); (case z2 => k_is); (case z3 => k_is); (case z4 => k_is); (case z5 => k_is); (case z6 => k_is); (case z7 => k_is); (case z8 => k_is); (case z9 => k_is); (case z10 => k_is); (case z11 => k_is); (case z12 => k_is); (case z13 => k_is); (case z14 => k_is)

